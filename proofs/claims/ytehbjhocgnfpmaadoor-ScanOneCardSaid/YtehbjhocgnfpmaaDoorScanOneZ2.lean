/- The law ScanOne: what its proof needs, part 2. -/
import Derived.Test.YtehbjhocgnfpmaaDoorScanOneZ1
import Derived.Test.YtehbjhocgnfpmaaDoorProg
import Derived.Laws.Bits64b
import Derived.Shelf.Small.Bits
import Derived.Shelf.Strconv.Itoa0
import Derived.Shelf.Strings.Search1
import Derived.Shelf.Bytes.SlIndexSmall
import Derived.Ground.SlbNamesProg
import Derived.Shelf.Bytes.SlCountOne
import Derived.Shelf.Bytes.SlIndexAt
import Derived.Shelf.Bytes.SlSearch0
import Derived.Shelf.Bytes.SlSearch1
import Derived.Shelf.Bytes.SlSearch2
import Derived.Shelf.Bytes.SlIndexWhole
import Derived.Shelf.LaysM
import Derived.Shelf.Bytes.SlCountWhole
import Derived.Shelf.Bytes.SlSplit
import Derived.Shelf.Bytes.SlEqualAll
import Derived.Shelf.Bytes.Small
import Derived.Shelf.Bytes.IndexByte
import Derived.Lib.ItoaNum
import Derived.Laws.CopyRow
import Derived.Laws.IdiomCopy
/- Slices of structs of three ints: an element's cells; mezzotintref.Eq at them. -/
namespace Go.Proofs.YtehbjhocgnfpmaaDoor
open Go.RowKit
set_option linter.unusedVariables false
theorem trip_at {W : World} {ad : Option Addr} {n c : Nat} {ns : List Int} (hv : Sl W 3 (.slice ad n c) n (ns.map (Value.int .i64))) (i : Nat) (hi : i < n) :
 ∃ b off, ad = some ⟨b, off, none⟩ ∧ W.rangeAt b (off + i * 3) ([nth ns (i * 3), nth ns (i * 3 + 1), nth ns (i * 3 + 2)].map (Value.int .i64)) := by
 obtain ⟨hl, a', c', e, _, _, hor⟩ := hv
 rw [List.length_map] at hl
 cases e
 rcases hor with h | ⟨b, off, rfl, hcell⟩
 · omega
 · refine ⟨b, off, rfl, fun j u hu => ?_⟩
   have hj : j < 3 := by have := (List.getElem?_eq_some_iff.1 hu).1; simpa using this
   have h1 := hcell (i * 3 + j) (by omega)
   rw [List.getElem?_map, get_nth ns _ (by omega)] at h1
   rw [Nat.add_assoc, h1, ← hu]
   rcases (show j = 0 ∨ j = 1 ∨ j = 2 by omega) with rfl | rfl | rfl <;> rfl
theorem trip_take (ns : List Int) (n i : Nat) (hl : ns.length = n * 3) (hi : i < n) : ns.take ((i + 1) * 3) = ns.take (i * 3) ++ [nth ns (i * 3), nth ns (i * 3 + 1), nth ns (i * 3 + 2)] := by
 have g : ∀ j (hj : j < ns.length), nth ns j = ns[j] := fun j hj => by simp [nth, List.getD, hj]
 rw [show (i + 1) * 3 = i * 3 + 1 + 1 + 1 by omega, List.take_succ_eq_append_getElem (by omega), List.take_succ_eq_append_getElem (by omega), List.take_succ_eq_append_getElem (by omega), g _ (by omega), g _ (by omega), g _ (by omega), List.append_assoc, List.append_assoc]; rfl
set_option maxRecDepth 100000 in
set_option maxHeartbeats 4000000 in
theorem slEqTok_any (w0 : World) (a b : Option Addr) (n c m d : Nat) (xs ys : List Int) (ha : Sl w0 3 (.slice a n c) n (xs.map (Value.int .i64))) (hb : Sl w0 3 (.slice b m d) m (ys.map (Value.int .i64))) (hn : n ≤ 9223372036854775807) (hm : m ≤ 9223372036854775807) :
 Calls Tryd.prog 74 #[.slice a n c, .slice b m d] w0 fun e w => e = .returned (.bool (decide (xs = ys))) ∧ Ext w0 w := by
 have hlx : xs.length = n * 3 := by have := ha.1; simpa using this
 have hly : ys.length = m * 3 := by have := hb.1; simpa using this
 have HX := hid hlx
 have HY := hid hly
 clear hlx hly
 have hS := St.start w0
 by_cases hnm : n = m
 case neg =>
  have HD := hid (show decide (xs = ys) = false by rw [decide_eq_false_iff_not]; intro h; rw [h] at HX; have := HX.out; have := HY.out; omega)
  go_enter Tryd.func74, Tryd.ntmps74
  repeat' (first
   | (refine y91 ?_) | (refine y996 ?_) | (refine y992 ?_) | ((fail_if_success with_reducible refine ga9 ?_); go_step))
  all_goals (go_ret; exact ⟨(by rw [HD.out]; first | done | rfl), hS.1⟩)
 subst hnm
 go_enter Tryd.func74, Tryd.ntmps74
 repeat' (first
  | (refine y91 ?_) | (refine y996 ?_) | (refine y992 ?_) | ((fail_if_success with_reducible refine ga9 ?_); go_step))
 go_loopg [13] n (fun gk kv w => ∃ k : Nat, gk + k = n ∧ kv = .int .i64 k ∧ Hid (xs.take (k * 3) = ys.take (k * 3)) ∧ St w0 w [])
 case atStart => exact ⟨0, rfl, rfl, hid rfl, hS.sub sb9⟩
 case round =>
  clear hS
  obtain ⟨k, hk, rfl, HP, hS⟩ := hrel
  by_cases hlt : k < n
  · obtain ⟨ba, oa, rfl, hra⟩ := trip_at ha k hlt
    obtain ⟨bb, ob, rfl, hrb⟩ := trip_at hb k hlt
    have HT1 := hid (trip_take xs n k HX.out hlt)
    have HT2 := hid (trip_take ys n k HY.out hlt)
    obtain ⟨x0, hx0⟩ : ∃ x, nth xs (k * 3) = x := ⟨_, rfl⟩
    obtain ⟨x1, hx1⟩ : ∃ x, nth xs (k * 3 + 1) = x := ⟨_, rfl⟩
    obtain ⟨x2, hx2⟩ : ∃ x, nth xs (k * 3 + 2) = x := ⟨_, rfl⟩
    obtain ⟨y0, hy0⟩ : ∃ x, nth ys (k * 3) = x := ⟨_, rfl⟩
    obtain ⟨y1, hy1⟩ : ∃ x, nth ys (k * 3 + 1) = x := ⟨_, rfl⟩
    obtain ⟨y2, hy2⟩ : ∃ x, nth ys (k * 3 + 2) = x := ⟨_, rfl⟩
    rw [hx0, hx1, hx2] at hra HT1
    rw [hy0, hy1, hy2] at hrb HT2
    clear hx0 hx1 hx2 hy0 hy1 hy2
    have hl3 : Len [x0, x1, x2] 3 := rfl
    have hm3 : Len [y0, y1, y2] 3 := rfl
    repeat' (first
     | (refine y91 ?_) | (refine y990 ?_) | ((fail_if_success with_reducible refine ga9 ?_); go_step))
    refine drawn_lit [] (fun w => St w0 w []) kr9 ?_
    replace hS := hS.drew
    focus
     refine takeM 0 _ al9 kr9 kr9 kr9 hq9 rfl ?_
     go_step
     refine takeM 1 _ al9 kr9 kr9 kr9 hq9 rfl ?_
     go_step
     (refine takeV 2 _ al9 kr9 kr9 kr9 hq9 (V.indexSl Tryd.underlying100 isz69 rfl rfl isn9 (by omega) rfl nq9) rfl ?_)
     go_step
     apply takeS 3 al9 kr9 kr9 kr9 hq9 [8] kr9 (hS.sub sb9)
     case hfr => intro w hS; ((refine wl9 ?_; apply wp_loadRW hS 69 _ rfl _ _ rfl 3 (row_of rfl) _; (case hc => with_reducible assumption); (case hn => rfl); refine put_move ?_; go_step)); refine wpList_nil ?_; exact ⟨rfl, rfl⟩
     case hd => rfl
     refine takeM 4 _ al9 kr9 kr9 kr9 hq9 rfl ?_
     go_step
     refine takeM 5 _ al9 kr9 kr9 kr9 hq9 rfl ?_
     go_step
     (refine takeV 6 _ al9 kr9 kr9 kr9 hq9 (V.indexSl Tryd.underlying100 isz69 rfl rfl isn9 (by omega) rfl nq9) rfl ?_)
     go_step
     apply takeS 7 al9 kr9 kr9 kr9 hq9 [8] kr9 (hS.sub sb9)
     case hfr => intro w hS; ((refine wl9 ?_; apply wp_loadRI hS 69 _ rfl _ _ rfl 3 (row_of rfl) _; (case hl => with_reducible assumption); (case hr => with_reducible assumption); refine put_move ?_; go_step)); refine wpList_nil ?_; exact ⟨rfl, rfl⟩
     case hd => rfl
     (refine takeV 8 _ al9 kr9 kr9 kr9 hq9 (V.neqA eqt69 rfl rfl (by (repeat (first | assumption | exact Len.rep | apply Len.set | ((with_reducible show Len (_ :: _) _); exact rfl)))) (by (repeat (first | assumption | exact Len.rep | apply Len.set | ((with_reducible show Len (_ :: _) _); exact rfl))))) rfl ?_)
     go_step
     refine drawn_done kr9 ?_ _
    all_goals
     by_cases he : [x0, x1, x2] = [y0, y1, y2]
     · have HE2 : Hid (xs.take ((k + 1) * 3) = ys.take ((k + 1) * 3)) := hid (by rw [HT1.out, HT2.out, HP.out, he])
       have hd : decide ([x0, x1, x2] ≠ [y0, y1, y2]) = false := by simpa using he
       rw [hd]
       clear he hd
       repeat' (first
        | (refine y9146 ?_) | (refine y985 ?_) | ((fail_if_success with_reducible refine ga9 ?_); go_step))
       go_roundg (gk - 1)
       case measure => omega
       case rel => exact ⟨k + 1, by omega, by go_num, HE2, hS.sub sb9⟩
     · have HD := hid (show decide (xs = ys) = false by
        rw [decide_eq_false_iff_not]; intro h
        have h1 := HT1.out
        have h2 := HT2.out
        rw [h] at h1
        rw [h1, ← h, HP.out] at h2
        exact he (List.append_cancel_left h2))
       have hd : decide ([x0, x1, x2] ≠ [y0, y1, y2]) = true := decide_eq_true he
       rw [hd]
       clear he hd
       repeat' (first
        | (refine y92 ?_) | ((fail_if_success with_reducible refine ga9 ?_); go_step))
       go_ret
       exact ⟨(by rw [HD.out]; first | done | rfl), hS.1⟩
  · obtain rfl : k = n := by omega
    have HD := hid (show decide (xs = ys) = true by
     rw [decide_eq_true_eq]
     have := HP.out
     rwa [List.take_of_length_le (by rw [HX.out]; exact Nat.le_refl _), List.take_of_length_le (by rw [HY.out]; exact Nat.le_refl _)] at this)
    repeat' (first
     | (refine y92 ?_) | (refine y990 ?_) | ((fail_if_success with_reducible refine ga9 ?_); go_step))
    go_ret
    exact ⟨(by rw [HD.out]; first | done | rfl), hS.1⟩

end Go.Proofs.YtehbjhocgnfpmaaDoor
/- The walks of quant.Round, of tint.three, tint.To, tint.From (all samples in their bounds), and of mezzotintref.Rest. -/
namespace Go.Proofs.YtehbjhocgnfpmaaDoor
open Go.RowKit

theorem rest_any (n m : Int) (w : World) (hm : 0 < m) (hm2 : m ≤ 9223372036854775807) :
 Calls Tryd.prog 32 #[.int .i64 n, .int .i64 m] w fun e w' => e = .returned (.int .i64 (n % m)) ∧ w = w' := by
 have h0 := emod_of_tmod_neg n m hm
 have h1 := emod_of_tmod_pos n m hm
 have hb : n.tmod m ≤ m := by have := Int.tmod_lt_of_pos n hm; omega
 by_cases h : n.tmod m < 0
 · have H : Hid (n.tmod m + m = n % m) := h0 h
   clear h0 h1
   have hb2 : -m < n.tmod m := by have := Int.lt_tmod_of_pos n hm; omega
   go_enter Tryd.func32, Tryd.ntmps32
   go_wp2
   go_ret
   exact ⟨ret_int H.out, rfl⟩
 · have H : Hid (n.tmod m = n % m) := h1 (by omega)
   clear h0 h1
   have h3 : 0 ≤ n.tmod m := by omega
   clear h
   go_enter Tryd.func32, Tryd.ntmps32
   go_wp2
   go_ret
   exact ⟨ret_int H.out, rfl⟩


end Go.Proofs.YtehbjhocgnfpmaaDoor
/- The writer of bits: what it holds, and the walks of its methods. -/
namespace Go.Proofs.YtehbjhocgnfpmaaDoor
set_option maxRecDepth 100000
open Go.RowKit
theorem pow_lt (n m : Nat) (h : n ≤ m) : 2 ^ n ≤ 2 ^ m := Nat.pow_le_pow_right (by omega) h
theorem or_num (A v width : Nat) (hA : A < 128) (hw : width ≤ 24) (hv : v < 2 ^ width) : bits .or .u64 (IntKind.u64.wrap ((A : Int) * 2 ^ width)) (v : Int) = ((A * 2 ^ width + v : Nat) : Int) := by
 have h1 : A * 2 ^ width < 128 * 16777216 := by
  have h2 := pow_lt width 24 hw
  have h3 : A * 2 ^ width ≤ 127 * 2 ^ 24 := Nat.mul_le_mul (by omega) h2
  omega
 have h4 := Nat.lt_of_lt_of_le hv (pow_lt width 24 hw)
 have e1 : IntKind.u64.wrap ((A : Int) * 2 ^ width) = ((A * 2 ^ width : Nat) : Int) := by
  rw [show (A : Int) * 2 ^ width = ((A * 2 ^ width : Nat) : Int) by push_cast; rfl]
  generalize A * 2 ^ width = x at h1
  simp [IntKind.wrap, IntKind.signed, IntKind.bits]
  omega
 rw [e1, bits_or_u64_nat _ _ (by omega) (by omega)]
 congr 1
 rw [← Nat.shiftLeft_eq, Nat.shiftLeft_add_eq_or_of_lt hv]
theorem and_num (N R : Nat) (hN : N < 18446744073709551616) (hR : R < 64) : bits .and .u64 (N : Int) (IntKind.u64.wrap (IntKind.u64.wrap ((2 : Int) ^ R) - 1)) = ((N % 2 ^ R : Nat) : Int) := by
 have h1 : 2 ^ R ≤ 2 ^ 63 := pow_lt R 63 (by omega)
 have h0 : 0 < 2 ^ R := Nat.two_pow_pos R
 have e1 : IntKind.u64.wrap (IntKind.u64.wrap ((2 : Int) ^ R) - 1) = ((2 ^ R - 1 : Nat) : Int) := by
  rw [show (2 : Int) ^ R = ((2 ^ R : Nat) : Int) by push_cast; rfl]
  generalize 2 ^ R = x at h1 h0
  simp [IntKind.wrap, IntKind.signed, IntKind.bits]
  omega
 rw [e1, bits_and_u64_nat _ _ hN (by omega), Nat.and_two_pow_sub_one_eq_mod]
def wr (g : Nat) (bs : List Bool) : Res := bag fun x : Option Addr × Nat =>
 [blk g [.slice x.1 (bs.length / 8) x.2, .int .u64 (num (bs.drop (8 * (bs.length / 8))) : Nat), .int .i64 (bs.length % 8 : Nat)],
  own 5 1 x.1 (bs.length / 8) x.2 (bv (packs (bs.length / 8) bs))]
set_option maxHeartbeats 2000000 in
theorem put_any (W w : World) (rs rs' : List Res) (g : Nat) (bs : List Bool) (width value : Nat) (hS : St W w rs) (hp : Pull (wr g bs) rs rs') (hw : width ≤ 24) (hv : value < 2 ^ width) (hb : bs.length + width ≤ 1099511627776) :
 Calls Tryd.prog 41 #[.pointer (some ⟨g, 0, none⟩), .int .i64 width, .int .i64 value] w fun e w' => e = .returned (.tuple #[]) ∧ St W w' (wr g (bs ++ bitsOf width value) :: rs') := by
 obtain ⟨⟨ad, c⟩, hS⟩ := (hS.pull hp).open
 have hv24 : value < 16777216 := Nat.lt_of_lt_of_le hv (Nat.pow_le_pow_right (n := 2) (by omega) hw)
 have hrl : (bs.drop (8 * (bs.length / 8))).length = bs.length % 8 := by simp; omega
 have hr8 : num (bs.drop (8 * (bs.length / 8))) < 128 := by
  have h1 := num_lt (bs.drop (8 * (bs.length / 8)))
  rw [hrl] at h1
  exact Nat.lt_of_lt_of_le h1 (Nat.pow_le_pow_right (n := 2) (j := 7) (by omega) (by omega))
 dsimp only [List.cons_append, List.nil_append] at hS
 generalize hA : num (bs.drop (8 * (bs.length / 8))) = A at *
 generalize hM : bs.length % 8 = M at *
 have hm8 : M < 8 := by omega
 have HOR := hid (or_num A value width (by omega) hw hv)
 go_enter Tryd.func41, Tryd.ntmps41
 go_wp2_with (first
  | ((with_reducible refine gt9 _ (.load 76 _) ?_); first | (refine wpl rfl (wp_load1 hS 76 _ rfl _ _ rfl (one_of rfl) _ pl9 _ (by rfl) ?_); refine wpl_put (by (simp only [Act.put, List.setIfInBounds_toArray, List.set_cons_zero, List.set_cons_succ]); exact rfl) ?_) | (refine wpl rfl (wp_load1O hS 76 _ rfl _ _ rfl (one_of rfl) _ _ _ _ _ pl9 _ (by with_reducible assumption) ?_); refine wpl_put (by (simp only [Act.put, List.setIfInBounds_toArray, List.set_cons_zero, List.set_cons_succ]); exact rfl) ?_) | (refine wpl rfl (wp_loadW hS 76 _ rfl _ rfl (one_of rfl) _ (by with_reducible assumption) ?_); refine wpl_put (by (simp only [Act.put, List.setIfInBounds_toArray, List.set_cons_zero, List.set_cons_succ]); exact rfl) ?_)) | ((with_reducible refine gt9 _ (.store 76 _ _) ?_); first | (refine wpl rfl (wp_store1 hS 76 _ _ rfl _ _ rfl (one_of rfl) _ _ pl9 _ isv9 (by rfl) (by (repeat (first | with_reducible exact SetAt.head | apply SetAt.tail))) rfl ?_); clear hS; intro w hS)) | ((with_reducible refine gt9 _ (.load 3 _) ?_); first | (refine wpl rfl (wp_load1A hS 3 _ rfl _ _ rfl (one_of rfl) _ _ pl9 (by omega) ?_); refine wpl_put (by (simp only [Act.put, List.setIfInBounds_toArray, List.set_cons_zero, List.set_cons_succ]); exact rfl) ?_) | (refine wpl rfl (wp_load1 hS 3 _ rfl _ _ rfl (one_of rfl) _ pl9 _ (by rfl) ?_); refine wpl_put (by (simp only [Act.put, List.setIfInBounds_toArray, List.set_cons_zero, List.set_cons_succ]); exact rfl) ?_) | (refine wpl rfl (wp_load1O hS 3 _ rfl _ _ rfl (one_of rfl) _ _ _ _ _ pl9 _ (by with_reducible assumption) ?_); refine wpl_put (by (simp only [Act.put, List.setIfInBounds_toArray, List.set_cons_zero, List.set_cons_succ]); exact rfl) ?_) | (refine wpl rfl (wp_loadW hS 3 _ rfl _ rfl (one_of rfl) _ (by with_reducible assumption) ?_); refine wpl_put (by (simp only [Act.put, List.setIfInBounds_toArray, List.set_cons_zero, List.set_cons_succ]); exact rfl) ?_)) | ((with_reducible refine gt9 _ (.store 3 _ _) ?_); first | (refine wpl rfl (wp_store1A hS 3 _ _ rfl _ _ rfl (one_of rfl) _ _ pl9 _ (by rfl) (by omega) rfl ?_); clear hS; intro w hS) | (refine wpl rfl (wp_store1 hS 3 _ _ rfl _ _ rfl (one_of rfl) _ _ pl9 _ isv9 (by rfl) (by (repeat (first | with_reducible exact SetAt.head | apply SetAt.tail))) rfl ?_); clear hS; intro w hS)) | ((with_reducible refine gt9 _ (.load 34 _) ?_); first | (refine wpl rfl (wp_load1 hS 34 _ rfl _ _ rfl (one_of rfl) _ pl9 _ (by rfl) ?_); refine wpl_put (by (simp only [Act.put, List.setIfInBounds_toArray, List.set_cons_zero, List.set_cons_succ]); exact rfl) ?_) | (refine wpl rfl (wp_load1O hS 34 _ rfl _ _ rfl (one_of rfl) _ _ _ _ _ pl9 _ (by with_reducible assumption) ?_); refine wpl_put (by (simp only [Act.put, List.setIfInBounds_toArray, List.set_cons_zero, List.set_cons_succ]); exact rfl) ?_) | (refine wpl rfl (wp_loadW hS 34 _ rfl _ rfl (one_of rfl) _ (by with_reducible assumption) ?_); refine wpl_put (by (simp only [Act.put, List.setIfInBounds_toArray, List.set_cons_zero, List.set_cons_succ]); exact rfl) ?_)) | ((with_reducible refine gs9 54 ?_); first | (refine wpl rfl (wp_buildSlice1 (o := ⟨some 54, _, _, _, _, _⟩) hS 34 1 _ rfl 5 1 1 el34 _ _ (by (repeat (first | exact Parts.nil | (apply Parts.agg; (rfl); (rfl)) | (apply Parts.one; exact isv9; (rfl); (rfl))))) (by rfl) (by decide) (by decide) ?_); clear hS; intro g54 w hS; refine wpl_put (by (simp only [Act.put, List.setIfInBounds_toArray, List.set_cons_zero, List.set_cons_succ]); exact rfl) ?_)) | ((with_reducible refine gt9 _ (.store 34 _ _) ?_); first | (refine wpl rfl (wp_store1 hS 34 _ _ rfl _ _ rfl (one_of rfl) _ _ pl9 _ isv9 (by rfl) (by (repeat (first | with_reducible exact SetAt.head | apply SetAt.tail))) rfl ?_); clear hS; intro w hS))
   | (first | refine stop_load ?_ | refine stop_store ?_ | refine stop_alloc ?_ | refine stop_box ?_))
 rw [HOR.out] at hS
 have HN := hid (show num (bs.drop (8 * (bs.length / 8)) ++ bitsOf width value) = A * 2 ^ width + value by rw [num_append, bitsOf_len, num_bitsOf_lt _ _ hv, hA])
 have HT := hid (show (bs.drop (8 * (bs.length / 8)) ++ bitsOf width value).length = M + width by rw [List.length_append, bitsOf_len, hrl])
 generalize hT : M + width = T at *
 generalize hN : A * 2 ^ width + value = N at *
 generalize hq : bs.length / 8 = q at *
 have hBl : bs.length = 8 * q + M := by omega
 have hX : packs (q + 0) (bs ++ bitsOf width value) = packs q bs := packs_append q bs _ (by omega)
 rw [← hX] at hS
 rw [show ((M : Int) + (width : Int)) = ((T : Nat) : Int) by omega] at hS
 clear hX
 go_loopg [] 4 (fun gk wr => ∃ (j : Nat) (ad' : Option Addr) (c' : Nat), gk + j = 4 ∧ 8 * j ≤ T ∧ St W wr (blk g [.slice ad' (q + j) c', .int .u64 (N : Nat), .int .i64 (T - 8 * j : Nat)] :: own 5 1 ad' (q + j) c' (bv (packs (q + j) (bs ++ bitsOf width value))) :: rs'))
 case atStart => exact ⟨0, ad, c, rfl, by omega, hS⟩
 case round =>
  clear hS
  obtain ⟨j, ad', c', hj, hjT, hS⟩ := hrel
  generalize hR : T - 8 * j = R at *
  by_cases h8 : 8 ≤ R
  · obtain ⟨r, hr⟩ : ∃ r, R = r + 8 := ⟨R - 8, by omega⟩
    have hb1 : IntKind.i64.wrap ((R : Int) - 8) = (r : Int) := by simp [IntKind.wrap, IntKind.signed, IntKind.bits]; omega
    have hb2 : (0 : Int) ≤ (r : Int) := by omega
    have hb3 : (r : Int) < 64 := by omega
    have HR := hid hr
    have HP := hid (show q + j + 1 ≤ maxLen ∧ (q + j + 1) * 1 ≤ 140737488355328 by unfold maxLen; omega)
    clear hr
    have HBy : Hid ((N : Int) / 2 ^ r % 256 = ((num (((bs ++ bitsOf width value).drop (8 * (q + j))).take 8) : Nat) : Int)) := by
     have h1 := num_window (bs.drop (8 * q) ++ bitsOf width value) (8 * j) 8 (by rw [HT.out]; omega)
     rw [HT.out, HN.out, show T - 8 * j - 8 = r by have := HR.out; omega] at h1
     have h2 : (bs ++ bitsOf width value).drop (8 * (q + j)) = (bs.drop (8 * q) ++ bitsOf width value).drop (8 * j) := by
      rw [Nat.mul_add, ← List.drop_drop, List.drop_append_of_le_length (by omega)]
     unfold Hid
     rw [h2, h1]
     have h3 : ((N : Int) / 2 ^ r) = ((N / 2 ^ r : Nat) : Int) := by push_cast; rfl
     rw [h3]
     generalize N / 2 ^ r = y
     simp
    go_wp2_with (first
     | ((with_reducible refine gt9 _ (.load 76 _) ?_); first | (refine wpl rfl (wp_load1 hS 76 _ rfl _ _ rfl (one_of rfl) _ pl9 _ (by rfl) ?_); refine wpl_put (by (simp only [Act.put, List.setIfInBounds_toArray, List.set_cons_zero, List.set_cons_succ]); exact rfl) ?_) | (refine wpl rfl (wp_load1O hS 76 _ rfl _ _ rfl (one_of rfl) _ _ _ _ _ pl9 _ (by with_reducible assumption) ?_); refine wpl_put (by (simp only [Act.put, List.setIfInBounds_toArray, List.set_cons_zero, List.set_cons_succ]); exact rfl) ?_) | (refine wpl rfl (wp_loadW hS 76 _ rfl _ rfl (one_of rfl) _ (by with_reducible assumption) ?_); refine wpl_put (by (simp only [Act.put, List.setIfInBounds_toArray, List.set_cons_zero, List.set_cons_succ]); exact rfl) ?_)) | ((with_reducible refine gt9 _ (.store 76 _ _) ?_); first | (refine wpl rfl (wp_store1 hS 76 _ _ rfl _ _ rfl (one_of rfl) _ _ pl9 _ isv9 (by rfl) (by (repeat (first | with_reducible exact SetAt.head | apply SetAt.tail))) rfl ?_); clear hS; intro w hS)) | ((with_reducible refine gt9 _ (.load 3 _) ?_); first | (refine wpl rfl (wp_load1A hS 3 _ rfl _ _ rfl (one_of rfl) _ _ pl9 (by omega) ?_); refine wpl_put (by (simp only [Act.put, List.setIfInBounds_toArray, List.set_cons_zero, List.set_cons_succ]); exact rfl) ?_) | (refine wpl rfl (wp_load1 hS 3 _ rfl _ _ rfl (one_of rfl) _ pl9 _ (by rfl) ?_); refine wpl_put (by (simp only [Act.put, List.setIfInBounds_toArray, List.set_cons_zero, List.set_cons_succ]); exact rfl) ?_) | (refine wpl rfl (wp_load1O hS 3 _ rfl _ _ rfl (one_of rfl) _ _ _ _ _ pl9 _ (by with_reducible assumption) ?_); refine wpl_put (by (simp only [Act.put, List.setIfInBounds_toArray, List.set_cons_zero, List.set_cons_succ]); exact rfl) ?_) | (refine wpl rfl (wp_loadW hS 3 _ rfl _ rfl (one_of rfl) _ (by with_reducible assumption) ?_); refine wpl_put (by (simp only [Act.put, List.setIfInBounds_toArray, List.set_cons_zero, List.set_cons_succ]); exact rfl) ?_)) | ((with_reducible refine gt9 _ (.store 3 _ _) ?_); first | (refine wpl rfl (wp_store1A hS 3 _ _ rfl _ _ rfl (one_of rfl) _ _ pl9 _ (by rfl) (by omega) rfl ?_); clear hS; intro w hS) | (refine wpl rfl (wp_store1 hS 3 _ _ rfl _ _ rfl (one_of rfl) _ _ pl9 _ isv9 (by rfl) (by (repeat (first | with_reducible exact SetAt.head | apply SetAt.tail))) rfl ?_); clear hS; intro w hS)) | ((with_reducible refine gt9 _ (.load 34 _) ?_); first | (refine wpl rfl (wp_load1 hS 34 _ rfl _ _ rfl (one_of rfl) _ pl9 _ (by rfl) ?_); refine wpl_put (by (simp only [Act.put, List.setIfInBounds_toArray, List.set_cons_zero, List.set_cons_succ]); exact rfl) ?_) | (refine wpl rfl (wp_load1O hS 34 _ rfl _ _ rfl (one_of rfl) _ _ _ _ _ pl9 _ (by with_reducible assumption) ?_); refine wpl_put (by (simp only [Act.put, List.setIfInBounds_toArray, List.set_cons_zero, List.set_cons_succ]); exact rfl) ?_) | (refine wpl rfl (wp_loadW hS 34 _ rfl _ rfl (one_of rfl) _ (by with_reducible assumption) ?_); refine wpl_put (by (simp only [Act.put, List.setIfInBounds_toArray, List.set_cons_zero, List.set_cons_succ]); exact rfl) ?_)) | ((with_reducible refine gs9 54 ?_); first | (refine wpl rfl (wp_buildSlice1 (o := ⟨some 54, _, _, _, _, _⟩) hS 34 1 _ rfl 5 1 1 el34 _ _ (by (repeat (first | exact Parts.nil | (apply Parts.agg; (rfl); (rfl)) | (apply Parts.one; exact isv9; (rfl); (rfl))))) (by rfl) (by decide) (by decide) ?_); clear hS; intro g54 w hS; refine wpl_put (by (simp only [Act.put, List.setIfInBounds_toArray, List.set_cons_zero, List.set_cons_succ]); exact rfl) ?_)) | ((with_reducible refine gt9 _ (.store 34 _ _) ?_); first | (refine wpl rfl (wp_store1 hS 34 _ _ rfl _ _ rfl (one_of rfl) _ _ pl9 _ isv9 (by rfl) (by (repeat (first | with_reducible exact SetAt.head | apply SetAt.tail))) rfl ?_); clear hS; intro w hS))
      | (first | refine stop_load ?_ | refine stop_store ?_ | refine stop_alloc ?_ | refine stop_box ?_))
    refine drawn_lit [17, 20] (fun w => St W w [blk g [.slice ad' (q + j) c', .int .u64 (N : Nat), .int .i64 (R : Nat)]]) kr9 ?_
    replace hS := hS.drew
    apply takeP 0 al9 kr9 kr9 kr9 (fun _ _ _ _ h => h)
    case hfr => intro w; go_wp2_with fail; exact ⟨rfl, rfl⟩
    case hd => rfl
    apply takeP 1 al9 kr9 kr9 kr9 (fun _ _ _ _ h => h)
    case hfr => intro w; go_wp2_with fail; exact ⟨rfl, rfl⟩
    case hd => rfl
    apply takeP 2 al9 kr9 kr9 kr9 (fun _ _ _ _ h => h)
    case hfr => intro w; go_wp2_with fail; exact ⟨rfl, rfl⟩
    case hd => rfl
    apply takeP 3 al9 kr9 kr9 kr9 (fun _ _ _ _ h => h)
    case hfr => intro w; go_wp2_with fail; exact ⟨rfl, rfl⟩
    case hd => rfl
    apply takeS 4 al9 kr9 kr9 kr9 (fun _ _ _ _ h => h) [17, 18, 19, 20] kr9 (hS.sub sb9)
    case hfr => intro w hS; go_wp2_with (first | (refine wpl rfl (wp_load1 hS 34 _ rfl _ _ rfl (one_of rfl) _ pl9 _ (by rfl) ?_); refine wpl_put (by (simp only [Act.put, List.setIfInBounds_toArray, List.set_cons_zero, List.set_cons_succ]); exact rfl) ?_) | (refine wpl rfl (wp_load1O hS 34 _ rfl _ _ rfl (one_of rfl) _ _ _ _ _ pl9 _ (by with_reducible assumption) ?_); refine wpl_put (by (simp only [Act.put, List.setIfInBounds_toArray, List.set_cons_zero, List.set_cons_succ]); exact rfl) ?_) | (refine wpl rfl (wp_loadW hS 34 _ rfl _ rfl (one_of rfl) _ (by with_reducible assumption) ?_); refine wpl_put (by (simp only [Act.put, List.setIfInBounds_toArray, List.set_cons_zero, List.set_cons_succ]); exact rfl) ?_)); exact ⟨rfl, rfl⟩
    case hd => rfl
    apply takeP 5 al9 kr9 kr9 kr9 (fun _ _ _ _ h => h)
    case hfr => intro w; go_wp2_with fail; exact ⟨rfl, rfl⟩
    case hd => rfl
    apply takeP 6 al9 kr9 kr9 kr9 (fun _ _ _ _ h => h)
    case hfr => intro w; go_wp2_with fail; exact ⟨rfl, rfl⟩
    case hd => rfl
    apply takeP 7 al9 kr9 kr9 kr9 (fun _ _ _ _ h => h)
    case hfr => intro w; go_wp2_with fail; exact ⟨rfl, rfl⟩
    case hd => rfl
    apply takeS 8 al9 kr9 kr9 kr9 (fun _ _ _ _ h => h) [14, 15, 16, 17, 18, 19, 20] kr9 (hS.sub sb9)
    case hfr => intro w hS; go_wp2_with (first | (refine wpl rfl (wp_load1 hS 76 _ rfl _ _ rfl (one_of rfl) _ pl9 _ (by rfl) ?_); refine wpl_put (by (simp only [Act.put, List.setIfInBounds_toArray, List.set_cons_zero, List.set_cons_succ]); exact rfl) ?_) | (refine wpl rfl (wp_load1O hS 76 _ rfl _ _ rfl (one_of rfl) _ _ _ _ _ pl9 _ (by with_reducible assumption) ?_); refine wpl_put (by (simp only [Act.put, List.setIfInBounds_toArray, List.set_cons_zero, List.set_cons_succ]); exact rfl) ?_) | (refine wpl rfl (wp_loadW hS 76 _ rfl _ rfl (one_of rfl) _ (by with_reducible assumption) ?_); refine wpl_put (by (simp only [Act.put, List.setIfInBounds_toArray, List.set_cons_zero, List.set_cons_succ]); exact rfl) ?_)); exact ⟨rfl, rfl⟩
    case hd => rfl
    apply takeP 9 al9 kr9 kr9 kr9 (fun _ _ _ _ h => h)
    case hfr => intro w; go_wp2_with fail; exact ⟨rfl, rfl⟩
    case hd => rfl
    apply takeP 10 al9 kr9 kr9 kr9 (fun _ _ _ _ h => h)
    case hfr => intro w; go_wp2_with fail; exact ⟨rfl, rfl⟩
    case hd => rfl
    apply takeP 11 al9 kr9 kr9 kr9 (fun _ _ _ _ h => h)
    case hfr => intro w; go_wp2_with fail; exact ⟨rfl, rfl⟩
    case hd => rfl
    apply takeS 12 al9 kr9 kr9 kr9 (fun _ _ _ _ h => h) [13, 14, 15, 16, 17, 18, 19, 20] kr9 (hS.sub sb9)
    case hfr => intro w hS; go_wp2_with (first | (refine wpl rfl (wp_load1A hS 3 _ rfl _ _ rfl (one_of rfl) _ _ pl9 (by omega) ?_); refine wpl_put (by (simp only [Act.put, List.setIfInBounds_toArray, List.set_cons_zero, List.set_cons_succ]); exact rfl) ?_) | (refine wpl rfl (wp_load1 hS 3 _ rfl _ _ rfl (one_of rfl) _ pl9 _ (by rfl) ?_); refine wpl_put (by (simp only [Act.put, List.setIfInBounds_toArray, List.set_cons_zero, List.set_cons_succ]); exact rfl) ?_) | (refine wpl rfl (wp_load1O hS 3 _ rfl _ _ rfl (one_of rfl) _ _ _ _ _ pl9 _ (by with_reducible assumption) ?_); refine wpl_put (by (simp only [Act.put, List.setIfInBounds_toArray, List.set_cons_zero, List.set_cons_succ]); exact rfl) ?_) | (refine wpl rfl (wp_loadW hS 3 _ rfl _ rfl (one_of rfl) _ (by with_reducible assumption) ?_); refine wpl_put (by (simp only [Act.put, List.setIfInBounds_toArray, List.set_cons_zero, List.set_cons_succ]); exact rfl) ?_)); exact ⟨rfl, rfl⟩
    case hd => rfl
    apply takeP 13 al9 kr9 kr9 kr9 (fun _ _ _ _ h => h)
    case hfr => intro w; go_wp2_with fail; exact ⟨rfl, rfl⟩
    case hd => rfl
    apply takeP 14 al9 kr9 kr9 kr9 (fun _ _ _ _ h => h)
    case hfr => intro w; go_wp2_with fail; exact ⟨rfl, rfl⟩
    case hd => rfl
    apply takeP 15 al9 kr9 kr9 kr9 (fun _ _ _ _ h => h)
    case hfr => intro w; go_wp2_with fail; exact ⟨rfl, rfl⟩
    case hd => rfl
    refine branch1 16 al9 rfl kr9 ?_
    (refine wp_buildSlice1 (o := ⟨some 54, _, _, _, _, _⟩) hS 34 1 _ rfl 5 1 1 el34 _ _ (by (repeat (first | exact Parts.nil | (apply Parts.agg; (rfl); (rfl)) | (apply Parts.one; exact isv9; (rfl); (rfl))))) (by rfl) (by decide) (by decide) ?_; clear hS; intro g54 w hS)
    refine ⟨fun _ _ => hS.sub sb9, ?_⟩
    refine drawn_put (by (simp only [Act.put, List.setIfInBounds_toArray, List.set_cons_zero, List.set_cons_succ]); exact rfl) ?_
    refine branch1 17 al9 rfl kr9 ?_
    refine wp_append hS _ _ 34 rfl _ 1 1 el34 _ _ _ _ rfl pl9 _ rfl 1 _ (hS.slBlk (n := 1) pl9 (by rfl) (by decide)) (by intro u hu; rw [List.mem_singleton] at hu; rw [hu]; rfl) HP.out.1 HP.out.2 ?_; clear hS; intro ad2 c2 w hS
    refine ⟨fun h => absurd (by decide) h, ?_⟩
    refine drawn_put (by (simp only [Act.put, List.setIfInBounds_toArray, List.set_cons_zero, List.set_cons_succ]); exact rfl) ?_
    apply takeP 18 al9 kr9 kr9 kr9 (fun _ _ _ _ h => h)
    case hfr => intro w; go_wp2_with fail; exact ⟨rfl, rfl⟩
    case hd => rfl
    apply takeP 19 al9 kr9 kr9 kr9 (fun _ _ _ _ h => h)
    case hfr => intro w; go_wp2_with fail; exact ⟨rfl, rfl⟩
    case hd => rfl
    refine branch1 20 al9 rfl kr9 ?_
    (refine wp_store1 hS 34 _ _ rfl _ _ rfl (one_of rfl) _ _ pl9 _ isv9 (by rfl) (by (repeat (first | with_reducible exact SetAt.head | apply SetAt.tail))) rfl ?_; clear hS; intro w hS)
    refine ⟨fun h => absurd (by decide) h, ?_⟩
    refine drawn_done kr9 ?_ _
    go_wp2_with (first
     | ((with_reducible refine gt9 _ (.load 76 _) ?_); first | (refine wpl rfl (wp_load1 hS 76 _ rfl _ _ rfl (one_of rfl) _ pl9 _ (by rfl) ?_); refine wpl_put (by (simp only [Act.put, List.setIfInBounds_toArray, List.set_cons_zero, List.set_cons_succ]); exact rfl) ?_) | (refine wpl rfl (wp_load1O hS 76 _ rfl _ _ rfl (one_of rfl) _ _ _ _ _ pl9 _ (by with_reducible assumption) ?_); refine wpl_put (by (simp only [Act.put, List.setIfInBounds_toArray, List.set_cons_zero, List.set_cons_succ]); exact rfl) ?_) | (refine wpl rfl (wp_loadW hS 76 _ rfl _ rfl (one_of rfl) _ (by with_reducible assumption) ?_); refine wpl_put (by (simp only [Act.put, List.setIfInBounds_toArray, List.set_cons_zero, List.set_cons_succ]); exact rfl) ?_)) | ((with_reducible refine gt9 _ (.store 76 _ _) ?_); first | (refine wpl rfl (wp_store1 hS 76 _ _ rfl _ _ rfl (one_of rfl) _ _ pl9 _ isv9 (by rfl) (by (repeat (first | with_reducible exact SetAt.head | apply SetAt.tail))) rfl ?_); clear hS; intro w hS)) | ((with_reducible refine gt9 _ (.load 3 _) ?_); first | (refine wpl rfl (wp_load1A hS 3 _ rfl _ _ rfl (one_of rfl) _ _ pl9 (by omega) ?_); refine wpl_put (by (simp only [Act.put, List.setIfInBounds_toArray, List.set_cons_zero, List.set_cons_succ]); exact rfl) ?_) | (refine wpl rfl (wp_load1 hS 3 _ rfl _ _ rfl (one_of rfl) _ pl9 _ (by rfl) ?_); refine wpl_put (by (simp only [Act.put, List.setIfInBounds_toArray, List.set_cons_zero, List.set_cons_succ]); exact rfl) ?_) | (refine wpl rfl (wp_load1O hS 3 _ rfl _ _ rfl (one_of rfl) _ _ _ _ _ pl9 _ (by with_reducible assumption) ?_); refine wpl_put (by (simp only [Act.put, List.setIfInBounds_toArray, List.set_cons_zero, List.set_cons_succ]); exact rfl) ?_) | (refine wpl rfl (wp_loadW hS 3 _ rfl _ rfl (one_of rfl) _ (by with_reducible assumption) ?_); refine wpl_put (by (simp only [Act.put, List.setIfInBounds_toArray, List.set_cons_zero, List.set_cons_succ]); exact rfl) ?_)) | ((with_reducible refine gt9 _ (.store 3 _ _) ?_); first | (refine wpl rfl (wp_store1A hS 3 _ _ rfl _ _ rfl (one_of rfl) _ _ pl9 _ (by rfl) (by omega) rfl ?_); clear hS; intro w hS) | (refine wpl rfl (wp_store1 hS 3 _ _ rfl _ _ rfl (one_of rfl) _ _ pl9 _ isv9 (by rfl) (by (repeat (first | with_reducible exact SetAt.head | apply SetAt.tail))) rfl ?_); clear hS; intro w hS)) | ((with_reducible refine gt9 _ (.load 34 _) ?_); first | (refine wpl rfl (wp_load1 hS 34 _ rfl _ _ rfl (one_of rfl) _ pl9 _ (by rfl) ?_); refine wpl_put (by (simp only [Act.put, List.setIfInBounds_toArray, List.set_cons_zero, List.set_cons_succ]); exact rfl) ?_) | (refine wpl rfl (wp_load1O hS 34 _ rfl _ _ rfl (one_of rfl) _ _ _ _ _ pl9 _ (by with_reducible assumption) ?_); refine wpl_put (by (simp only [Act.put, List.setIfInBounds_toArray, List.set_cons_zero, List.set_cons_succ]); exact rfl) ?_) | (refine wpl rfl (wp_loadW hS 34 _ rfl _ rfl (one_of rfl) _ (by with_reducible assumption) ?_); refine wpl_put (by (simp only [Act.put, List.setIfInBounds_toArray, List.set_cons_zero, List.set_cons_succ]); exact rfl) ?_)) | ((with_reducible refine gs9 54 ?_); first | (refine wpl rfl (wp_buildSlice1 (o := ⟨some 54, _, _, _, _, _⟩) hS 34 1 _ rfl 5 1 1 el34 _ _ (by (repeat (first | exact Parts.nil | (apply Parts.agg; (rfl); (rfl)) | (apply Parts.one; exact isv9; (rfl); (rfl))))) (by rfl) (by decide) (by decide) ?_); clear hS; intro g54 w hS; refine wpl_put (by (simp only [Act.put, List.setIfInBounds_toArray, List.set_cons_zero, List.set_cons_succ]); exact rfl) ?_)) | ((with_reducible refine gt9 _ (.store 34 _ _) ?_); first | (refine wpl rfl (wp_store1 hS 34 _ _ rfl _ _ rfl (one_of rfl) _ _ pl9 _ isv9 (by rfl) (by (repeat (first | with_reducible exact SetAt.head | apply SetAt.tail))) rfl ?_); clear hS; intro w hS))
      | (first | refine stop_load ?_ | refine stop_store ?_ | refine stop_alloc ?_ | refine stop_box ?_))
    go_roundg (gk - 1)
    case measure => have := HR.out; omega
    case rel =>
     refine ⟨j + 1, ad2, c2, by omega, by have := HR.out; omega, ?_⟩
     rw [show T - 8 * (j + 1) = r by have := HR.out; omega, ← Nat.add_assoc q j 1, packs_succ, bv_append, show (bv [num (((bs ++ bitsOf width value).drop (8 * (q + j))).take 8)] = [Value.int .u8 ((N : Int) / 2 ^ r % 256)]) by rw [HBy.out]; rfl]
     exact hS.sub sb9
  · have hlen : (bs ++ bitsOf width value).length = 8 * (q + j) + R := by rw [List.length_append, bitsOf_len]; omega
    have hd1 := hid (show (bs ++ bitsOf width value).length / 8 = q + j by omega)
    have hd2 := hid (show (bs ++ bitsOf width value).length % 8 = R by omega)
    have hval : Hid (num ((bs ++ bitsOf width value).drop (8 * (q + j))) = N % 2 ^ R) := by
     have h1 := num_window (bs.drop (8 * q) ++ bitsOf width value) (8 * j) R (by rw [HT.out]; omega)
     rw [HT.out, HN.out, show T - 8 * j - R = 0 by omega, Nat.pow_zero, Nat.div_one, List.take_of_length_le (by rw [List.length_drop, HT.out]; omega)] at h1
     unfold Hid
     rw [Nat.mul_add, ← List.drop_drop, List.drop_append_of_le_length (by omega)]
     exact h1
    have hNl : N < 18446744073709551616 := by
     have h1 := num_lt (bs.drop (8 * q) ++ bitsOf width value)
     rw [HN.out, HT.out] at h1
     exact Nat.lt_of_lt_of_le h1 (pow_lt T 64 (by omega))
    have HAND := hid (and_num N R hNl (by omega))
    clear hlen
    go_wp2_with (first
     | ((with_reducible refine gt9 _ (.load 76 _) ?_); first | (refine wpl rfl (wp_load1 hS 76 _ rfl _ _ rfl (one_of rfl) _ pl9 _ (by rfl) ?_); refine wpl_put (by (simp only [Act.put, List.setIfInBounds_toArray, List.set_cons_zero, List.set_cons_succ]); exact rfl) ?_) | (refine wpl rfl (wp_load1O hS 76 _ rfl _ _ rfl (one_of rfl) _ _ _ _ _ pl9 _ (by with_reducible assumption) ?_); refine wpl_put (by (simp only [Act.put, List.setIfInBounds_toArray, List.set_cons_zero, List.set_cons_succ]); exact rfl) ?_) | (refine wpl rfl (wp_loadW hS 76 _ rfl _ rfl (one_of rfl) _ (by with_reducible assumption) ?_); refine wpl_put (by (simp only [Act.put, List.setIfInBounds_toArray, List.set_cons_zero, List.set_cons_succ]); exact rfl) ?_)) | ((with_reducible refine gt9 _ (.store 76 _ _) ?_); first | (refine wpl rfl (wp_store1 hS 76 _ _ rfl _ _ rfl (one_of rfl) _ _ pl9 _ isv9 (by rfl) (by (repeat (first | with_reducible exact SetAt.head | apply SetAt.tail))) rfl ?_); clear hS; intro w hS)) | ((with_reducible refine gt9 _ (.load 3 _) ?_); first | (refine wpl rfl (wp_load1A hS 3 _ rfl _ _ rfl (one_of rfl) _ _ pl9 (by omega) ?_); refine wpl_put (by (simp only [Act.put, List.setIfInBounds_toArray, List.set_cons_zero, List.set_cons_succ]); exact rfl) ?_) | (refine wpl rfl (wp_load1 hS 3 _ rfl _ _ rfl (one_of rfl) _ pl9 _ (by rfl) ?_); refine wpl_put (by (simp only [Act.put, List.setIfInBounds_toArray, List.set_cons_zero, List.set_cons_succ]); exact rfl) ?_) | (refine wpl rfl (wp_load1O hS 3 _ rfl _ _ rfl (one_of rfl) _ _ _ _ _ pl9 _ (by with_reducible assumption) ?_); refine wpl_put (by (simp only [Act.put, List.setIfInBounds_toArray, List.set_cons_zero, List.set_cons_succ]); exact rfl) ?_) | (refine wpl rfl (wp_loadW hS 3 _ rfl _ rfl (one_of rfl) _ (by with_reducible assumption) ?_); refine wpl_put (by (simp only [Act.put, List.setIfInBounds_toArray, List.set_cons_zero, List.set_cons_succ]); exact rfl) ?_)) | ((with_reducible refine gt9 _ (.store 3 _ _) ?_); first | (refine wpl rfl (wp_store1A hS 3 _ _ rfl _ _ rfl (one_of rfl) _ _ pl9 _ (by rfl) (by omega) rfl ?_); clear hS; intro w hS) | (refine wpl rfl (wp_store1 hS 3 _ _ rfl _ _ rfl (one_of rfl) _ _ pl9 _ isv9 (by rfl) (by (repeat (first | with_reducible exact SetAt.head | apply SetAt.tail))) rfl ?_); clear hS; intro w hS)) | ((with_reducible refine gt9 _ (.load 34 _) ?_); first | (refine wpl rfl (wp_load1 hS 34 _ rfl _ _ rfl (one_of rfl) _ pl9 _ (by rfl) ?_); refine wpl_put (by (simp only [Act.put, List.setIfInBounds_toArray, List.set_cons_zero, List.set_cons_succ]); exact rfl) ?_) | (refine wpl rfl (wp_load1O hS 34 _ rfl _ _ rfl (one_of rfl) _ _ _ _ _ pl9 _ (by with_reducible assumption) ?_); refine wpl_put (by (simp only [Act.put, List.setIfInBounds_toArray, List.set_cons_zero, List.set_cons_succ]); exact rfl) ?_) | (refine wpl rfl (wp_loadW hS 34 _ rfl _ rfl (one_of rfl) _ (by with_reducible assumption) ?_); refine wpl_put (by (simp only [Act.put, List.setIfInBounds_toArray, List.set_cons_zero, List.set_cons_succ]); exact rfl) ?_)) | ((with_reducible refine gs9 54 ?_); first | (refine wpl rfl (wp_buildSlice1 (o := ⟨some 54, _, _, _, _, _⟩) hS 34 1 _ rfl 5 1 1 el34 _ _ (by (repeat (first | exact Parts.nil | (apply Parts.agg; (rfl); (rfl)) | (apply Parts.one; exact isv9; (rfl); (rfl))))) (by rfl) (by decide) (by decide) ?_); clear hS; intro g54 w hS; refine wpl_put (by (simp only [Act.put, List.setIfInBounds_toArray, List.set_cons_zero, List.set_cons_succ]); exact rfl) ?_)) | ((with_reducible refine gt9 _ (.store 34 _ _) ?_); first | (refine wpl rfl (wp_store1 hS 34 _ _ rfl _ _ rfl (one_of rfl) _ _ pl9 _ isv9 (by rfl) (by (repeat (first | with_reducible exact SetAt.head | apply SetAt.tail))) rfl ?_); clear hS; intro w hS))
      | (first | refine stop_load ?_ | refine stop_store ?_ | refine stop_alloc ?_ | refine stop_box ?_))
    refine drawn_lit [13] (fun w => St W w [blk g [.slice ad' (q + j) c', .int .u64 (N : Nat), .int .i64 (R : Nat)]]) kr9 ?_
    replace hS := hS.drew
    apply takeP 0 al9 kr9 kr9 kr9 (fun _ _ _ _ h => h)
    case hfr => intro w; go_wp2_with fail; exact ⟨rfl, rfl⟩
    case hd => rfl
    apply takeP 1 al9 kr9 kr9 kr9 (fun _ _ _ _ h => h)
    case hfr => intro w; go_wp2_with fail; exact ⟨rfl, rfl⟩
    case hd => rfl
    apply takeP 2 al9 kr9 kr9 kr9 (fun _ _ _ _ h => h)
    case hfr => intro w; go_wp2_with fail; exact ⟨rfl, rfl⟩
    case hd => rfl
    apply takeS 3 al9 kr9 kr9 kr9 (fun _ _ _ _ h => h) [10, 11, 12, 13] kr9 (hS.sub sb9)
    case hfr => intro w hS; go_wp2_with (first | (refine wpl rfl (wp_load1 hS 76 _ rfl _ _ rfl (one_of rfl) _ pl9 _ (by rfl) ?_); refine wpl_put (by (simp only [Act.put, List.setIfInBounds_toArray, List.set_cons_zero, List.set_cons_succ]); exact rfl) ?_) | (refine wpl rfl (wp_load1O hS 76 _ rfl _ _ rfl (one_of rfl) _ _ _ _ _ pl9 _ (by with_reducible assumption) ?_); refine wpl_put (by (simp only [Act.put, List.setIfInBounds_toArray, List.set_cons_zero, List.set_cons_succ]); exact rfl) ?_) | (refine wpl rfl (wp_loadW hS 76 _ rfl _ rfl (one_of rfl) _ (by with_reducible assumption) ?_); refine wpl_put (by (simp only [Act.put, List.setIfInBounds_toArray, List.set_cons_zero, List.set_cons_succ]); exact rfl) ?_)); exact ⟨rfl, rfl⟩
    case hd => rfl
    apply takeP 4 al9 kr9 kr9 kr9 (fun _ _ _ _ h => h)
    case hfr => intro w; go_wp2_with fail; exact ⟨rfl, rfl⟩
    case hd => rfl
    apply takeP 5 al9 kr9 kr9 kr9 (fun _ _ _ _ h => h)
    case hfr => intro w; go_wp2_with fail; exact ⟨rfl, rfl⟩
    case hd => rfl
    apply takeP 6 al9 kr9 kr9 kr9 (fun _ _ _ _ h => h)
    case hfr => intro w; go_wp2_with fail; exact ⟨rfl, rfl⟩
    case hd => rfl
    apply takeS 7 al9 kr9 kr9 kr9 (fun _ _ _ _ h => h) [8, 9, 10, 11, 12, 13] kr9 (hS.sub sb9)
    case hfr => intro w hS; go_wp2_with (first | (refine wpl rfl (wp_load1A hS 3 _ rfl _ _ rfl (one_of rfl) _ _ pl9 (by omega) ?_); refine wpl_put (by (simp only [Act.put, List.setIfInBounds_toArray, List.set_cons_zero, List.set_cons_succ]); exact rfl) ?_) | (refine wpl rfl (wp_load1 hS 3 _ rfl _ _ rfl (one_of rfl) _ pl9 _ (by rfl) ?_); refine wpl_put (by (simp only [Act.put, List.setIfInBounds_toArray, List.set_cons_zero, List.set_cons_succ]); exact rfl) ?_) | (refine wpl rfl (wp_load1O hS 3 _ rfl _ _ rfl (one_of rfl) _ _ _ _ _ pl9 _ (by with_reducible assumption) ?_); refine wpl_put (by (simp only [Act.put, List.setIfInBounds_toArray, List.set_cons_zero, List.set_cons_succ]); exact rfl) ?_) | (refine wpl rfl (wp_loadW hS 3 _ rfl _ rfl (one_of rfl) _ (by with_reducible assumption) ?_); refine wpl_put (by (simp only [Act.put, List.setIfInBounds_toArray, List.set_cons_zero, List.set_cons_succ]); exact rfl) ?_)); exact ⟨rfl, rfl⟩
    case hd => rfl
    apply takeP 8 al9 kr9 kr9 kr9 (fun _ _ _ _ h => h)
    case hfr => intro w; go_wp2_with fail; exact ⟨rfl, rfl⟩
    case hd => rfl
    apply takeP 9 al9 kr9 kr9 kr9 (fun _ _ _ _ h => h)
    case hfr => intro w; go_wp2_with fail; exact ⟨rfl, rfl⟩
    case hd => rfl
    apply takeP 10 al9 kr9 kr9 kr9 (fun _ _ _ _ h => h)
    case hfr => intro w; go_wp2_with fail; exact ⟨rfl, rfl⟩
    case hd => rfl
    apply takeP 11 al9 kr9 kr9 kr9 (fun _ _ _ _ h => h)
    case hfr => intro w; go_wp2_with fail; exact ⟨rfl, rfl⟩
    case hd => rfl
    apply takeP 12 al9 kr9 kr9 kr9 (fun _ _ _ _ h => h)
    case hfr => intro w; go_wp2_with fail; exact ⟨rfl, rfl⟩
    case hd => rfl
    refine branch1 13 al9 rfl kr9 ?_
    (refine wp_store1 hS 76 _ _ rfl _ _ rfl (one_of rfl) _ _ pl9 _ isv9 (by rfl) (by (repeat (first | with_reducible exact SetAt.head | apply SetAt.tail))) rfl ?_; clear hS; intro w hS)
    refine ⟨fun h => absurd (by decide) h, ?_⟩
    refine drawn_done kr9 ?_ _
    go_end0
    refine ⟨rfl, St.close (ad', c') ?_⟩
    simp only [List.cons_append, List.nil_append]
    rw [HAND.out] at hS
    rw [hd1.out, hd2.out, hval.out]
    exact hS.sub sb9

end Go.Proofs.YtehbjhocgnfpmaaDoor
/- And, or, exclusive or of ints that are not negative. -/
namespace Go
open Go.RowKit
theorem toNat_i64 (a : Nat) (ha : a < 9223372036854775808) : (BitVec.ofInt 64 (a : Int)).toNat = a := by
  rw [BitVec.ofInt_natCast, BitVec.toNat_ofNat]; exact Nat.mod_eq_of_lt (by omega)
theorem wrap_i64_nat (x : Nat) (h : x < 9223372036854775808) : IntKind.i64.wrap (x : Int) = (x : Int) := by
  simp [IntKind.wrap, IntKind.signed, IntKind.bits]; omega
theorem bits_and_i64_nat (a b : Nat) (ha : a < 9223372036854775808) (hb : b < 9223372036854775808) : bits .and .i64 (a : Int) (b : Int) = ((a &&& b : Nat) : Int) := by
  show IntKind.i64.wrap ((BitVec.ofInt 64 (a : Int) &&& BitVec.ofInt 64 (b : Int)).toNat : Int) = _
  rw [BitVec.toNat_and, toNat_i64 a ha, toNat_i64 b hb]
  exact wrap_i64_nat _ (Nat.lt_of_lt_of_le (Nat.and_lt_two_pow (n := 63) _ (by omega)) (by decide))
theorem bits_or_i64_nat (a b : Nat) (ha : a < 9223372036854775808) (hb : b < 9223372036854775808) : bits .or .i64 (a : Int) (b : Int) = ((a ||| b : Nat) : Int) := by
  show IntKind.i64.wrap ((BitVec.ofInt 64 (a : Int) ||| BitVec.ofInt 64 (b : Int)).toNat : Int) = _
  rw [BitVec.toNat_or, toNat_i64 a ha, toNat_i64 b hb]
  exact wrap_i64_nat _ (Nat.lt_of_lt_of_le (Nat.or_lt_two_pow (n := 63) (by omega) (by omega)) (by decide))
/-- Two to a small power, reckoned as ints are. -/
theorem pow_i64 (k : Nat) (h : k < 63) : wrap64 ((2 : Int) ^ k) = ((2 ^ k : Nat) : Int) := by
  have h1 : 2 ^ k ≤ 2 ^ 62 := Nat.pow_le_pow_right (by omega) (by omega)
  rw [show (2 : Int) ^ k = ((2 ^ k : Nat) : Int) by push_cast; rfl]
  generalize 2 ^ k = x at h1
  unfold wrap64
  omega
theorem mask_i64 (k : Nat) (h : k < 63) : wrap64 (wrap64 ((2 : Int) ^ k) - 1) = ((2 ^ k - 1 : Nat) : Int) := by
  have h1 : 2 ^ k ≤ 2 ^ 62 := Nat.pow_le_pow_right (by omega) (by omega)
  have h0 := Nat.two_pow_pos k
  rw [pow_i64 k h]
  generalize 2 ^ k = x at h1 h0
  unfold wrap64
  omega
end Go

/- The walks of the reader: NewReader, Left, Get, Read. -/
namespace Go.Proofs.YtehbjhocgnfpmaaDoor
set_option maxRecDepth 100000
open Go.RowKit
set_option linter.unusedVariables false
theorem bl140_0 (a0 : Option Addr) (n0 c0 : Nat) (w : World) : (Instr.build 140 #[(0, .slice a0 n0 c0)]).run Tryd.prog w = .ok (.agg #[.slice a0 n0 c0, .int .i64 0]) w := by kernel_rfl
def rd (g : Nat) (ad : Option Addr) (n c i : Nat) : Res := blk g [.slice ad n c, .int .i64 (i : Nat)]
theorem newReader_any (w0 : World) (ad : Option Addr) (n c : Nat) : Calls Tryd.prog 48 #[.slice ad n c] w0 fun e w => ∃ g, e = .returned (.pointer (some ⟨g, 0, none⟩)) ∧ St w0 w [rd g ad n c 0] := by
 have hS := St.start w0
 go_enter Tryd.func48, Tryd.ntmps48
 repeat' (first
  | (refine y91 ?_) | ((with_reducible refine gs9 4 ?_); (refine wvv9 (V.build (vs := [(0, _)]) rfl (bl140_0 _ _ _)) ?_; go_step)) | ((with_reducible refine gs9 5 ?_); (refine wl9 ?_; apply wp_boxG (o := ⟨some 5, _, _, _, _, _⟩) hS 140 _ rfl _ rfl; clear hS; intro g5 w hS; refine put_move ?_; go_step)) | ((fail_if_success with_reducible refine ga9 ?_); go_step))
 go_ret
 exact ⟨_, rfl, hS⟩
theorem left_any (w0 : World) (g n c at_ : Nat) (ad : Option Addr) (c0 : w0.cell? ⟨g, 0, none⟩ = some (.slice ad n c)) (c1 : w0.cell? ⟨g, 1, none⟩ = some (.int .i64 (at_ : Nat))) (hn : n ≤ 1000000000000000000) (ha : at_ ≤ 8 * n) :
 Calls Tryd.prog 50 #[.pointer (some ⟨g, 0, none⟩)] w0 fun e w => e = .returned (.int .i64 ((8 * n - at_ : Nat) : Int)) ∧ Ext w0 w := by
 have hS := St.start w0
 go_enter Tryd.func50, Tryd.ntmps50
 repeat' (first
  | (refine y92 ?_) | ((fail_if_success with_reducible refine ga9 ?_); go_step))
 refine drawn_lit [] (fun w => St w0 w []) kr9 ?_
 replace hS := hS.drew
 focus
  refine takeM 0 _ al9 kr9 kr9 kr9 hq9 rfl ?_
  go_step
  (refine takeV 1 _ al9 kr9 kr9 kr9 hq9 (V.nilCheck rfl) rfl ?_)
  go_step
  (refine takeV 2 _ al9 kr9 kr9 kr9 hq9 (V.fieldAddr fo140_0 rfl nq9) rfl ?_)
  go_step
  apply takeS 3 al9 kr9 kr9 kr9 hq9 [4, 5, 10, 11] kr9 (hS.sub sb9)
  case hfr => intro w hS; ((refine wl9 ?_; apply wp_loadW hS 34 _ rfl _ rfl (one_of rfl) _; (case hc => with_reducible assumption); refine put_move ?_; go_step)); refine wpList_nil ?_; exact ⟨rfl, rfl⟩
  case hd => rfl
  (refine takeV 4 _ al9 kr9 kr9 kr9 hq9 (V.len Tryd.underlying34 rfl) rfl ?_)
  go_step
  (refine takeV 5 _ al9 kr9 kr9 kr9 hq9 (V.mulI rfl rfl (by omega)) rfl ?_)
  go_step
  refine takeM 6 _ al9 kr9 kr9 kr9 hq9 rfl ?_
  go_step
  (refine takeV 7 _ al9 kr9 kr9 kr9 hq9 (V.nilCheck rfl) rfl ?_)
  go_step
  (refine takeV 8 _ al9 kr9 kr9 kr9 hq9 (V.fieldAddr fo140_1 rfl nq9) rfl ?_)
  go_step
  apply takeS 9 al9 kr9 kr9 kr9 hq9 [10, 11] kr9 (hS.sub sb9)
  case hfr => intro w hS; ((refine wl9 ?_; apply wp_loadW hS 3 _ rfl _ rfl (one_of rfl) _; (case hc => with_reducible assumption); refine put_move ?_; go_step)); refine wpList_nil ?_; exact ⟨rfl, rfl⟩
  case hd => rfl
  (refine takeV 10 (.int _ (((8 * n - at_ : Nat) : Int))) al9 kr9 kr9 kr9 hq9 (V.as (V.subI rfl rfl (by omega)) (by omega)) rfl ?_)
  go_step
  refine takeA 11 _ al9 kr9 kr9 kr9 hq9 rfl ?_
  go_step
  refine drawn_done kr9 ?_ _
 repeat' (first
  | ((fail_if_success with_reducible refine ga9 ?_); go_step))
 go_ret
 exact ⟨rfl, hS.1⟩
def bitAt (l : List Nat) (i : Nat) : Nat := l.getD (i / 8) 0 / 2 ^ (7 - i % 8) % 2
theorem unpack_bit (l : List Nat) (i : Nat) (h : i < 8 * l.length) : (unpack l)[i]? = some (bitAt l i == 1) := unpack_get l i h
def numAt (l : List Nat) (i m : Nat) : Nat := num (((unpack l).drop i).take m)
theorem numAt_succ (l : List Nat) (i m : Nat) (h : i + m < 8 * l.length) : numAt l i (m + 1) = 2 * numAt l i m + bitAt l (i + m) := by
 unfold numAt
 rw [List.take_add_one, List.getElem?_drop, unpack_bit _ _ h]
 simp only [Option.toList_some]
 rw [num_snoc]
 have : bitAt l (i + m) < 2 := Nat.mod_lt _ (by omega)
 congr 1
 rcases (show bitAt l (i + m) = 0 ∨ bitAt l (i + m) = 1 by omega) with h | h <;> rw [h] <;> rfl
theorem numAt_lt (l : List Nat) (i m : Nat) : numAt l i m < 2 ^ m := by
 unfold numAt
 refine Nat.lt_of_lt_of_le (num_lt _) (Nat.pow_le_pow_right (by omega) ?_)
 simp; omega
theorem or_bit (N b : Nat) (hN : N < 4611686018427387904) (hb : b < 2) : bits .or .i64 (IntKind.i64.wrap ((N : Int) * 2 ^ 1)) (b : Int) = ((2 * N + b : Nat) : Int) := by
 have e1 : IntKind.i64.wrap ((N : Int) * 2 ^ 1) = ((2 * N : Nat) : Int) := by rw [show ((N : Int) * 2 ^ 1) = ((2 * N : Nat) : Int) by push_cast; omega]; exact wrap_i64_nat _ (by omega)
 rw [e1, bits_or_i64_nat _ _ (by omega) (by omega)]
 congr 1
 rw [show 2 * N = 2 ^ 1 * N by omega]
 exact (Nat.two_pow_add_eq_or_of_lt (i := 1) (by omega) N).symm
theorem or_bit2 (N b : Nat) (hN : N < 4611686018427387904) (hb : b < 2) : bits .or .i64 ((N : Int) * 2 ^ 1) (b : Int) = ((2 * N + b : Nat) : Int) := by
 have := or_bit N b hN hb
 rwa [IntWalk.i64_in _ (by omega)] at this
theorem and_one : ∀ b : Nat, b < 256 → bits .and .u8 (b : Int) 1 = ((b % 2 : Nat) : Int) := by decide +kernel
theorem bit_and (l : List Nat) (i : Nat) (hl : ∀ x ∈ l, x < 256) : bits .and .u8 (((l.getD (i / 8) 0 : Nat) : Int) / 2 ^ (7 - i % 8)) 1 = ((bitAt l i : Nat) : Int) := by
 have h1 : l.getD (i / 8) 0 < 256 := by
  by_cases h : i / 8 < l.length
  · have := hl _ (List.getElem_mem h); simpa [List.getD, h] using this
  · simp [List.getD, List.getElem?_eq_none (show l.length ≤ i / 8 by omega)]
 have h2 : l.getD (i / 8) 0 / 2 ^ (7 - i % 8) < 256 := Nat.lt_of_le_of_lt (Nat.div_le_self _ _) h1
 have e : ((l.getD (i / 8) 0 : Nat) : Int) / 2 ^ (7 - i % 8) = ((l.getD (i / 8) 0 / 2 ^ (7 - i % 8) : Nat) : Int) := by push_cast; rfl
 rw [e, and_one _ h2]
 rfl

set_option maxRecDepth 100000
open Go.RowKit
set_option linter.unusedVariables false
theorem bl125_0_1 (a0 : Option Nat) (a1 : Option Nat) (w : World) : (Instr.build 125 #[(0, .map a0), (1, .map a1)]).run Tryd.prog w = .ok (.agg #[.map a0, .map a1]) w := by kernel_rfl
theorem bl154_0_1 (m0 : Int) (m1 : Int) (w : World) : (Instr.build 154 #[(0, .int .i64 m0), (1, .int .i64 m1)]).run Tryd.prog w = .ok (.agg #[.int .i64 m0, .int .i64 m1]) w := by kernel_rfl
def wv (s : Int) (y : Nat × Nat) : Value := .agg #[.int .i64 s, .int .i64 (y.1 : Int), .int .i64 (y.2 : Int)]
def symF (L : List (Int × Nat × Nat)) (s : Int) : Option Value := (symW L s).map (wv s)
def codF (L : List (Int × Nat × Nat)) (p : Int × Int) : Option Value := (codW L p).map (Value.int .i64)
theorem symF_snoc (L : List (Int × Nat × Nat)) (s : Int) (l c : Nat) : (fun j => if j = s then some (Value.agg ([s, (l : Int), (c : Int)].map (Value.int .i64)).toArray) else symF L j) = symF (L ++ [(s, l, c)]) := by
 funext j
 unfold symF
 rw [symW_snoc]
 by_cases h : j = s
 · rw [if_pos h, if_pos h, h]; rfl
 · rw [if_neg h, if_neg h]
theorem codF_snoc (L : List (Int × Nat × Nat)) (s : Int) (l c : Nat) : (fun j => if j = ((l : Int), (c : Int)) then some (Value.int .i64 s) else codF L j) = codF (L ++ [(s, l, c)]) := by
 funext j
 unfold codF
 rw [codW_snoc]
 by_cases h : j = ((l : Int), (c : Int))
 · rw [if_pos h, if_pos h]; rfl
 · rw [if_neg h, if_neg h]
def cod (g : Nat) (L : List (Int × Nat × Nat)) : Res := bag fun x : Nat × Nat => [blk g [.map (some x.1), .map (some x.2)], mp ik x.1 (symF L), mp pk x.2 (codF L)]
set_option maxRecDepth 100000 in
set_option maxHeartbeats 4000000 in
theorem newCoder_any (w0 : World) (C S : List Int) (ad : Option Addr) (n c : Nat) (hC : Len C 16) (hv : Sl w0 1 (.slice ad n c) n (S.map (Value.int .i64))) (hn : n ≤ 9223372036854775807) (hok : tabE C S = 0) :
 Calls Tryd.prog 59 #[tv C (.slice ad n c)] w0 fun e w => ∃ g, e = .returned (.pointer (some ⟨g, 0, none⟩)) ∧ St w0 w [cod g (wds C S)] := by
 have hSl : S.length = n := by have := hv.1; simpa using this
 have hn256 : n ≤ 256 := by have := (tabE_ok hok).2.2.1; omega
 obtain ⟨L, hL⟩ : ∃ L, wds C S = L := ⟨_, rfl⟩
 have HL := hid hL
 have HLl : Hid (L.length = n) := hid (by rw [← hL, wds_len _ _ (tabE_ok hok).2.1, hSl])
 have HOk := hid hok
 clear hSl hL hok
 have hS := St.start w0
 go_enter Tryd.func59, Tryd.ntmps59
 repeat' (first
  | ((with_reducible refine gt9 _ (.call ⟨.value (.func 61), _, _⟩) ?_); refine wpl_call (f := 61) Tryd.call61 kr9 ?_; refine ⟨_, (wordsOf_any _ C S ad n c hC (hv.ext hS.1) hn HOk.out), ?_⟩; rintro e w ⟨a2, c2, rfl, hS2⟩; rw [HL.out] at hS2; replace hS := hS.call1 hS2; clear hS2; refine ⟨_, rfl, ?_⟩; refine put_move ?_; go_step) | (refine y91 ?_) | ((with_reducible refine gs9 8 ?_); (refine wvv9 (V.build (vs := [(0, _), (1, _)]) rfl (bl125_0_1 _ _)) ?_; go_step)) | (refine y9103 ?_) | ((with_reducible refine gs9 1 ?_); (refine wl9 ?_; apply wp_boxP (o := ⟨some 1, _, _, _, _, _⟩) hS 31 _ rfl _ rfl; clear hS; intro g1 w hS; refine put_move ?_; go_step)) | ((with_reducible refine gs9 6 ?_); (refine wl9 ?_; apply wp_makeMap (o := ⟨some 6, _, _, _, _, _⟩) ik hS 122 rfl; clear hS; intro g6 w hS; refine put_move ?_; go_step)) | ((with_reducible refine gs9 7 ?_); (refine wl9 ?_; apply wp_makeMap (o := ⟨some 7, _, _, _, _, _⟩) pk hS 123 rfl; clear hS; intro g7 w hS; refine put_move ?_; go_step)) | ((with_reducible refine gs9 9 ?_); (refine wl9 ?_; apply wp_boxG (o := ⟨some 9, _, _, _, _, _⟩) hS 125 _ rfl _ rfl; clear hS; intro g9 w hS; refine put_move ?_; go_step)) | (refine y9126 ?_) | ((fail_if_success with_reducible refine ga9 ?_); go_step))
 go_loopg [13] n (fun gk kv w => ∃ (i : Nat), gk + i = n ∧ kv = .int .i64 i ∧ St w0 w [own 91 3 a2 n c2 ((wfl L).map (Value.int .i64)), blk g9 [.map (some g6), .map (some g7)], mp ik g6 (symF (L.take i)), mp pk g7 (codF (L.take i))])
 case atStart => exact ⟨0, rfl, rfl, (by rw [show symF (L.take 0) = fun _ => none from rfl, show codF (L.take 0) = fun _ => none from rfl]; exact hS.sub sb9)⟩
 case round =>
  clear hS
  obtain ⟨i, hi, rfl, hS⟩ := hrel
  by_cases hlt : i < n
  · obtain ⟨b2, rfl⟩ := own_some hS pl9 (by omega)
    obtain ⟨⟨s, l, k⟩, hx⟩ : ∃ x, L[i]? = some x := ⟨_, List.getElem?_eq_getElem (by rw [HLl.out]; exact hlt)⟩
    have hseg := wfl_get L i _ hx
    dsimp only at hseg
    have ht : L.take (i + 1) = L.take i ++ [(s, l, k)] := by rw [List.take_add_one, hx]; rfl
    have H1 := hid (symF_snoc (L.take i) s l k)
    have H2 := hid (codF_snoc (L.take i) s l k)
    rw [← ht] at H1 H2
    clear hx ht
    repeat' (first
     | (refine y990 ?_) | ((with_reducible refine gs9 15 ?_); (refine wvv9 (V.indexSl Tryd.underlying85 isz91 rfl rfl isn9 (by omega) rfl nq9) ?_; go_step)) | ((with_reducible refine gt9 _ (.load 91 _) ?_); (refine wl9 ?_; apply wp_loadROE hS 91 _ rfl _ _ rfl 3 (row_of rfl) _ _ _ _ _; (case hp => exact pl9); (case hi => omega); (case hl' => with_reducible assumption); refine put_move ?_; go_step)) | ((with_reducible refine gs9 5 ?_); (refine wl9 ?_; apply wp_alloc (o := ⟨some 5, _, _, _, _, _⟩) hS 91 rfl (.agg #[.int .i64 0, .int .i64 0, .int .i64 0]) [.int .i64 0, .int .i64 0, .int .i64 0] (fun w => Tryd.zeroValue91 w) rfl; clear hS; intro g5 w hS; refine put_move ?_; go_step)) | ((with_reducible refine gt9 _ (.store 91 _ _) ?_); (refine wl9 ?_; apply wp_storeG hS 91 _ _ rfl _ rfl 3 (row_of rfl) _ _; (case hp => exact pl9); (case hy => rfl); (case hn => rfl); (case hn' => rfl); (case hv => rfl); (case hd => exact rfl); clear hS; intro w hS)) | ((fail_if_success with_reducible refine ga9 ?_); go_step))
    refine drawn_lit [7] (fun w => St w0 w [blk g5 ([s, (l : Int), (k : Int)].map (Value.int .i64)), blk g9 [.map (some g6), .map (some g7)]]) kr9 ?_
    replace hS := hS.drew
    focus
     refine takeM 0 _ al9 kr9 kr9 kr9 hq9 rfl ?_
     go_step
     (refine takeV 1 _ al9 kr9 kr9 kr9 hq9 (V.nilCheck rfl) rfl ?_)
     go_step
     (refine takeV 2 _ al9 kr9 kr9 kr9 hq9 (V.fieldAddr fo125_0 rfl nq9) rfl ?_)
     go_step
     apply takeS 3 al9 kr9 kr9 kr9 hq9 [7] kr9 (hS.sub sb9)
     case hfr => intro w hS; ((refine wl9 ?_; apply wp_load1 hS 122 _ rfl _ _ rfl (one_of rfl) _; (case hp => exact pl9); (case hc => rfl); refine put_move ?_; go_step)); refine wpList_nil ?_; exact ⟨rfl, rfl⟩
     case hd => rfl
     (refine takeV 4 _ al9 kr9 kr9 kr9 hq9 (V.fieldAddr fo91_0 rfl nq9) rfl ?_)
     go_step
     apply takeS 5 al9 kr9 kr9 kr9 hq9 [7] kr9 (hS.sub sb9)
     case hfr => intro w hS; ((refine wl9 ?_; apply wp_load1 hS 3 _ rfl _ _ rfl (one_of rfl) _; (case hp => exact pl9); (case hc => rfl); refine put_move ?_; go_step)); refine wpList_nil ?_; exact ⟨rfl, rfl⟩
     case hd => rfl
     apply takeS 6 al9 kr9 kr9 kr9 hq9 [7] kr9 (hS.sub sb9)
     case hfr => intro w hS; ((refine wl9 ?_; apply wp_loadG hS 91 _ rfl _ rfl 3 (row_of rfl) _; (case hp => exact pl9); (case hn => rfl); refine put_move ?_; go_step)); refine wpList_nil ?_; exact ⟨rfl, rfl⟩
     case hd => rfl
     refine branch1 7 al9 rfl kr9 ?_
     (refine wp_mapUpdate (enc := ik) hS 122 _ _ _ rfl _ rfl _ rfl Tryd.underlying122 (keyLaw_int Tryd.underlying3) _ pl9 _ (by (first | exact IsV.int rfl | exact IsV.bool rfl | exact IsV.slice rfl | exact IsV.pointer rfl | exact IsV.string rfl | exact IsV.map rfl | exact IsV.func rfl | exact IsV.agg rfl)) rfl ?_; clear hS; intro w hS)
     refine ⟨fun h => absurd (by decide) h, ?_⟩
     refine drawn_done kr9 ?_ _
    all_goals
     repeat' (first
      | ((fail_if_success with_reducible refine ga9 ?_); go_step))
     refine drawn_lit [11] (fun w => St w0 w [blk g5 ([s, (l : Int), (k : Int)].map (Value.int .i64)), blk g9 [.map (some g6), .map (some g7)]]) kr9 ?_
     replace hS := hS.drew
     focus
      refine takeM 0 _ al9 kr9 kr9 kr9 hq9 rfl ?_
      go_step
      (refine takeV 1 _ al9 kr9 kr9 kr9 hq9 (V.nilCheck rfl) rfl ?_)
      go_step
      (refine takeV 2 _ al9 kr9 kr9 kr9 hq9 (V.fieldAddr fo125_1 rfl nq9) rfl ?_)
      go_step
      apply takeS 3 al9 kr9 kr9 kr9 hq9 [11] kr9 (hS.sub sb9)
      case hfr => intro w hS; ((refine wl9 ?_; apply wp_load1 hS 123 _ rfl _ _ rfl (one_of rfl) _; (case hp => exact pl9); (case hc => rfl); refine put_move ?_; go_step)); refine wpList_nil ?_; exact ⟨rfl, rfl⟩
      case hd => rfl
      (refine takeV 4 _ al9 kr9 kr9 kr9 hq9 (V.fieldAddr fo91_1 rfl nq9) rfl ?_)
      go_step
      apply takeS 5 al9 kr9 kr9 kr9 hq9 [8, 11] kr9 (hS.sub sb9)
      case hfr => intro w hS; ((refine wl9 ?_; apply wp_load1 hS 3 _ rfl _ _ rfl (one_of rfl) _; (case hp => exact pl9); (case hc => rfl); refine put_move ?_; go_step)); refine wpList_nil ?_; exact ⟨rfl, rfl⟩
      case hd => rfl
      (refine takeV 6 _ al9 kr9 kr9 kr9 hq9 (V.fieldAddr fo91_2 rfl nq9) rfl ?_)
      go_step
      apply takeS 7 al9 kr9 kr9 kr9 hq9 [8, 11] kr9 (hS.sub sb9)
      case hfr => intro w hS; ((refine wl9 ?_; apply wp_load1 hS 3 _ rfl _ _ rfl (one_of rfl) _; (case hp => exact pl9); (case hc => rfl); refine put_move ?_; go_step)); refine wpList_nil ?_; exact ⟨rfl, rfl⟩
      case hd => rfl
      (refine takeV 8 _ al9 kr9 kr9 kr9 hq9 (V.build (vs := [(0, _), (1, _)]) rfl (bl154_0_1 _ _)) rfl ?_)
      go_step
      (refine takeV 9 _ al9 kr9 kr9 kr9 hq9 (V.fieldAddr fo91_0 rfl nq9) rfl ?_)
      go_step
      apply takeS 10 al9 kr9 kr9 kr9 hq9 [11] kr9 (hS.sub sb9)
      case hfr => intro w hS; ((refine wl9 ?_; apply wp_load1 hS 3 _ rfl _ _ rfl (one_of rfl) _; (case hp => exact pl9); (case hc => rfl); refine put_move ?_; go_step)); refine wpList_nil ?_; exact ⟨rfl, rfl⟩
      case hd => rfl
      refine branch1 11 al9 rfl kr9 ?_
      (refine wp_mapUpdate (enc := pk) hS 123 _ _ _ rfl _ rfl (_, _) rfl Tryd.underlying123 (keyLaw_pair Tryd.underlying154 Tryd.underlying3 isz3) _ pl9 _ (by (first | exact IsV.int rfl | exact IsV.bool rfl | exact IsV.slice rfl | exact IsV.pointer rfl | exact IsV.string rfl | exact IsV.map rfl | exact IsV.func rfl | exact IsV.agg rfl)) rfl ?_; clear hS; intro w hS)
      refine ⟨fun h => absurd (by decide) h, ?_⟩
      refine drawn_done kr9 ?_ _
     all_goals
      repeat' (first
       | (refine y9146 ?_) | (refine y985 ?_) | ((fail_if_success with_reducible refine ga9 ?_); go_step))
      go_roundg (gk - 1)
      case measure => omega
      case rel =>
       refine ⟨i + 1, by omega, by go_num, ?_⟩
       rw [← H1.out, ← H2.out]
       exact hS.sub sb9
  · obtain rfl : i = n := by omega
    rw [show L.take i = L by rw [← HLl.out]; exact List.take_length] at hS
    repeat' (first
     | (refine y91 ?_) | (refine y990 ?_) | ((fail_if_success with_reducible refine ga9 ?_); go_step))
    go_ret
    refine ⟨g9, rfl, St.close (g6, g7) ?_⟩
    rw [HL.out]
    exact hS.sub sb9
def wb (L : List (Int × Nat × Nat)) (s : Int) : List Bool := match symW L s with
 | some y => bitsOf y.1 y.2
 | none => []
set_option maxRecDepth 100000 in
set_option maxHeartbeats 4000000 in
theorem codPut_any (W w0 : World) (rs rs' rs2 : List Res) (g g2 : Nat) (L : List (Int × Nat × Nat)) (bs : List Bool) (s : Int) (hL : Good L) (hS : St W w0 rs) (hp : Pull (cod g L) rs rs') (hp2 : Pull (wr g2 bs) rs' rs2) (hb : bs.length ≤ 1000000000000) :
 Calls Tryd.prog 40 #[.pointer (some ⟨g, 0, none⟩), .pointer (some ⟨g2, 0, none⟩), .int .i64 s] w0 fun e w => e = .returned (.bool (symW L s).isSome) ∧ St W w (cod g L :: wr g2 (bs ++ wb L s) :: rs2) := by
 obtain ⟨⟨m1, m2⟩, hS⟩ := (hS.pull hp).open
 dsimp only [List.cons_append, List.nil_append] at hS
 have HG := hid hL
 clear hL
 have hp3 : Pull (wr g2 bs) (blk g [.map (some m1), .map (some m2)] :: mp ik m1 (symF L) :: mp pk m2 (codF L) :: rs') (blk g [.map (some m1), .map (some m2)] :: mp ik m1 (symF L) :: mp pk m2 (codF L) :: rs2) := .tail (.tail (.tail hp2))
 cases hs : symW L s with
 | none =>
  have hf : symF L s = none := by unfold symF; rw [hs]; rfl
  have HB := hid (show wb L s = [] by unfold wb; rw [hs])
  clear hs
  go_enter Tryd.func40, Tryd.ntmps40
  repeat' (first
   | (refine y91 ?_) | (refine y9138 ?_) | ((with_reducible refine gt9 _ (.fieldAddr 125 _ 0) ?_); (refine wvv9 (V.fieldAddr fo125_0 rfl nq9) ?_; go_step)) | (refine y9105 ?_) | (refine y9115 ?_) | ((with_reducible refine gs9 15 ?_); (refine wl9 ?_; apply wp_lookupN2 (enc := ik) hS 122 _ _ rfl _ rfl _ rfl Tryd.underlying122 (keyLaw_int Tryd.underlying3) (.agg #[.int .i64 0, .int .i64 0, .int .i64 0]) (fun w => Tryd.zeroValue91 w) _; (case hp => exact pl9); (case hf => with_reducible assumption); refine put_move ?_; go_step)) | ((with_reducible refine gs9 7 ?_); (refine wl9 ?_; apply wp_alloc (o := ⟨some 7, _, _, _, _, _⟩) hS 91 rfl (.agg #[.int .i64 0, .int .i64 0, .int .i64 0]) [.int .i64 0, .int .i64 0, .int .i64 0] (fun w => Tryd.zeroValue91 w) rfl; clear hS; intro g7 w hS; refine put_move ?_; go_step)) | ((with_reducible refine gt9 _ (.store 91 _ _) ?_); (refine wl9 ?_; apply wp_storeG hS 91 _ _ rfl _ rfl 3 (row_of rfl) _ _; (case hp => exact pl9); (case hy => rfl); (case hn => rfl); (case hn' => rfl); (case hv => rfl); (case hd => exact rfl); clear hS; intro w hS)) | ((fail_if_success with_reducible refine ga9 ?_); go_step))
  go_ret
  refine ⟨rfl, St.close (m1, m2) ?_⟩
  rw [HB.out, List.append_nil]
  exact (hS.pull (.tail hp3)).sub sb9
 | some y =>
  obtain ⟨l, k⟩ := y
  have hm := symW_mem hs
  obtain ⟨g1, g2', g3⟩ := HG.out.long _ hm
  dsimp only at g1 g2' g3
  have hf : symF L s = some (.agg #[.int .i64 s, .int .i64 (l : Int), .int .i64 (k : Int)]) := by unfold symF; rw [hs]; rfl
  have HB := hid (show wb L s = bitsOf l k by unfold wb; rw [hs])
  have HK := hid (show k < 2 ^ l by omega)
  clear hs hm g3
  go_enter Tryd.func40, Tryd.ntmps40
  repeat' (first
   | ((with_reducible refine gt9 _ (.call ⟨.value (.func 41), _, _⟩) ?_); refine wpl_call (f := 41) Tryd.call41 kr9 ?_; refine ⟨_, (put_any W _ _ _ g2 bs l k hS (.tail hp3) (by omega) HK.out (by omega)), ?_⟩; clear hS; rintro e w ⟨rfl, hS⟩; refine ⟨_, rfl, ?_⟩; refine put_move ?_; go_step) | (refine y91 ?_) | (refine y9138 ?_) | ((with_reducible refine gt9 _ (.fieldAddr 125 _ 0) ?_); (refine wvv9 (V.fieldAddr fo125_0 rfl nq9) ?_; go_step)) | (refine y9105 ?_) | ((with_reducible refine gt9 _ (.fieldAddr 91 _ 1) ?_); (refine wvv9 (V.fieldAddr fo91_1 rfl nq9) ?_; go_step)) | ((with_reducible refine gt9 _ (.fieldAddr 91 _ 2) ?_); (refine wvv9 (V.fieldAddr fo91_2 rfl nq9) ?_; go_step)) | (refine y9115 ?_) | ((with_reducible refine gs9 15 ?_); (refine wl9 ?_; apply wp_lookupS2 (enc := ik) hS 122 _ _ rfl _ rfl _ rfl Tryd.underlying122 (keyLaw_int Tryd.underlying3) (.agg #[.int .i64 0, .int .i64 0, .int .i64 0]) (fun w => Tryd.zeroValue91 w) _; (case hp => exact pl9); (case hf => with_reducible assumption); refine put_move ?_; go_step)) | ((with_reducible refine gs9 7 ?_); (refine wl9 ?_; apply wp_alloc (o := ⟨some 7, _, _, _, _, _⟩) hS 91 rfl (.agg #[.int .i64 0, .int .i64 0, .int .i64 0]) [.int .i64 0, .int .i64 0, .int .i64 0] (fun w => Tryd.zeroValue91 w) rfl; clear hS; intro g7 w hS; refine put_move ?_; go_step)) | ((with_reducible refine gt9 _ (.store 91 _ _) ?_); (refine wl9 ?_; apply wp_storeG hS 91 _ _ rfl _ rfl 3 (row_of rfl) _ _; (case hp => exact pl9); (case hy => rfl); (case hn => rfl); (case hn' => rfl); (case hv => rfl); (case hd => exact rfl); clear hS; intro w hS)) | (refine y9121 ?_) | ((fail_if_success with_reducible refine ga9 ?_); go_step))
  go_ret
  refine ⟨rfl, St.close (m1, m2) ?_⟩
  rw [HB.out]
  exact hS.sub sb9
def gtW (L : List (Int × Nat × Nat)) (l : List Nat) (i : Nat) : Nat → Nat → Int × Int × Nat
 | 0, d => (0, 4, i + d)
 | f + 1, d => if 8 * l.length < i + (d + 1) then (0, 3, i + d) else match codW L (((d + 1 : Nat) : Int), (numAt l i (d + 1) : Int)) with
  | some s => (s, 0, i + (d + 1))
  | none => gtW L l i f (d + 1)
theorem numAt_cat (l : List Nat) (i d : Nat) (h : i + d < 8 * l.length) : numAt l i (d + 1) = 2 * numAt l i d + numAt l (i + d) 1 := by
 rw [numAt_succ l i d h]
 congr 1
 have := numAt_succ l (i + d) 0 (by omega)
 rw [Nat.zero_add] at this
 rw [this, show numAt l (i + d) 0 = 0 by unfold numAt; rw [List.take_zero]; rfl]; simp

set_option maxRecDepth 100000
open Go.RowKit
theorem OneRes.prt {P : Program} {W w : World} {rs rs' : List Res} {tmps : Array Value} {p g n : Nat} {ty : TypeId} {ps : List Part} (hS : St W w rs) (hp : tmps.getD p undef = .pointer (some ⟨g, 0, none⟩)) (h1 : RowN P ty n) (pl : Pull (Go.Proofs.YtehbjhocgnfpmaaDoor.prt g ps) rs rs') (hn : Pre ps n ps) : OneRes P tmps w (.cell p ty) (.agg (pcells ps).toArray) :=
 OneRes.blk hS hp h1 pl hn.take.2

end Go.Proofs.YtehbjhocgnfpmaaDoor
/- The coders of seg: made and of. -/
namespace Go.Proofs.YtehbjhocgnfpmaaDoor
open Go.RowKit
set_option maxRecDepth 100000
set_option linter.unusedVariables false
section
variable {P : Program} {Q : Exit → Act → World → Prop} {a : Act} {W w : World} {c : Code}
theorem wp_join3 {F : Nat → Nat → Nat → Act} (rs : Nat → Nat → Nat → List Res) (h : c.wp P (fun e a w => e = .normal ∧ ∃ g g' g2, a = F g g' g2 ∧ St W w (rs g g' g2)) a w) (k : ∀ g g' g2 w, St W w (rs g g' g2) → Q .normal (F g g' g2) w) : c.wp P Q a w :=
 Code.wp_mono (fun e a w ⟨he, g, g', g2, ha, hS⟩ => by subst he; subst ha; exact k g g' g2 w hS) h
end
theorem bl120_0_1 (a0 : Option Addr) (a1 : Option Addr) (w : World) : (Instr.build 120 #[(0, .pointer a0), (1, .pointer a1)]).run Tryd.prog w = .ok (.agg #[.pointer a0, .pointer a1]) w := by kernel_rfl
theorem bl78_  (w : World) : (Instr.build 78 #[]).run Tryd.prog w = .ok (.agg #[.slice none 0 0, .int .u64 0, .int .i64 0]) w := by kernel_rfl
theorem bl99_0_1 (a0 : Option Addr) (a1 : Option Addr) (w : World) : (Instr.build 99 #[(0, .pointer a0), (1, .pointer a1)]).run Tryd.prog w = .ok (.agg #[.pointer a0, .pointer a1]) w := by kernel_rfl
theorem bl69_  (w : World) : (Instr.build 69 #[]).run Tryd.prog w = .ok (.agg #[.int .i64 0, .int .i64 0, .int .i64 0]) w := by kernel_rfl
theorem bl69_0_1 (m0 : Int) (m1 : Int) (w : World) : (Instr.build 69 #[(0, .int .i64 m0), (1, .int .i64 m1)]).run Tryd.prog w = .ok (.agg #[.int .i64 m0, .int .i64 m1, .int .i64 0]) w := by kernel_rfl
def cdr (g : Nat) (L1 L2 : List (Int × Nat × Nat)) : Res := bag fun x : Nat × Nat => [blk g [.pointer (some ⟨x.1, 0, none⟩), .pointer (some ⟨x.2, 0, none⟩)], cod x.1 L1, cod x.2 L2]
theorem tabLen2 (C : List Int) (v : Value) (h : Len C 16) : (pcells [.ints C, .val v]).length = 17 := by
 have := h.out
 simp [pcells, Part.cells, this]
theorem tabs3 (C1 C2 : List Int) (v1 v2 : Value) : pcells [.ints C1, .val v1] ++ (pcells [.ints C2, .val v2] ++ []) = pcells [.ints C1, .val v1, .ints C2, .val v2] := by
 simp [pcells, Part.cells]
theorem st_tabs3 {W w : World} {rs : List Res} {g : Nat} {C1 C2 : List Int} {v1 v2 : Value} (hS : St W w (blk g (pcells [.ints C1, .val v1] ++ (pcells [.ints C2, .val v2] ++ [])) :: rs)) : St W w (prt g [.ints C1, .val v1, .ints C2, .val v2] :: rs) := by
 rw [tabs3] at hS; exact hS
def tbE (C1 S1 C2 S2 : List Int) : Int := if tabE C1 S1 = 0 then tabE C2 S2 else tabE C1 S1
set_option maxHeartbeats 8000000 in
theorem made_bad (w0 : World) (C1 C2 S1 S2 : List Int) (a1 a2 : Option Addr) (n1 n2 k1 k2 : Nat) (hC1 : Len C1 16) (hC2 : Len C2 16) (hs1 : Sl w0 1 (.slice a1 n1 k1) n1 (S1.map (Value.int .i64))) (hs2 : Sl w0 1 (.slice a2 n2 k2) n2 (S2.map (Value.int .i64))) (hn1 : n1 ≤ 9223372036854775807) (hn2 : n2 ≤ 9223372036854775807) (E : Int) (hE : tbE C1 S1 C2 S2 = E) (h0 : E ≠ 0) :
 Calls Tryd.prog 37 #[.agg (pcells [.ints C1, .val (.slice a1 n1 k1), .ints C2, .val (.slice a2 n2 k2)]).toArray] w0 fun e w => e = .returned (.tuple #[.pointer none, .int .i64 E]) ∧ Ext w0 w := by
 have hS := St.start w0
 have hL1 := hid (tabLen2 C1 (.slice a1 n1 k1) hC1)
 have hL2 := hid (tabLen2 C2 (.slice a2 n2 k2) hC2)
 obtain ⟨E1, hE1⟩ : ∃ x, tabE C1 S1 = x := ⟨_, rfl⟩
 obtain ⟨E2, hE2⟩ : ∃ x, tabE C2 S2 = x := ⟨_, rfl⟩
 have HE1 := hid hE1
 have HE2 := hid hE2
 have he : (if E1 = 0 then E2 else E1) = E := by rw [← hE1, ← hE2]; exact hE
 have HE := hid he
 clear hE1 hE2 hE he
 go_enter Tryd.func37, Tryd.ntmps37
 repeat' (first
  | ((with_reducible refine gs9 11 ?_); refine wl9 ?_; refine wp_buildSlice1 (o := ⟨some 11, _, _, _, _, _⟩) hS 106 2 _ rfl 31 17 152 el106 _ _ (Parts.agg rfl hL1.out (Parts.agg rfl hL2.out Parts.nil)) rfl (by decide) (by decide) ?_; clear hS; intro g11 w hS; replace hS := st_tabs3 hS; refine put_move ?_; go_step) | (refine y91 ?_) | (refine y9108 ?_) | (refine y9109 ?_) | (refine y997 ?_) | ((with_reducible refine gs9 1 ?_); (refine wl9 ?_; apply wp_boxP (o := ⟨some 1, _, _, _, _, _⟩) hS 33 _ rfl _ rfl; clear hS; intro g1 w hS; refine put_move ?_; go_step)) | (refine y9126 ?_) | ((fail_if_success with_reducible refine ga9 ?_); go_step))
 clear hL1 hL2
 go_loopg [13] 2 (fun gk kv w => ∃ k : Nat, gk + k = 2 ∧ kv = .int .i64 k ∧ (1 ≤ k → E1 = 0) ∧ (2 ≤ k → E2 = 0) ∧ St w0 w [prt g1 [.ints C1, .val (.slice a1 n1 k1), .ints C2, .val (.slice a2 n2 k2)], prt g11 [.ints C1, .val (.slice a1 n1 k1), .ints C2, .val (.slice a2 n2 k2)]])
 case atStart => exact ⟨0, rfl, rfl, fun h => absurd h (by omega), fun h => absurd h (by omega), hS.sub sb9⟩
 case round =>
  clear hS
  obtain ⟨k, hk, rfl, HA, HB, hS⟩ := hrel
  by_cases hlt : k < 2
  · obtain rfl | rfl : k = 0 ∨ k = 1 := by omega
    · skip
      repeat' (first
       | ((with_reducible refine gt9 _ (.call ⟨.value (.func 52), _, _⟩) ?_); refine wpl_call (f := 52) Tryd.call52 kr9 ?_; refine ⟨_, (check_any _ C1 S1 a1 n1 k1 hC1 (hs1.ext hS.1) hn1), ?_⟩; rintro e w ⟨rfl, hE2⟩; rw [HE1.out]; replace hS := hS.ext hE2; clear hE2; refine ⟨_, rfl, ?_⟩; refine put_move ?_; go_step) | (refine y91 ?_) | (refine y990 ?_) | (refine y927 ?_) | (refine y991 ?_) | (refine y985 ?_) | (refine y9126 ?_) | ((with_reducible refine gs9 5 ?_); (refine wl9 ?_; apply wp_allocP (o := ⟨some 5, _, _, _, _, _⟩) hS 31 rfl _ zp31; clear hS; intro g5 w hS; refine put_move ?_; go_step)) | ((with_reducible refine gt9 _ (.store 31 _ _) ?_); (refine wl9 ?_; apply wp_storePP hS 31 _ _ rfl _ rfl 17 (row_of rfl) _ _; (case hp => exact pl9); (case hy => rfl); (case hn => (repeat (first | exact Pre.nil | (apply Pre.ints; (case hn => (first | (with_reducible assumption) | exact Len.rep | exact Len.set (by with_reducible assumption) | exact Len.set Len.rep | exact Len.set (Len.set Len.rep))); (case h => omega); (case hm => rfl)) | apply Pre.val))); (case hn' => (repeat (first | exact Pre.nil | (apply Pre.ints; (case hn => (first | (with_reducible assumption) | exact Len.rep | exact Len.set (by with_reducible assumption) | exact Len.set Len.rep | exact Len.set (Len.set Len.rep))); (case h => omega); (case hm => rfl)) | apply Pre.val))); (case hv => rfl); (case hd => exact rfl); clear hS; intro w hS)) | ((fail_if_success with_reducible refine ga9 ?_); go_step))
      · skip
        refine ret_all (xs := [_, _]) rfl (.cons (OneRes.tmp rfl) (.cons (OneRes.tmp rfl) (.nil))) (by simp) rfl ?_
        exact ⟨by have h := HE.out; rw [if_neg (by omega)] at h; rw [h]; rfl, hS.1⟩
      · go_roundg (gk - 1)
        case measure => omega
        case rel => exact ⟨1, by omega, rfl, fun _ => by omega, fun h => absurd h (by omega), hS.sub sb9⟩
    · have h1 := HA (by omega)
      subst h1
      repeat' (first
       | ((with_reducible refine gt9 _ (.call ⟨.value (.func 52), _, _⟩) ?_); refine wpl_call (f := 52) Tryd.call52 kr9 ?_; refine ⟨_, (check_any _ C2 S2 a2 n2 k2 hC2 (hs2.ext hS.1) hn2), ?_⟩; rintro e w ⟨rfl, hE2⟩; rw [HE2.out]; replace hS := hS.ext hE2; clear hE2; refine ⟨_, rfl, ?_⟩; refine put_move ?_; go_step) | (refine y91 ?_) | (refine y990 ?_) | (refine y927 ?_) | (refine y991 ?_) | (refine y985 ?_) | (refine y9126 ?_) | ((with_reducible refine gs9 5 ?_); (refine wl9 ?_; apply wp_allocP (o := ⟨some 5, _, _, _, _, _⟩) hS 31 rfl _ zp31; clear hS; intro g5 w hS; refine put_move ?_; go_step)) | ((with_reducible refine gt9 _ (.store 31 _ _) ?_); (refine wl9 ?_; apply wp_storePP hS 31 _ _ rfl _ rfl 17 (row_of rfl) _ _; (case hp => exact pl9); (case hy => rfl); (case hn => (repeat (first | exact Pre.nil | (apply Pre.ints; (case hn => (first | (with_reducible assumption) | exact Len.rep | exact Len.set (by with_reducible assumption) | exact Len.set Len.rep | exact Len.set (Len.set Len.rep))); (case h => omega); (case hm => rfl)) | apply Pre.val))); (case hn' => (repeat (first | exact Pre.nil | (apply Pre.ints; (case hn => (first | (with_reducible assumption) | exact Len.rep | exact Len.set (by with_reducible assumption) | exact Len.set Len.rep | exact Len.set (Len.set Len.rep))); (case h => omega); (case hm => rfl)) | apply Pre.val))); (case hv => rfl); (case hd => exact rfl); clear hS; intro w hS)) | ((fail_if_success with_reducible refine ga9 ?_); go_step))
      · skip
        refine ret_all (xs := [_, _]) rfl (.cons (OneRes.tmp rfl) (.cons (OneRes.tmp rfl) (.nil))) (by simp) rfl ?_
        exact ⟨by have h := HE.out; rw [if_pos rfl] at h; rw [h]; rfl, hS.1⟩
      · go_roundg (gk - 1)
        case measure => omega
        case rel => exact ⟨2, by omega, rfl, fun _ => rfl, fun _ => by omega, hS.sub sb9⟩
  · have h1 := HA (by omega)
    have h2 := HB (by omega)
    exact absurd (by have h := HE.out; rw [if_pos h1, h2] at h; exact h.symm) h0
set_option maxHeartbeats 8000000 in
theorem made_ok (w0 : World) (C1 C2 S1 S2 : List Int) (a1 a2 : Option Addr) (n1 n2 k1 k2 : Nat) (hC1 : Len C1 16) (hC2 : Len C2 16) (hs1 : Sl w0 1 (.slice a1 n1 k1) n1 (S1.map (Value.int .i64))) (hs2 : Sl w0 1 (.slice a2 n2 k2) n2 (S2.map (Value.int .i64))) (hn1 : n1 ≤ 9223372036854775807) (hn2 : n2 ≤ 9223372036854775807) (hE1 : tabE C1 S1 = 0) (hE2 : tabE C2 S2 = 0) :
 Calls Tryd.prog 37 #[.agg (pcells [.ints C1, .val (.slice a1 n1 k1), .ints C2, .val (.slice a2 n2 k2)]).toArray] w0 fun e w => ∃ g, e = .returned (.tuple #[.pointer (some ⟨g, 0, none⟩), .int .i64 0]) ∧ St w0 w [cdr g (wds C1 S1) (wds C2 S2)] := by
 have hS := St.start w0
 have hL1 := hid (tabLen2 C1 (.slice a1 n1 k1) hC1)
 have hL2 := hid (tabLen2 C2 (.slice a2 n2 k2) hC2)
 have HE1 := hid hE1
 have HE2 := hid hE2
 clear hE1 hE2
 go_enter Tryd.func37, Tryd.ntmps37
 repeat' (first
  | ((with_reducible refine gs9 11 ?_); refine wl9 ?_; refine wp_buildSlice1 (o := ⟨some 11, _, _, _, _, _⟩) hS 106 2 _ rfl 31 17 152 el106 _ _ (Parts.agg rfl hL1.out (Parts.agg rfl hL2.out Parts.nil)) rfl (by decide) (by decide) ?_; clear hS; intro g11 w hS; replace hS := st_tabs3 hS; refine put_move ?_; go_step) | (refine y91 ?_) | (refine y9108 ?_) | (refine y9109 ?_) | (refine y997 ?_) | ((with_reducible refine gs9 1 ?_); (refine wl9 ?_; apply wp_boxP (o := ⟨some 1, _, _, _, _, _⟩) hS 33 _ rfl _ rfl; clear hS; intro g1 w hS; refine put_move ?_; go_step)) | (refine y9126 ?_) | ((fail_if_success with_reducible refine ga9 ?_); go_step))
 clear hL1 hL2
 go_loopg [13] 2 (fun gk kv w => ∃ k : Nat, gk + k = 2 ∧ kv = .int .i64 k ∧ St w0 w [prt g1 [.ints C1, .val (.slice a1 n1 k1), .ints C2, .val (.slice a2 n2 k2)], prt g11 [.ints C1, .val (.slice a1 n1 k1), .ints C2, .val (.slice a2 n2 k2)]])
 case atStart => exact ⟨0, rfl, rfl, hS.sub sb9⟩
 case round =>
  clear hS
  obtain ⟨k, hk, rfl, hS⟩ := hrel
  by_cases hlt : k < 2
  · obtain rfl | rfl : k = 0 ∨ k = 1 := by omega
    · skip
      repeat' (first
       | ((with_reducible refine gt9 _ (.call ⟨.value (.func 52), _, _⟩) ?_); refine wpl_call (f := 52) Tryd.call52 kr9 ?_; refine ⟨_, (check_any _ C1 S1 a1 n1 k1 hC1 (hs1.ext hS.1) hn1), ?_⟩; rintro e w ⟨rfl, hE2⟩; rw [HE1.out]; replace hS := hS.ext hE2; clear hE2; refine ⟨_, rfl, ?_⟩; refine put_move ?_; go_step) | (refine y91 ?_) | (refine y990 ?_) | (refine y927 ?_) | (refine y991 ?_) | (refine y9126 ?_) | ((with_reducible refine gs9 5 ?_); (refine wl9 ?_; apply wp_allocP (o := ⟨some 5, _, _, _, _, _⟩) hS 31 rfl _ zp31; clear hS; intro g5 w hS; refine put_move ?_; go_step)) | ((with_reducible refine gt9 _ (.store 31 _ _) ?_); (refine wl9 ?_; apply wp_storePP hS 31 _ _ rfl _ rfl 17 (row_of rfl) _ _; (case hp => exact pl9); (case hy => rfl); (case hn => (repeat (first | exact Pre.nil | (apply Pre.ints; (case hn => (first | (with_reducible assumption) | exact Len.rep | exact Len.set (by with_reducible assumption) | exact Len.set Len.rep | exact Len.set (Len.set Len.rep))); (case h => omega); (case hm => rfl)) | apply Pre.val))); (case hn' => (repeat (first | exact Pre.nil | (apply Pre.ints; (case hn => (first | (with_reducible assumption) | exact Len.rep | exact Len.set (by with_reducible assumption) | exact Len.set Len.rep | exact Len.set (Len.set Len.rep))); (case h => omega); (case hm => rfl)) | apply Pre.val))); (case hv => rfl); (case hd => exact rfl); clear hS; intro w hS)) | ((fail_if_success with_reducible refine ga9 ?_); go_step))
      repeat' (first
       | (refine y9146 ?_) | (refine y985 ?_) | ((fail_if_success with_reducible refine ga9 ?_); go_step))
      all_goals (try (have hF : False := (by omega); cases hF))
      go_roundg (gk - 1)
      case measure => omega
      case rel => exact ⟨1, by omega, rfl, hS.sub sb9⟩
    · skip
      repeat' (first
       | ((with_reducible refine gt9 _ (.call ⟨.value (.func 52), _, _⟩) ?_); refine wpl_call (f := 52) Tryd.call52 kr9 ?_; refine ⟨_, (check_any _ C2 S2 a2 n2 k2 hC2 (hs2.ext hS.1) hn2), ?_⟩; rintro e w ⟨rfl, hE2⟩; rw [HE2.out]; replace hS := hS.ext hE2; clear hE2; refine ⟨_, rfl, ?_⟩; refine put_move ?_; go_step) | (refine y91 ?_) | (refine y990 ?_) | (refine y927 ?_) | (refine y991 ?_) | (refine y9126 ?_) | ((with_reducible refine gs9 5 ?_); (refine wl9 ?_; apply wp_allocP (o := ⟨some 5, _, _, _, _, _⟩) hS 31 rfl _ zp31; clear hS; intro g5 w hS; refine put_move ?_; go_step)) | ((with_reducible refine gt9 _ (.store 31 _ _) ?_); (refine wl9 ?_; apply wp_storePP hS 31 _ _ rfl _ rfl 17 (row_of rfl) _ _; (case hp => exact pl9); (case hy => rfl); (case hn => (repeat (first | exact Pre.nil | (apply Pre.ints; (case hn => (first | (with_reducible assumption) | exact Len.rep | exact Len.set (by with_reducible assumption) | exact Len.set Len.rep | exact Len.set (Len.set Len.rep))); (case h => omega); (case hm => rfl)) | apply Pre.val))); (case hn' => (repeat (first | exact Pre.nil | (apply Pre.ints; (case hn => (first | (with_reducible assumption) | exact Len.rep | exact Len.set (by with_reducible assumption) | exact Len.set Len.rep | exact Len.set (Len.set Len.rep))); (case h => omega); (case hm => rfl)) | apply Pre.val))); (case hv => rfl); (case hd => exact rfl); clear hS; intro w hS)) | ((fail_if_success with_reducible refine ga9 ?_); go_step))
      repeat' (first
       | (refine y9146 ?_) | (refine y985 ?_) | ((fail_if_success with_reducible refine ga9 ?_); go_step))
      all_goals (try (have hF : False := (by omega); cases hF))
      go_roundg (gk - 1)
      case measure => omega
      case rel => exact ⟨2, by omega, rfl, hS.sub sb9⟩
  · obtain rfl : k = 2 := by omega
    repeat' (first
     | (refine y990 ?_) | ((fail_if_success with_reducible refine ga9 ?_); go_step))
    apply wp_join3 (rs := fun g25 g28 g30 => [cdr g30 (wds C1 S1) (wds C2 S2)])
    · skip
      refine drawn_lit [5, 7] (fun w => St w0 w [prt g1 [.ints C1, .val (.slice a1 n1 k1), .ints C2, .val (.slice a2 n2 k2)]]) kr9 ?_
      replace hS := hS.drew
      focus
       (refine takeV 0 _ al9 kr9 kr9 kr9 (fun _ _ _ _ h => nomatch h.1) (V.fieldAddr fo33_0 rfl nq9) rfl ?_)
       go_step
       apply takeS 1 al9 kr9 kr9 kr9 (fun _ _ _ _ h => nomatch h.1) [2, 5, 6, 7, 8, 9] kr9 (hS.sub sb9)
       case hfr => intro w hS; ((refine wl9 ?_; apply wp_loadPP hS 31 _ rfl _ _ rfl 17 (row_of rfl) _; (case hp => exact pl9); (case hi => (repeat (first | (apply AtP.head; (repeat (first | exact Pre.nil | (apply Pre.ints; (case hn => (first | (with_reducible assumption) | exact Len.rep | exact Len.set (by with_reducible assumption) | exact Len.set Len.rep | exact Len.set (Len.set Len.rep))); (case h => omega); (case hm => rfl)) | apply Pre.val))) | (apply AtP.skipI; (case hn => (first | (with_reducible assumption) | exact Len.rep | exact Len.set (by with_reducible assumption) | exact Len.set Len.rep | exact Len.set (Len.set Len.rep))); (case h => omega); (case ho => rfl)) | apply AtP.skipV))); refine put_move ?_; go_step)); refine wpList_nil ?_; exact ⟨rfl, rfl⟩
       case hd => rfl
       (refine takeV 3 _ al9 kr9 kr9 kr9 (fun _ _ _ _ h => nomatch h.1) (V.fieldAddr fo33_1 rfl nq9) rfl ?_)
       go_step
       apply takeS 4 al9 kr9 kr9 kr9 (fun _ _ _ _ h => nomatch h.1) [5, 6, 7, 8, 9] kr9 (hS.sub sb9)
       case hfr => intro w hS; ((refine wl9 ?_; apply wp_loadPP hS 31 _ rfl _ _ rfl 17 (row_of rfl) _; (case hp => exact pl9); (case hi => (repeat (first | (apply AtP.head; (repeat (first | exact Pre.nil | (apply Pre.ints; (case hn => (first | (with_reducible assumption) | exact Len.rep | exact Len.set (by with_reducible assumption) | exact Len.set Len.rep | exact Len.set (Len.set Len.rep))); (case h => omega); (case hm => rfl)) | apply Pre.val))) | (apply AtP.skipI; (case hn => (first | (with_reducible assumption) | exact Len.rep | exact Len.set (by with_reducible assumption) | exact Len.set Len.rep | exact Len.set (Len.set Len.rep))); (case h => omega); (case ho => rfl)) | apply AtP.skipV))); refine put_move ?_; go_step)); refine wpList_nil ?_; exact ⟨rfl, rfl⟩
       case hd => rfl
       refine branch1 2 al9 rfl kr9 ?_
       refine wp_callF (f := 59) rfl Tryd.call59 (newCoder_any _ C1 S1 a1 n1 k1 hC1 (hs1.ext hS.1) hn1 HE1.out) ?_; rintro e w ⟨g25, rfl, hS2⟩; replace hS := hS.call1 hS2; clear hS2; refine ⟨_, rfl, ?_⟩
       refine ⟨fun _ _ => hS.sub sb9, ?_⟩
       refine drawn_move ?_
       go_step
       refine branch1 5 al9 rfl kr9 ?_
       refine wp_callF (f := 59) rfl Tryd.call59 (newCoder_any _ C2 S2 a2 n2 k2 hC2 (hs2.ext hS.1) hn2 HE2.out) ?_; rintro e w ⟨g28, rfl, hS2⟩; replace hS := hS.call1 hS2; clear hS2; refine ⟨_, rfl, ?_⟩
       refine ⟨fun h => absurd (by decide) h, ?_⟩
       refine drawn_move ?_
       go_step
       (refine takeV 6 _ al9 kr9 kr9 kr9 (fun _ _ _ _ h => nomatch h.1) (V.build (vs := [(0, _), (1, _)]) rfl (bl120_0_1 _ _)) rfl ?_)
       go_step
       refine branch1 7 al9 rfl kr9 ?_
       (refine wp_boxG (o := ⟨some 30, _, _, _, _, _⟩) hS 120 _ rfl _ rfl ?_; clear hS; intro g30 w hS)
       refine ⟨fun h => absurd (by decide) h, ?_⟩
       refine drawn_move ?_
       go_step
       refine takeA 8 _ al9 kr9 kr9 kr9 (fun _ _ _ _ h => nomatch h.1) rfl ?_
       go_step
       refine takeA 9 _ al9 kr9 kr9 kr9 (fun _ _ _ _ h => nomatch h.1) rfl ?_
       go_step
       refine drawn_done kr9 ?_ _
       exact ⟨rfl, g25, g28, g30, rfl, St.close (g25, g28) (by dsimp only [List.cons_append, List.nil_append]; exact hS.sub sb9)⟩
    clear hS
    intro g25 g28 g30 w hS
    repeat' ((fail_if_success with_reducible refine ga9 ?_); go_step)
    refine ret_all (xs := [_, _]) rfl (.cons (OneRes.tmp rfl) (.cons (OneRes.tmp rfl) (.nil))) (by simp) rfl ?_
    exact ⟨g30, rfl, hS⟩

end Go.Proofs.YtehbjhocgnfpmaaDoor
/-
  DERIVED: THE SHELF's CONTRACTS AT THIS DUMP, IN PLAIN WORDS (tools/lay-plain.mjs out of 'TrydShelf.lean', which tools/lay-shelf.mjs wrote): THE SAME DECLARATIONS UNDER THE SAME NAMES: 'import', 'namespace', 'open', 'def', 'theorem' AND NOTHING ELSE: no command of the shelf's: FOR A HAND-IN. Each laying: the table of numbers ('.._ren') and one theorem, a field a fact of the dump's own or the kernel's comparison; each contract: ONE APPLICATION.
-/
namespace Go.Proofs
open Go.Shelf
def Tryd.lays125_ren : Go.Shelf.Ren := ⟨fun | 125 => 110 | 128 => 113 | 129 => 114 | n => n, fun | 46 => 147 | 3 => 3 | 51 => 171 | 53 => 76 | 4 => 4 | 5 => 5 | 9 => 9 | n => n, fun | n => n⟩
theorem Tryd.lays125 : Go.Proofs.Lays.n125 Tryd.prog Tryd.lays125_ren := {
  mixed := by kernel_rfl
  f125 := Tryd.func110.trans (congrArg some (by kernel_rfl))
  f128 := Tryd.func113.trans (congrArg some (by kernel_rfl))
  f129 := Tryd.func114.trans (congrArg some (by kernel_rfl))
  t3 := Tryd.underlying3
  a3 := Tryd.isAgg3
  z3 := Tryd.sizeOf3
  v3 := Tryd.zeroValue3
  t4 := Tryd.underlying4
  a4 := Tryd.isAgg4
  z4 := Tryd.sizeOf4
  v4 := Tryd.zeroValue4
  t5 := Tryd.underlying5
  a5 := Tryd.isAgg5
  z5 := Tryd.sizeOf5
  v5 := Tryd.zeroValue5
  t9 := Tryd.underlying9
  a9 := Tryd.isAgg9
  z9 := Tryd.sizeOf9
  v9 := Tryd.zeroValue9
  t46 := Tryd.underlying147
  a46 := Tryd.isAgg147
  z46 := Tryd.sizeOf147
  v46 := Tryd.zeroValue147
  t51 := Tryd.underlying171
  a51 := Tryd.isAgg171
  z51 := Tryd.sizeOf171
  v51 := Tryd.zeroValue171
  t53 := Tryd.underlying76
  a53 := Tryd.isAgg76
  z53 := Tryd.sizeOf76
  v53 := Tryd.zeroValue76 }
/-- bits.Len: "Len returns the minimum number of bits required to represent x; the result is 0 for x == 0.": IT RETURNS 'Lib.bitLen x'; the world is as it was. (A uint has 64 bits in the model.) ITS CALLEE bits.Len64 IS MET BY ITS OWN CONTRACT OFF THE SHELF (lay that first). (LAID: no walk: one application.) -/
theorem Tryd.bits_Len (x : Int) (w : World) (h0 : 0 ≤ x) (h1 : x ≤ 18446744073709551615) :
    Calls Tryd.prog 110 #[.int .u64 x] w fun e w' => e = .returned (.int .i64 (Lib.bitLen x.toNat)) ∧ w' = w := Any.bits_Len Tryd.lays125 x w h0 h1
def Tryd.lays185_ren : Go.Shelf.Ren := ⟨fun | 185 => 80 | 187 => 92 | 115 => 93 | 253 => 94 | 224 => 95 | 254 => 96 | 255 => 105 | 291 => 106 | n => n, fun | 37 => 34 | 3 => 3 | 4 => 4 | 0 => 0 | 5 => 5 | 46 => 147 | 9 => 9 | 146 => 172 | 51 => 171 | n => n, fun | 1 => 0 | n => n⟩
theorem Tryd.lays185 : Go.Proofs.Lays.n185 Tryd.prog Tryd.lays185_ren := {
  mixed := by kernel_rfl
  f115 := Tryd.func93.trans (congrArg some (by kernel_rfl))
  f185 := Tryd.func80.trans (congrArg some (by kernel_rfl))
  f187 := Tryd.func92.trans (congrArg some (by kernel_rfl))
  f224 := Tryd.func95.trans (congrArg some (by kernel_rfl))
  f253 := Tryd.func94.trans (congrArg some (by kernel_rfl))
  f254 := Tryd.func96.trans (congrArg some (by kernel_rfl))
  f255 := Tryd.func105.trans (congrArg some (by kernel_rfl))
  f291 := Tryd.func106.trans (congrArg some (by kernel_rfl))
  t0 := Tryd.underlying0
  a0 := Tryd.isAgg0
  z0 := Tryd.sizeOf0
  v0 := Tryd.zeroValue0
  t3 := Tryd.underlying3
  a3 := Tryd.isAgg3
  z3 := Tryd.sizeOf3
  v3 := Tryd.zeroValue3
  t4 := Tryd.underlying4
  a4 := Tryd.isAgg4
  z4 := Tryd.sizeOf4
  v4 := Tryd.zeroValue4
  t5 := Tryd.underlying5
  a5 := Tryd.isAgg5
  z5 := Tryd.sizeOf5
  v5 := Tryd.zeroValue5
  t9 := Tryd.underlying9
  a9 := Tryd.isAgg9
  z9 := Tryd.sizeOf9
  v9 := Tryd.zeroValue9
  t37 := Tryd.underlying34
  a37 := Tryd.isAgg34
  z37 := Tryd.sizeOf34
  v37 := Tryd.zeroValue34
  t46 := Tryd.underlying147
  a46 := Tryd.isAgg147
  z46 := Tryd.sizeOf147
  v46 := Tryd.zeroValue147
  t51 := Tryd.underlying171
  a51 := Tryd.isAgg171
  z51 := Tryd.sizeOf171
  v51 := Tryd.zeroValue171
  t146 := Tryd.underlying172
  a146 := Tryd.isAgg172
  z146 := Tryd.sizeOf172
  v146 := Tryd.zeroValue172
  g1 := by kernel_rfl }
def Tryd.laysSlB13_ren : Go.Shelf.Ren := ⟨fun | 13 => 79 | 24 => 90 | 25 => 91 | 12 => 80 | 31 => 104 | 19 => 92 | 20 => 93 | 21 => 94 | 22 => 95 | 23 => 96 | 29 => 105 | 30 => 106 | n => n, fun | 22 => 34 | 3 => 3 | 4 => 4 | 0 => 0 | 5 => 5 | 9 => 9 | 33 => 147 | 40 => 172 | 39 => 171 | n => n, fun | 0 => 0 | n => n⟩
theorem Tryd.laysSlB13 : Go.Proofs.SlLaysB.n13 Tryd.prog Tryd.laysSlB13_ren := {
  mixed := by kernel_rfl
  f13 := Tryd.func79.trans (congrArg some (by kernel_rfl))
  f25 := Tryd.func91.trans (congrArg some (by kernel_rfl))
  t0 := Tryd.underlying0
  a0 := Tryd.isAgg0
  z0 := Tryd.sizeOf0
  v0 := Tryd.zeroValue0
  t3 := Tryd.underlying3
  a3 := Tryd.isAgg3
  z3 := Tryd.sizeOf3
  v3 := Tryd.zeroValue3
  t4 := Tryd.underlying4
  a4 := Tryd.isAgg4
  z4 := Tryd.sizeOf4
  v4 := Tryd.zeroValue4
  t5 := Tryd.underlying5
  a5 := Tryd.isAgg5
  z5 := Tryd.sizeOf5
  v5 := Tryd.zeroValue5
  t22 := Tryd.underlying34
  a22 := Tryd.isAgg34
  z22 := Tryd.sizeOf34
  v22 := Tryd.zeroValue34 }
open Go.RowKit Go.Lib in
/-- The same, s AT WHATEVER ADDRESS, its cells as 'open_ints' hands them ('a.add i'). (LAID: no walk: one application.) -/
theorem Tryd.bytes_Count_one_at (a : Addr) (n c b2 o2 d : Nat) (xs : List Int) (cv : Int) (w : World) (hx : xs.length = n) (hc : ∀ i, i < n → w.cell? (a.add i) = some (.int .u8 (xs.getD i 0))) (hc2 : w.cell? ⟨b2, o2, none⟩ = some (.int .u8 cv)) :
    Calls Tryd.prog 79 #[.slice (some a) n c, .slice (some ⟨b2, o2, none⟩) 1 d] w fun e w' => e = .returned (.int .i64 (Lib.countByte (Lib.bytesOf xs) cv.toNat.toUInt8)) ∧ w' = w := Any.bytes_Count_one_at Tryd.laysSlB13 a n c b2 o2 d xs cv w hx hc hc2
open Go.RowKit Go.Lib in
/-- The same where s is nil: 0. (LAID: no walk: one application.) -/
theorem Tryd.bytes_Count_one_nil (b2 o2 d : Nat) (cv : Int) (w : World) (hc2 : w.cell? ⟨b2, o2, none⟩ = some (.int .u8 cv)) :
    Calls Tryd.prog 79 #[.slice none 0 0, .slice (some ⟨b2, o2, none⟩) 1 d] w fun e w' => e = .returned (.int .i64 0) ∧ w' = w := Any.bytes_Count_one_nil Tryd.laysSlB13 b2 o2 d cv w hc2
open Go.RowKit Go.Lib in
/-- bytes.Index at a separator of one byte, s at whatever address. (LAID: no walk: one application.) -/
theorem Tryd.bytes_Index_one_at (a : Addr) (n c b2 o2 d : Nat) (xs : List Int) (cv : Int) (w : World) (hx : xs.length = n) (hc : ∀ i, i < n → w.cell? (a.add i) = some (.int .u8 (xs.getD i 0))) (hc2 : w.cell? ⟨b2, o2, none⟩ = some (.int .u8 cv)) :
    Calls Tryd.prog 80 #[.slice (some a) n c, .slice (some ⟨b2, o2, none⟩) 1 d] w fun e w' => e = .returned (.int .i64 (Lib.indexByte (Lib.bytesOf xs) cv.toNat.toUInt8)) ∧ w' = w := Any.bytes_Index_one_at Tryd.lays185 a n c b2 o2 d xs cv w hx hc hc2
open Go.Proofs Go.RowKit Go.Lib in
/-- bytes.Index, WHOLE: "Index returns the index of the first instance of sep in s, or -1 if sep is not present in s.": 'Lib.index' of the two lists of bytes. (LAID: no walk: one application.) -/
theorem Tryd.bytes_Index_at (a1 a2 : Addr) (n c1 k c2 : Nat) (xs ys : List Int) (m : Int) (w : World) (hx : xs.length = n) (hy : ys.length = k) (hr1 : ∀ x ∈ xs, 0 ≤ x ∧ x < 256) (hr2 : ∀ y ∈ ys, 0 ≤ y ∧ y < 256) (hc1 : ∀ i, i < n → w.cell? (a1.add i) = some (.int .u8 (xs.getD i 0))) (hc2 : ∀ i, i < k → w.cell? (a2.add i) = some (.int .u8 (ys.getD i 0))) (hcap : n ≤ c1) (hs : n < 4294967281) (hk : k ≤ 9223372036854775807) (hm : w.cell? ⟨0, 0, none⟩ = some (.int .i64 m)) :
    Calls Tryd.prog 80 #[.slice (some a1) n c1, .slice (some a2) k c2] w fun e w' => e = .returned (.int .i64 (Lib.index (Lib.bytesOf xs) (Lib.bytesOf ys))) ∧ ∃ q, w' = w.drewN q := Any.bytes_Index_at Tryd.lays185 a1 a2 n c1 k c2 xs ys m w hx hy hr1 hr2 hc1 hc2 hcap hs hk hm
def Tryd.laysM185_ren : Go.Shelf.Ren := ⟨fun | 185 => 80 | 187 => 92 | 115 => 93 | 253 => 94 | 224 => 95 | 254 => 96 | 255 => 105 | 291 => 106 | n => n, fun | 37 => 34 | 3 => 3 | 4 => 4 | 0 => 0 | 5 => 5 | 46 => 147 | 9 => 9 | 146 => 172 | 51 => 171 | n => n, fun | 1 => 0 | n => n⟩
theorem Tryd.laysM185 : Go.Proofs.LaysM.n185 Tryd.prog Tryd.laysM185_ren := {
  mixed := by kernel_rfl
  f115 := Tryd.func93.trans (congrArg some (by kernel_rfl))
  f185 := Tryd.func80.trans (congrArg some (by kernel_rfl))
  f187 := Tryd.func92.trans (congrArg some (by kernel_rfl))
  f224 := Tryd.func95.trans (congrArg some (by kernel_rfl))
  f253 := Tryd.func94.trans (congrArg some (by kernel_rfl))
  f254 := Tryd.func96.trans (congrArg some (by kernel_rfl))
  f255 := Tryd.func105.trans (congrArg some (by kernel_rfl))
  f291 := Tryd.func106.trans (congrArg some (by kernel_rfl))
  t0 := Tryd.underlying0
  a0 := Tryd.isAgg0
  z0 := Tryd.sizeOf0
  v0 := Tryd.zeroValue0
  t3 := Tryd.underlying3
  a3 := Tryd.isAgg3
  z3 := Tryd.sizeOf3
  v3 := Tryd.zeroValue3
  t4 := Tryd.underlying4
  a4 := Tryd.isAgg4
  z4 := Tryd.sizeOf4
  v4 := Tryd.zeroValue4
  t5 := Tryd.underlying5
  a5 := Tryd.isAgg5
  z5 := Tryd.sizeOf5
  v5 := Tryd.zeroValue5
  t9 := Tryd.underlying9
  a9 := Tryd.isAgg9
  z9 := Tryd.sizeOf9
  v9 := Tryd.zeroValue9
  t37 := Tryd.underlying34
  a37 := Tryd.isAgg34
  z37 := Tryd.sizeOf34
  v37 := Tryd.zeroValue34
  t46 := Tryd.underlying147
  a46 := Tryd.isAgg147
  z46 := Tryd.sizeOf147
  v46 := Tryd.zeroValue147
  t51 := Tryd.underlying171
  a51 := Tryd.isAgg171
  z51 := Tryd.sizeOf171
  v51 := Tryd.zeroValue171
  t146 := Tryd.underlying172
  a146 := Tryd.isAgg172
  z146 := Tryd.sizeOf172
  v146 := Tryd.zeroValue172
  g1 := by kernel_rfl
  i0 := by kernel_rfl
  i3 := by kernel_rfl
  i4 := by kernel_rfl
  i5 := by kernel_rfl
  i9 := by kernel_rfl
  i37 := by kernel_rfl
  i46 := by kernel_rfl
  i51 := by kernel_rfl
  i146 := by kernel_rfl
  m1 := by kernel_rfl
  s1_3 := fun w h => Go.Proofs.cell_of_shapedOpen_int (zero := #[.int .i64 0]) (t := 3) h (of_decide_eq_true (by kernel_rfl)) (by kernel_rfl) rfl (by kernel_rfl) (by kernel_rfl) Tryd.underlying3 }
def Tryd.laysSlC13_ren : Go.Shelf.Ren := ⟨fun | 13 => 79 | 24 => 90 | 25 => 91 | 12 => 80 | 31 => 104 | 19 => 92 | 20 => 93 | 21 => 94 | 22 => 95 | 23 => 96 | 29 => 105 | 30 => 106 | n => n, fun | 22 => 34 | 3 => 3 | 4 => 4 | 0 => 0 | 5 => 5 | 9 => 9 | 33 => 147 | 40 => 172 | 39 => 171 | n => n, fun | 0 => 0 | n => n⟩
theorem Tryd.laysSlC13 : Go.Proofs.SlLaysC.n13 Tryd.prog Tryd.laysSlC13_ren := {
  mixed := by kernel_rfl
  f12 := Tryd.func80.trans (congrArg some (by kernel_rfl))
  f13 := Tryd.func79.trans (congrArg some (by kernel_rfl))
  f19 := Tryd.func92.trans (congrArg some (by kernel_rfl))
  f20 := Tryd.func93.trans (congrArg some (by kernel_rfl))
  f21 := Tryd.func94.trans (congrArg some (by kernel_rfl))
  f22 := Tryd.func95.trans (congrArg some (by kernel_rfl))
  f23 := Tryd.func96.trans (congrArg some (by kernel_rfl))
  f25 := Tryd.func91.trans (congrArg some (by kernel_rfl))
  f29 := Tryd.func105.trans (congrArg some (by kernel_rfl))
  f30 := Tryd.func106.trans (congrArg some (by kernel_rfl))
  t0 := Tryd.underlying0
  a0 := Tryd.isAgg0
  z0 := Tryd.sizeOf0
  v0 := Tryd.zeroValue0
  t3 := Tryd.underlying3
  a3 := Tryd.isAgg3
  z3 := Tryd.sizeOf3
  v3 := Tryd.zeroValue3
  t4 := Tryd.underlying4
  a4 := Tryd.isAgg4
  z4 := Tryd.sizeOf4
  v4 := Tryd.zeroValue4
  t5 := Tryd.underlying5
  a5 := Tryd.isAgg5
  z5 := Tryd.sizeOf5
  v5 := Tryd.zeroValue5
  t9 := Tryd.underlying9
  a9 := Tryd.isAgg9
  z9 := Tryd.sizeOf9
  v9 := Tryd.zeroValue9
  t22 := Tryd.underlying34
  a22 := Tryd.isAgg34
  z22 := Tryd.sizeOf34
  v22 := Tryd.zeroValue34
  t33 := Tryd.underlying147
  a33 := Tryd.isAgg147
  z33 := Tryd.sizeOf147
  v33 := Tryd.zeroValue147
  t39 := Tryd.underlying171
  a39 := Tryd.isAgg171
  z39 := Tryd.sizeOf171
  v39 := Tryd.zeroValue171
  t40 := Tryd.underlying172
  a40 := Tryd.isAgg172
  z40 := Tryd.sizeOf172
  v40 := Tryd.zeroValue172
  g0 := by kernel_rfl }
open Go.RowKit Go.Lib in
/-- bytes.Count at a separator of two bytes or more: "Count counts the number of non-overlapping instances of sep in s.": 'Lib.count' of the two lists of bytes. (LAID: no walk: one application.) -/
theorem Tryd.bytes_Count_at (a1 a2 : Addr) (n c1 k c2 : Nat) (xs ys : List Int) (m : Int) (w : World) (hx : xs.length = n) (hy : ys.length = k) (hr1 : ∀ x ∈ xs, 0 ≤ x ∧ x < 256) (hr2 : ∀ y ∈ ys, 0 ≤ y ∧ y < 256) (hc1 : ∀ i, i < n → w.cell? (a1.add i) = some (.int .u8 (xs.getD i 0))) (hc2 : ∀ i, i < k → w.cell? (a2.add i) = some (.int .u8 (ys.getD i 0))) (hcap : n ≤ c1) (hs : n < 4294967281) (hk : k ≤ 9223372036854775807) (h2 : 2 ≤ k) (hm : w.cell? ⟨0, 0, none⟩ = some (.int .i64 m)) :
    Calls Tryd.prog 79 #[.slice (some a1) n c1, .slice (some a2) k c2] w fun e w' => e = .returned (.int .i64 (Lib.count (Lib.bytesOf xs) (Lib.bytesOf ys))) ∧ ∃ q, w' = w.drewN q := Any.bytes_Count_at Tryd.laysSlC13 a1 a2 n c1 k c2 xs ys m w hx hy hr1 hr2 hc1 hc2 hcap hs hk h2 hm
open Go.RowKit Go.Lib in
/-- bytes.Count at a separator of two bytes or more where s is nil: 0. (LAID: no walk: one application.) -/
theorem Tryd.bytes_Count_nil (p2 : Option Addr) (k c2 : Nat) (w : World) (h2 : 2 ≤ k) (hk : k ≤ 9223372036854775807) :
    Calls Tryd.prog 79 #[.slice none 0 0, .slice p2 k c2] w fun e w' => e = .returned (.int .i64 0) ∧ w' = w := Any.bytes_Count_nil Tryd.laysSlC13 p2 k c2 w h2 hk
end Go.Proofs

/- The walks of package size, and of math/bits.Len below 65536. -/
namespace Go.Proofs.YtehbjhocgnfpmaaDoor
open Go.RowKit
def blen (n : Nat) : Nat := if n = 0 then 0 else n.log2 + 1
theorem blen_spec (n : Nat) : n < 2 ^ blen n ∧ (0 < n → 1 ≤ blen n ∧ 2 ^ (blen n - 1) ≤ n) := by
 unfold blen
 by_cases h : n = 0
 · subst h; simp
 · rw [if_neg h]
   exact ⟨Nat.lt_log2_self, fun _ => ⟨by omega, by rw [Nat.add_sub_cancel]; exact Nat.log2_self_le h⟩⟩
theorem blen_le (n k : Nat) (h : n < 2 ^ k) : blen n ≤ k := by
 obtain ⟨_, h2⟩ := blen_spec n
 rcases Nat.eq_zero_or_pos n with h0 | h0
 · subst h0; simp [blen]
 · obtain ⟨h3, h4⟩ := h2 h0
   have h5 := Nat.lt_of_le_of_lt h4 h
   have := (Nat.pow_lt_pow_iff_right (show 1 < 2 by omega)).1 h5
   omega
theorem blen_unique (n k : Nat) (h1 : 2 ^ k ≤ n) (h2 : n < 2 ^ (k + 1)) : blen n = k + 1 := by
 have h3 := blen_le n (k + 1) h2
 obtain ⟨h4, _⟩ := blen_spec n
 have h5 := Nat.lt_of_le_of_lt h1 h4
 have := (Nat.pow_lt_pow_iff_right (show 1 < 2 by omega)).1 h5
 omega
theorem blen_lib (n : Nat) (h : n < 2 ^ 64) : Lib.bitLen n = blen n := by
 rcases Nat.eq_zero_or_pos n with h0 | h0
 · subst h0; rfl
 · obtain ⟨h1, h2, h3⟩ := Lib.bitLenAux_bounds 64 n h (by omega)
   have := blen_unique n (Lib.bitLen n - 1) h2 (by rw [show Lib.bitLen n - 1 + 1 = Lib.bitLen n by have : 1 ≤ Lib.bitLen n := h1; omega]; exact h3)
   have h4 : 1 ≤ Lib.bitLen n := h1
   omega
theorem len_any (x : Nat) (w : World) (h : x < 65536) : Calls Tryd.prog 110 #[.int .u64 x] w fun e w' => e = .returned (.int .i64 (blen x)) ∧ w = w' :=
 (Tryd.bits_Len x w (by omega) (by omega)).mono fun e w' ⟨h1, h2⟩ => ⟨by rw [h1, Int.toNat_natCast, blen_lib x (by omega)], h2.symm⟩
def sz (n : Int) : Nat := blen n.natAbs
def sv (n : Int) : Int := if n < 0 then n + (2 ^ sz n - 1 : Nat) else n
theorem sz_le (n : Int) (h : -4096 < n ∧ n < 4096) : sz n ≤ 12 := blen_le _ 12 (by omega)
set_option maxHeartbeats 1000000 in
theorem sizeBits_any (n : Int) (w : World) (h0 : -4096 < n) (h1 : n < 4096) :
 Calls Tryd.prog 103 #[.int .i64 n] w fun e w' => e = .returned (.tuple #[.int .i64 (sz n), .int .i64 (sv n), .int .i64 0]) ∧ w = w' := by
 obtain ⟨m, hm⟩ : ∃ m, m = n.natAbs := ⟨_, rfl⟩
 have hmax : max n (-n) = (m : Int) := by omega
 have hm4 : m < 4096 := by omega
 have hu : IntKind.u64.wrap (m : Int) = (m : Int) := by simp [IntKind.wrap, IntKind.signed, IntKind.bits]; omega
 have h2 : -4095 ≤ n := by omega
 obtain ⟨k, hk⟩ : ∃ k, blen m = k := ⟨_, rfl⟩
 have hk12 : k ≤ 12 := by rw [← hk]; exact blen_le m 12 (by omega)
 have HV := hid (show sv n = if n < 0 then n + (2 ^ sz n - 1 : Nat) else n from rfl)
 have HK := hid hk
 have HZ : Hid (sz n = k) := by unfold Hid sz; rw [← hm, hk]
 have HPW := hid (mask_i64 k (by omega))
 have hp1 : 2 ^ k ≤ 2 ^ 12 := Nat.pow_le_pow_right (by omega) hk12
 have hp0 := Nat.two_pow_pos k
 have hq4 : 2 ^ k - 1 ≤ 4095 := by omega
 obtain ⟨q, hq⟩ : ∃ q, 2 ^ k - 1 = q := ⟨_, rfl⟩
 rw [hq] at HPW hq4
 have HQ := hid hq
 have hk64 : (k : Int) < 64 := by omega
 clear hm hp1 hp0 hq hk
 by_cases hn : n < 0
 · have HV2 : Hid (sv n = n + (q : Int)) := by unfold Hid; rw [HV.out, if_pos hn, HZ.out, HQ.out]
   clear HV
   have hpw := HPW.out
   clear HPW
   go_enter Tryd.func103, Tryd.ntmps103
   go_wp2_with (go_at_call 110; refine (len_any m _ (by omega)).mono ?_; rintro e w' ⟨rfl, rfl⟩; rw [HK.out])
   refine bodyPost_ret (results_tmp3 rfl _ _ _) rfl ?_
   exact ⟨by rw [HZ.out, HV2.out]; rfl, rfl⟩
 · have HV2 : Hid (sv n = n) := by unfold Hid; rw [HV.out, if_neg hn]
   clear HV HPW
   go_enter Tryd.func103, Tryd.ntmps103
   go_wp2_with (go_at_call 110; refine (len_any m _ (by omega)).mono ?_; rintro e w' ⟨rfl, rfl⟩; rw [HK.out])
   refine bodyPost_ret (results_tmp3 rfl _ _ _) rfl ?_
   exact ⟨by rw [HZ.out, HV2.out]; rfl, rfl⟩
def sback (k v : Nat) : Int := if 0 < k ∧ v < 2 ^ (k - 1) then (v : Int) - (2 ^ k - 1 : Nat) else v
set_option maxHeartbeats 1000000 in
theorem sizeBack_any (k v : Nat) (w : World) (hk : k ≤ 12) (hv : v < 2 ^ k) :
 Calls Tryd.prog 71 #[.int .i64 k, .int .i64 v] w fun e w' => e = .returned (.tuple #[.int .i64 (sback k v), .int .i64 0]) ∧ w = w' := by
 have HPW := hid (mask_i64 k (by omega))
 have HP := hid (pow_i64 k (by omega))
 have hp1 : 2 ^ k ≤ 2 ^ 12 := Nat.pow_le_pow_right (by omega) hk
 have HB := hid (show sback k v = if 0 < k ∧ v < 2 ^ (k - 1) then (v : Int) - (2 ^ k - 1 : Nat) else v from rfl)
 have hsh : 0 < k → ((v : Int) / 2 ^ (k - 1) == 0) = decide (v < 2 ^ (k - 1)) := fun h => by
  have h3 : ((v : Int) / 2 ^ (k - 1)) = ((v / 2 ^ (k - 1) : Nat) : Int) := by push_cast; rfl
  rw [h3, Bool.eq_iff_iff]
  have h4 := Nat.two_pow_pos (k - 1)
  have h5 := @Nat.div_eq_zero_iff v (2 ^ (k - 1))
  simp only [beq_iff_eq, decide_eq_true_eq]
  omega
 obtain ⟨q, hq⟩ : ∃ q, 2 ^ k = q := ⟨_, rfl⟩
 rw [hq] at HPW hp1 hv HB HP
 have hq1 : q - 1 ≤ 4095 := by omega
 have hq0 : k = 0 → q = 1 := fun h => by subst h; exact hq.symm
 clear hq
 have HF : Hid (wrap64 ((v : Int) - wrap64 ((q : Int) - 1)) = (v : Int) - ((q - 1 : Nat) : Int)) := by unfold Hid wrap64; omega
 have hv2 : (v : Int) < (q : Int) := by omega
 have hv3 : (0 : Int) ≤ (v : Int) := by omega
 have hk1 : (0 : Int) ≤ (k : Int) := by omega
 have hk2 : (k : Int) ≤ 12 := by omega
 by_cases h0 : k = 0
 · subst h0
   have hv0 : v = 0 := by have := hq0 rfl; omega
   subst hv0
   have HV2 : Hid (sback 0 0 = 0) := by unfold Hid; rw [HB.out, if_neg (by omega)]; rfl
   clear HB HP HPW hsh hv hp1 hq1 hq0 HF hv2 hv3 hk hk1 hk2
   go_enter Tryd.func71, Tryd.ntmps71
   go_wp2_with fail
   go_ret2
   exact ⟨by rw [HV2.out]; rfl, rfl⟩
 · obtain ⟨r, rfl⟩ : ∃ r, k = r + 1 := ⟨k - 1, by omega⟩
   have hr0 : (0 : Int) ≤ (r : Int) := by omega
   have hr64 : (r : Int) < 64 := by omega
   have hs1 : IntKind.i64.wrap (((r + 1 : Nat) : Int) - 1) = (r : Int) := by simp [IntKind.wrap, IntKind.signed, IntKind.bits]; omega
   have hsh' := hsh (by omega)
   rw [Nat.add_sub_cancel] at hsh' HB
   have hpos : ¬ ((r + 1 : Nat) : Int) ≤ 0 := by omega
   have hpos2 : (0 : Int) < ((r + 1 : Nat) : Int) := by omega
   have hpw := HP.out
   have hpm := HPW.out
   clear hsh HP HPW hq1 hq0 hp1 hk h0
   have hyp : ¬ (q : Int) ≤ (v : Int) := by omega
   by_cases hlt : v < 2 ^ r
   · have HV2 : Hid (sback (r + 1) v = (v : Int) - ((q - 1 : Nat) : Int)) := by unfold Hid; rw [HB.out, if_pos ⟨by omega, hlt⟩]
     have hsh2 : ((v : Int) / 2 ^ r == 0) = true := by rw [hsh', decide_eq_true hlt]
     clear hsh' HB hlt hv
     go_enter Tryd.func71, Tryd.ntmps71
     go_wp2_with fail
     go_ret2
     exact ⟨by rw [HV2.out, ← HF.out]; rfl, rfl⟩
   · have HV2 : Hid (sback (r + 1) v = (v : Int)) := by unfold Hid; rw [HB.out, if_neg (fun h => hlt h.2)]
     have hsh2 : ((v : Int) / 2 ^ r == 0) = false := by rw [hsh', decide_eq_false hlt]
     clear hsh' HB hlt hv HF
     go_enter Tryd.func71, Tryd.ntmps71
     go_wp2_with fail
     go_ret2
     exact ⟨by rw [HV2.out]; rfl, rfl⟩

def zstep (s : Int × Int × Bool) : Int × Int × Bool :=
 if s.2.2 = true ∧ s.2.1 = 7 then (s.1 + 1, s.2.1, false)
 else if s.2.2 = true ∧ s.1 = 0 then (s.1, s.2.1 + 1, false)
 else if s.2.2 = true then (s.1 - 1, s.2.1 + 1, true)
 else if s.1 = 7 then (s.1, s.2.1 + 1, true)
 else if s.2.1 = 0 then (s.1 + 1, s.2.1, true)
 else (s.1 + 1, s.2.1 - 1, false)
def zst : Nat → Int × Int × Bool
 | 0 => (0, 0, true)
 | k + 1 => zstep (zst k)
def zn (k : Nat) : Nat := (8 * (zst k).1 + (zst k).2.1).toNat
def zord : List Nat := (List.range 64).map zn
def zi : List Int := zord.map fun (n : Nat) => (n : Int)
theorem zst_ok : ∀ k, k < 64 → 0 ≤ (zst k).1 ∧ (zst k).1 ≤ 7 ∧ 0 ≤ (zst k).2.1 ∧ (zst k).2.1 ≤ 7 := by decide +kernel
def zl (k : Nat) : List Int := zi.take k ++ List.replicate (64 - k) 0
theorem zl_len : ∀ k, k < 65 → (zl k).length = 64 := by decide +kernel
theorem zl_set : ∀ k, k < 64 → (zl k).set k (8 * (zst k).1 + (zst k).2.1) = zl (k + 1) := by decide +kernel
theorem zl_all : zl 64 = zi := by decide +kernel
theorem zi_len : zi.length = 64 := by decide +kernel

set_option maxRecDepth 100000 in
set_option maxHeartbeats 2000000 in
theorem zorder_any (w : World) : Calls Tryd.prog 87 #[] w fun e w' => e = .returned (.agg (iv zi)) ∧ Ext w w' := by
 go_enter Tryd.func87, Tryd.ntmps87
 go_wp2_with fail
 go_loopg [1, 2, 3, 5] 64 (fun gk rv cv uv xv wr => ∃ (i : Nat) (r c : Int) (u : Bool), gk + i = 64 ∧ xv = .int .i64 i ∧ rv = .int .i64 r ∧ cv = .int .i64 c ∧ uv = .bool u ∧ Hid (zst i = (r, c, u)) ∧ Row wr w.heap.size (zl i) ∧ Ext w wr)
 case atStart => exact ⟨0, 0, 0, true, rfl, rfl, rfl, rfl, rfl, rfl, Row.new w (List.replicate 64 0) 51, (Ext.refl w).alloc _⟩
 case round =>
  obtain ⟨i, r, c, u, hi, rfl, rfl, rfl, rfl, hst, hrow, hE⟩ := hrel
  by_cases hlt : i < 64
  · have hb := zst_ok i hlt
    rw [hst.out] at hb
    dsimp only at hb
    obtain ⟨hb1, hb2, hb3, hb4⟩ := hb
    have hcell := hrow.cell i (by rw [zl_len i (by omega)]; exact hlt)
    have hfree := hrow.free i
    have hset := zl_set i hlt
    rw [hst.out] at hset
    have hrow2 := hrow.set i (8 * r + c)
    rw [hset] at hrow2
    have hE2 : Ext w (wr.setCell ⟨w.heap.size, i, none⟩ (.int .i64 (8 * r + c))) := hE.setCell (Nat.le_refl _) _
    have hs : Hid (zst (i + 1) = zstep (r, c, u)) := by unfold Hid; rw [← hst.out]; rfl
    clear hset hst
    have fin : ∀ (r' c' : Int) (u' : Bool), zstep (r, c, u) = (r', c', u') → Hid (zst (i + 1) = (r', c', u')) := fun r' c' u' h => by rw [← h]; exact hs
    clear hs
    have FIN := hid fin
    clear fin
    have hi' : gk - 1 + (i + 1) = 64 := by omega
    have HI := hid hi'
    clear hi'
    have HR := hid hrow2
    have HE := hid hE2
    clear hrow2 hE2
    cases u
    · by_cases h7 : r = 7
      · subst h7
        go_wp2_with fail
        go_roundg (gk - 1)
        case measure => omega
        case rel => exact ⟨i + 1, _, _, _, HI.out, by go_num, rfl, rfl, rfl, FIN.out _ _ _ (by simp [zstep]), HR.out, HE.out⟩
      · by_cases h0 : c = 0
        · subst h0
          go_wp2_with fail
          go_roundg (gk - 1)
          case measure => omega
          case rel => exact ⟨i + 1, _, _, _, HI.out, by go_num, rfl, rfl, rfl, FIN.out _ _ _ (by simp [zstep]; omega), by simpa using HR.out, by simpa using HE.out⟩
        · go_wp2_with fail
          go_roundg (gk - 1)
          case measure => omega
          case rel => exact ⟨i + 1, _, _, _, HI.out, by go_num, rfl, rfl, rfl, FIN.out _ _ _ (by simp [zstep, h7, h0]), HR.out, HE.out⟩
    · by_cases h7 : c = 7
      · subst h7
        go_wp2_with fail
        go_roundg (gk - 1)
        case measure => omega
        case rel => exact ⟨i + 1, _, _, _, HI.out, by go_num, rfl, rfl, rfl, FIN.out _ _ _ (by simp [zstep]), HR.out, HE.out⟩
      · by_cases h0 : r = 0
        · subst h0
          go_wp2_with fail
          go_roundg (gk - 1)
          case measure => omega
          case rel => exact ⟨i + 1, _, _, _, HI.out, by go_num, rfl, rfl, rfl, FIN.out _ _ _ (by simp [zstep]; omega), by simpa using HR.out, by simpa using HE.out⟩
        · go_wp2_with fail
          go_roundg (gk - 1)
          case measure => omega
          case rel => exact ⟨i + 1, _, _, _, HI.out, by go_num, rfl, rfl, rfl, FIN.out _ _ _ (by simp [zstep, h7, h0]), HR.out, HE.out⟩
  · obtain rfl : i = 64 := by omega
    rw [zl_all] at hrow
    obtain ⟨t, hrow⟩ := hrow
    have hself := setRow_self wr w.heap.size _ t _ hrow
    have hsz : (Tryd.prog.info? 51).map (·.size) = some (iv zi).size := by rw [iv_size, zi_len]; kernel_rfl
    have HS := hid hsz
    have HSelf := hid hself
    clear hsz hself
    have hh := hid hrow
    clear hrow
    go_wp2_with (first
     | (refine wpList_load_row rfl 51 _ rfl w.heap.size rfl t (iv zi) (0, 0) _ hh.out Tryd.underlying51 rfl HS.out ?_)
     | (refine wpList_store_row rfl 51 _ _ rfl w.heap.size (iv zi) rfl rfl t (iv zi) hh.out HS.out rfl (iv_one _) ?_; rw [HSelf.out]))
    refine bodyPost_ret (results_cell_row rfl _ wr w.heap.size t (iv zi) (0, 0) _ rfl hh.out Tryd.underlying51 rfl HS.out) rfl ?_
    exact ⟨rfl, hE⟩

theorem zi_get (i : Nat) (h : i < 64) : (iv zi)[i]? = some (.int .i64 (zn i : Int)) := by
 rw [iv_get zi i (by rw [zi_len]; exact h)]
 congr 2
 simp [nth, zi, zord, List.getD, List.getElem?_map, List.getElem?_range h]
theorem zn_lt : ∀ i, i < 64 → zn i < 64 := by decide +kernel
theorem zn_lt' (i : Nat) (h : i < 64) : (zn i : Int) < 64 := by have := zn_lt i h; omega
def zto (l : List Int) : List Int := zord.map fun n => nth l n
theorem zord_len : zord.length = 64 := by decide +kernel
theorem zto_len (l : List Int) : (zto l).length = 64 := by rw [zto, List.length_map, zord_len]
theorem zto_get (l : List Int) (i : Nat) (h : i < 64) : nth (zto l) i = nth l (zn i) := by
 simp [nth, zto, zord, List.getD, List.getElem?_map, List.getElem?_range h]

set_option maxRecDepth 100000 in
set_option maxHeartbeats 2000000 in
theorem zto_any (w : World) (l : List Int) (hl : l.length = 64) : Calls Tryd.prog 88 #[.agg (iv l)] w fun e w' => e = .returned (.agg (iv (zto l))) ∧ Ext w w' := by
 go_enter Tryd.func88, Tryd.ntmps88
 go_wp2_with fail
 refine (zorder_any _).mono ?_
 rintro e w1 ⟨rfl, hE1⟩
 have hb : Row w1 w.heap.size l := ((Row.new w l 52).alloc _).ext hE1
 have ho : Row w1 (w.heap.size + 1) (filling (zto l) 0) := by
  rw [filling_zero, zto_len]
  have h := (Row.new (w.alloc (.cells (iv l) 52)) (List.replicate 64 0) 52).ext hE1
  simpa using h
 have hE : Ext w w1 := (((Ext.refl w).alloc _).alloc _).trans hE1
 clear hE1
 go_wp2_with fail
 go_loopg [6] 64 (fun gk xv wr => ∃ (i : Nat), gk + i = 64 ∧ xv = .int .i64 i ∧ Row wr w.heap.size l ∧ Row wr (w.heap.size + 1) (filling (zto l) i) ∧ Ext w wr)
 case atStart => exact ⟨0, rfl, rfl, hb, ho, hE⟩
 case round =>
  clear hb ho hE
  obtain ⟨i, hi, rfl, hb, ho, hE⟩ := hrel
  by_cases hlt : i < 64
  · have hz := zi_get i hlt
    have hzl := zn_lt' i hlt
    have hzl' := zn_lt i hlt
    have hcell := hb.cell (zn i) (by omega)
    have hcell2 := ho.cell i (by rw [filling_len _ _ (by rw [zto_len]; omega), zto_len]; exact hlt)
    have hfree := ho.free i
    have ho2 := ho.set i (nth (zto l) i)
    rw [filling_set _ _ (by rw [zto_len]; exact hlt), zto_get _ _ hlt] at ho2
    have HB := hid (hb.setOther ⟨w.heap.size + 1, i, none⟩ (.int .i64 (nth l (zn i))) (by simp))
    have HO := hid ho2
    have HE := hid (hE.setCell (a := ⟨w.heap.size + 1, i, none⟩) (by simp) (.int .i64 (nth l (zn i))))
    have hi' : gk - 1 + (i + 1) = 64 := by omega
    have HI := hid hi'
    clear hi' ho2
    go_wp2_with fail
    go_roundg (gk - 1)
    case measure => omega
    case rel => exact ⟨i + 1, HI.out, by go_num, HB.out, HO.out, HE.out⟩
  · obtain rfl : i = 64 := by omega
    have ho' : Row wr (w.heap.size + 1) (zto l) := by have h := filling_all (zto l); rw [zto_len] at h; rw [h] at ho; exact ho
    clear ho
    obtain ⟨t, ho⟩ := ho'
    have HSelf := hid (setRow_self wr (w.heap.size + 1) _ t _ ho)
    have HS := hid (show (Tryd.prog.info? 52).map (·.size) = some (iv (zto l)).size by rw [iv_size, zto_len]; kernel_rfl)
    have hh := hid ho
    clear ho
    go_wp2_with (first
     | (refine wpList_load_row rfl 52 _ rfl (w.heap.size + 1) rfl t (iv (zto l)) (0, 0) _ hh.out Tryd.underlying52 rfl HS.out ?_)
     | (refine wpList_store_row rfl 52 _ _ rfl (w.heap.size + 1) (iv (zto l)) rfl rfl t (iv (zto l)) hh.out HS.out rfl (iv_one _) ?_; rw [HSelf.out]))
    refine bodyPost_ret (results_cell_row rfl _ wr (w.heap.size + 1) t (iv (zto l)) (0, 0) _ rfl hh.out Tryd.underlying52 rfl HS.out) rfl ?_
    exact ⟨rfl, hE⟩

def zfl (l : List Int) (k : Nat) : List Int := (List.range k).foldl (fun acc i => acc.set (zn i) (nth l i)) (List.replicate 64 0)
def zfrom (l : List Int) : List Int := zfl l 64
theorem zfl_succ (l : List Int) (k : Nat) : zfl l (k + 1) = (zfl l k).set (zn k) (nth l k) := by
 simp [zfl, List.range_succ, List.foldl_append]
theorem zfl_len (l : List Int) (k : Nat) : (zfl l k).length = 64 := by
 induction k with
 | zero => rfl
 | succ k ih => rw [zfl_succ, List.length_set, ih]
theorem zfrom_len (l : List Int) : (zfrom l).length = 64 := zfl_len l 64
theorem zn_inj : ∀ i, i < 64 → ∀ j, j < 64 → zn i = zn j → i = j := by decide +kernel
theorem zn_onto : ∀ j, j < 64 → zord.idxOf j < 64 ∧ zn (zord.idxOf j) = j := by decide +kernel
theorem zfl_get (l : List Int) (k : Nat) (hk : k ≤ 64) (i : Nat) (hi : i < k) : nth (zfl l k) (zn i) = nth l i := by
 induction k with
 | zero => omega
 | succ k ih =>
  rw [zfl_succ]
  by_cases h : i = k
  · subst h
    have hlt : zn i < (zfl l i).length := by rw [zfl_len]; exact zn_lt i (by omega)
    simp [nth, List.getD, hlt]
  · have hne : ¬ zn k = zn i := fun e => h (zn_inj k (by omega) i (by omega) e).symm
    have := ih (by omega) (by omega)
    simp only [nth, List.getD, List.getElem?_set, if_neg hne] at this ⊢
    exact this
theorem list_ext64 (l m : List Int) (hl : l.length = 64) (hm : m.length = 64) (h : ∀ i, i < 64 → nth l i = nth m i) : l = m := by
 apply List.ext_getElem (by omega)
 intro i h1 h2
 have := h i (by omega)
 simpa [nth, List.getD, List.getElem?_eq_getElem h1, List.getElem?_eq_getElem h2] using this
theorem zto_zfrom (l : List Int) (hl : l.length = 64) : zto (zfrom l) = l :=
 list_ext64 _ _ (zto_len _) hl fun i hi => by rw [zto_get _ i hi]; exact zfl_get l 64 (by omega) i hi
theorem zfrom_zto (l : List Int) (hl : l.length = 64) : zfrom (zto l) = l :=
 list_ext64 _ _ (zfrom_len _) hl fun j hj => by
  obtain ⟨h1, h2⟩ := zn_onto j hj
  have h3 := zfl_get (zto l) 64 (by omega) _ h1
  rw [zto_get _ _ h1, h2] at h3
  exact h3

set_option maxRecDepth 100000 in
set_option maxHeartbeats 2000000 in
theorem zfrom_any (w : World) (l : List Int) (hl : l.length = 64) : Calls Tryd.prog 73 #[.agg (iv l)] w fun e w' => e = .returned (.agg (iv (zfrom l))) ∧ Ext w w' := by
 go_enter Tryd.func73, Tryd.ntmps73
 go_wp2_with fail
 refine (zorder_any _).mono ?_
 rintro e w1 ⟨rfl, hE1⟩
 have hb : Row w1 w.heap.size l := ((Row.new w l 52).alloc _).ext hE1
 have ho : Row w1 (w.heap.size + 1) (zfl l 0) := by
  have h := (Row.new (w.alloc (.cells (iv l) 52)) (List.replicate 64 0) 52).ext hE1
  have e : (w.alloc (.cells (iv l) 52)).heap.size = w.heap.size + 1 := by simp
  rw [e] at h
  exact h
 have hE : Ext w w1 := (((Ext.refl w).alloc _).alloc _).trans hE1
 clear hE1
 go_wp2_with fail
 go_loopg [6] 64 (fun gk xv wr => ∃ (i : Nat), gk + i = 64 ∧ xv = .int .i64 i ∧ Row wr w.heap.size l ∧ Row wr (w.heap.size + 1) (zfl l i) ∧ Ext w wr)
 case atStart => exact ⟨0, rfl, rfl, hb, ho, hE⟩
 case round =>
  clear hb ho hE
  obtain ⟨i, hi, rfl, hb, ho, hE⟩ := hrel
  by_cases hlt : i < 64
  · have hz := zi_get i hlt
    have hzl := zn_lt' i hlt
    have hzl' := zn_lt i hlt
    have hcell := hb.cell i (by omega)
    have hcell2 := ho.cell (zn i) (by rw [zfl_len]; exact hzl')
    have hfree := ho.free (zn i)
    have ho2 := ho.set (zn i) (nth l i)
    rw [← zfl_succ] at ho2
    have HB := hid (hb.setOther ⟨w.heap.size + 1, zn i, none⟩ (.int .i64 (nth l i)) (by simp))
    have HO := hid ho2
    have HE := hid (hE.setCell (a := ⟨w.heap.size + 1, zn i, none⟩) (by simp) (.int .i64 (nth l i)))
    have hi' : gk - 1 + (i + 1) = 64 := by omega
    have HI := hid hi'
    clear hi' ho2
    go_wp2_with fail
    go_roundg (gk - 1)
    case measure => omega
    case rel => exact ⟨i + 1, HI.out, by go_num, HB.out, HO.out, HE.out⟩
  · obtain rfl : i = 64 := by omega
    obtain ⟨t, ho⟩ := ho
    have ho' : wr.heap[w.heap.size + 1]? = some (.cells (iv (zfrom l)) t (0, 0)) := ho
    have HSelf := hid (setRow_self wr (w.heap.size + 1) _ t _ ho')
    have HS := hid (show (Tryd.prog.info? 52).map (·.size) = some (iv (zfrom l)).size by rw [iv_size, zfrom_len]; kernel_rfl)
    have hh := hid ho'
    clear ho ho'
    go_wp2_with (first
     | (refine wpList_load_row rfl 52 _ rfl (w.heap.size + 1) rfl t (iv (zfrom l)) (0, 0) _ hh.out Tryd.underlying52 rfl HS.out ?_)
     | (refine wpList_store_row rfl 52 _ _ rfl (w.heap.size + 1) (iv (zfrom l)) rfl rfl t (iv (zfrom l)) hh.out HS.out rfl (iv_one _) ?_; rw [HSelf.out]))
    refine bodyPost_ret (results_cell_row rfl _ wr (w.heap.size + 1) t (iv (zfrom l)) (0, 0) _ rfl hh.out Tryd.underlying52 rfl HS.out) rfl ?_
    exact ⟨rfl, hE⟩


end Go.Proofs.YtehbjhocgnfpmaaDoor
/- Blocks as tokens: the plain law. -/
namespace Go.Proofs.YtehbjhocgnfpmaaDoor
set_option linter.unusedVariables false
abbrev Tok := Int × Int × Int
def flt (l : List Tok) : List Int := l.flatMap fun x => [x.1, x.2.1, x.2.2]
theorem flt_app (l m : List Tok) : flt (l ++ m) = flt l ++ flt m := by simp [flt]
theorem flt_snoc (l : List Tok) (x : Tok) : flt (l ++ [x]) = flt l ++ [x.1, x.2.1, x.2.2] := by simp [flt]
theorem flt_get : ∀ (l : List Tok) (k : Nat) (x : Tok), l[k]? = some x → ((flt l).drop (k * 3)).take 3 = [x.1, x.2.1, x.2.2]
 | [], k, x, h => by simp at h
 | y :: l, 0, x, h => by
  obtain rfl : y = x := by simpa using h
  simp [flt]
 | y :: l, k + 1, x, h => by
  have := flt_get l k x (by simpa using h)
  rw [show (k + 1) * 3 = k * 3 + 3 by omega]
  simp only [flt, List.flatMap_cons] at *
  rw [List.drop_append, List.drop_of_length_le (by simp)]
  simpa using this
theorem flt_inj : ∀ {l m : List Tok}, flt l = flt m → l = m
 | [], [], _ => rfl
 | [], y :: m, h => by simp [flt] at h
 | x :: l, [], h => by simp [flt] at h
 | x :: l, y :: m, h => by
  simp only [flt, List.flatMap_cons, List.cons_append, List.nil_append, List.cons.injEq] at h
  obtain ⟨h1, h2, h3, h4⟩ := h
  have := flt_inj (l := l) (m := m) h4
  rw [this]
  congr 1
  exact Prod.ext h1 (Prod.ext h2 h3)
def tok (r : Nat) (n : Int) : Tok := (((r * 16 + sz n : Nat) : Int), (sz n : Int), sv n)
def longT : Tok := (240, 0, 0)
def endT : Tok := (0, 0, 0)
def tks : Nat → List Int → List Tok
 | r, [] => if 0 < r then [endT] else []
 | r, n :: l => if n = 0 then tks (r + 1) l else List.replicate (r / 16) longT ++ (tok (r % 16) n :: tks 0 l)
def toksOf (before : Int) (z : List Int) : List Tok := tok 0 (nth z 0 - before) :: tks 0 (z.drop 1)
theorem sz_le11 (n : Int) (h : -2048 < n ∧ n < 2048) : sz n ≤ 11 := blen_le _ 11 (by omega)
theorem sz_pos (n : Int) (h : n ≠ 0) : 1 ≤ sz n := by
 obtain ⟨_, h2⟩ := blen_spec n.natAbs
 exact (h2 (by omega)).1
theorem sz_zero : sz 0 = 0 := by simp [sz, blen]
theorem sv_zero : sv 0 = 0 := by simp [sv]
theorem tks_len : ∀ (l : List Int) (r : Nat), (tks r l).length ≤ r + l.length
 | [], r => by
  rw [tks]; split <;> simp
  omega
 | n :: l, r => by
  rw [tks]
  split
  · have := tks_len l (r + 1); simp only [List.length_cons]; omega
  · have := tks_len l 0
    simp only [List.length_append, List.length_replicate, List.length_cons]
    omega
theorem toks_len (before : Int) (z : List Int) (h : z.length = 64) : 1 ≤ (toksOf before z).length ∧ (toksOf before z).length ≤ 64 := by
 have := tks_len (z.drop 1) 0
 simp only [toksOf, List.length_cons, List.length_drop] at *
 omega

end Go.Proofs.YtehbjhocgnfpmaaDoor
/- The walks of slices.ContainsFunc and IndexFunc at ints. -/
namespace Go.Proofs.YtehbjhocgnfpmaaDoor
open Go.RowKit
def firstIdx (p : Int → Bool) (xs : List Int) : Int := match xs.findIdx? p with | some i => (i : Int) | none => -1
theorem firstIdx_some (p : Int → Bool) (xs : List Int) (i : Nat) (h : i < xs.length) (hp : p (nth xs i) = true) (hpre : ∀ j, j < i → p (nth xs j) = false) : firstIdx p xs = i := by
 have : xs.findIdx? p = some i := by
  rw [List.findIdx?_eq_some_iff_getElem]
  refine ⟨h, by simpa [nth, List.getD, List.getElem?_eq_getElem h] using hp, fun j hj => ?_⟩
  have := hpre j hj
  simpa [nth, List.getD, List.getElem?_eq_getElem (show j < xs.length by omega)] using this
 simp [firstIdx, this]
theorem firstIdx_none (p : Int → Bool) (xs : List Int) (hpre : ∀ j, j < xs.length → p (nth xs j) = false) : firstIdx p xs = -1 := by
 have : xs.findIdx? p = none := by
  rw [List.findIdx?_eq_none_iff]
  intro x hx
  obtain ⟨j, hj, rfl⟩ := List.getElem_of_mem hx
  have := hpre j hj
  simpa [nth, List.getD, List.getElem?_eq_getElem hj] using this
 simp [firstIdx, this]
theorem firstIdx_any (p : Int → Bool) (xs : List Int) : decide (0 ≤ firstIdx p xs) = xs.any p := by
 unfold firstIdx
 rw [Bool.eq_iff_iff, decide_eq_true_eq, List.any_eq_true]
 cases h : xs.findIdx? p with
 | none =>
  rw [List.findIdx?_eq_none_iff] at h
  simp only [Int.reduceNeg]
  constructor
  · intro h'; omega
  · rintro ⟨x, hx, hp⟩; rw [h x hx] at hp; cases hp
 | some i =>
  rw [List.findIdx?_eq_some_iff_getElem] at h
  obtain ⟨hi, hp, _⟩ := h
  exact ⟨fun _ => ⟨_, List.getElem_mem hi, hp⟩, fun _ => by dsimp only; omega⟩
theorem firstIdx_bd (p : Int → Bool) (xs : List Int) : -1 ≤ firstIdx p xs := by
 unfold firstIdx; split <;> omega
set_option maxHeartbeats 1000000 in
theorem indexFunc_any (w : World) (v : Value) (xs : List Int) (hs : ISl w v xs) (K : Nat) (caps : Array Value) (p : Int → Bool) (hk : ∀ (args : Array Value) (w : World), (callFunc K args).run Tryd.prog w = .ok (.enter K args) w)
 (hf : ∀ n, Calls Tryd.prog K (#[.int .i64 n] ++ caps) w fun e w' => e = .returned (.bool (p n)) ∧ w = w') :
 Calls Tryd.prog 82 #[v, .func (.func K) #[] caps] w fun e w' => e = .returned (.int .i64 (firstIdx p xs)) ∧ w = w' := by
 obtain ⟨a, c, rfl, hc1, hc2, ha⟩ := hs.open
 have HF := hid hf
 clear hf
 go_enter Tryd.func82, Tryd.ntmps82
 go_wp2_with fail
 go_loopg [8] xs.length (fun gk xv wr => ∃ (i : Nat), gk + i = xs.length ∧ xv = .int .i64 i ∧ (∀ j, j < i → p (nth xs j) = false) ∧ wr = w)
 case atStart => exact ⟨0, rfl, rfl, fun j hj => by omega, rfl⟩
 case round =>
  obtain ⟨i, hi, rfl, hpre, rfl⟩ := hrel
  have hi' : i ≤ xs.length := by omega
  have HP := hid hpre
  clear hpre
  by_cases hlt : i < xs.length
  · obtain ⟨ba, oa, rfl, hca⟩ := ha i hlt
    have h1 := hca i hlt
    clear ha hca
    have HM : Hid (gk - 1 + (i + 1) = xs.length) := by unfold Hid; omega
    have HG : Hid (gk - 1 < gk) := by unfold Hid; omega
    clear hi
    go_wp2_with fail
    refine (HF.out (nth xs i)).mono ?_
    rintro e w' ⟨rfl, rfl⟩
    by_cases hp : p (nth xs i) = true
    · have HX := hid (firstIdx_some p xs i hlt hp HP.out)
      rw [hp]
      clear hp
      go_wp2_with fail
      go_ret
      exact ⟨ret_int HX.out.symm, rfl⟩
    · have hp' : p (nth xs i) = false := by simpa using hp
      have HX : Hid (∀ j, j < i + 1 → p (nth xs j) = false) := fun j hj => by
       by_cases hji : j = i
       · subst hji; exact hp'
       · exact HP.out j (by omega)
      rw [hp']
      clear hp hp'
      go_wp2_with fail
      go_roundg (gk - 1)
      case measure => exact HG.out
      case rel => exact ⟨i + 1, HM.out, by go_num, HX.out, rfl⟩
  · have HX := hid (firstIdx_none p xs (fun j hj => HP.out j (by omega)))
    clear ha
    go_wp2_with fail
    go_ret
    exact ⟨ret_int HX.out.symm, rfl⟩
theorem containsFunc_any (w : World) (v : Value) (xs : List Int) (hs : ISl w v xs) (K : Nat) (caps : Array Value) (p : Int → Bool) (hk : ∀ (args : Array Value) (w : World), (callFunc K args).run Tryd.prog w = .ok (.enter K args) w)
 (hf : ∀ n, Calls Tryd.prog K (#[.int .i64 n] ++ caps) w fun e w' => e = .returned (.bool (p n)) ∧ w = w') :
 Calls Tryd.prog 62 #[v, .func (.func K) #[] caps] w fun e w' => e = .returned (.bool (xs.any p)) ∧ w = w' := by
 have HA := hid (firstIdx_any p xs)
 have hb := firstIdx_bd p xs
 have HF := hid (indexFunc_any w v xs hs K caps p hk hf)
 clear hf hs
 go_enter Tryd.func62, Tryd.ntmps62
 go_wp2_with (go_at_call 82; refine HF.out.mono ?_; rintro e w' ⟨rfl, rfl⟩)
 go_ret
 exact ⟨ret_bool HA.out, rfl⟩
def allIn (l : List Int) (lo hi : Int) : Bool := !l.any fun n => decide (n < lo) || decide (hi < n)
theorem allIn_iff (l : List Int) (lo hi : Int) : allIn l lo hi = true ↔ ∀ i, i < l.length → lo ≤ nth l i ∧ nth l i ≤ hi := by
 unfold allIn
 rw [Bool.not_eq_true', List.any_eq_false]
 constructor
 · intro h i hi
   have := h l[i] (List.getElem_mem hi)
   simp only [Bool.or_eq_true, decide_eq_true_eq, not_or] at this
   simp only [nth, List.getD, List.getElem?_eq_getElem hi, Option.getD_some]
   omega
 · intro h x hx
   obtain ⟨j, hj, rfl⟩ := List.getElem_of_mem hx
   have := h j hj
   simp only [nth, List.getD, List.getElem?_eq_getElem hj, Option.getD_some] at this
   simp only [Bool.or_eq_true, decide_eq_true_eq, not_or]
   omega

end Go.Proofs.YtehbjhocgnfpmaaDoor
/- The walks of run's tokens: isCoef, token, tokens, Tokens. -/
namespace Go.Proofs.YtehbjhocgnfpmaaDoor
open Go.RowKit
set_option linter.unusedVariables false
theorem bl69_0_1_2 (m0 : Int) (m1 : Int) (m2 : Int) (w : World) : (Instr.build 69 #[(0, .int .i64 m0), (1, .int .i64 m1), (2, .int .i64 m2)]).run Tryd.prog w = .ok (.agg #[.int .i64 m0, .int .i64 m1, .int .i64 m2]) w := by kernel_rfl
theorem bl69_0 (m0 : Int) (w : World) : (Instr.build 69 #[(0, .int .i64 m0)]).run Tryd.prog w = .ok (.agg #[.int .i64 m0, .int .i64 0, .int .i64 0]) w := by kernel_rfl
def isC (n : Int) : Bool := decide (-2047 ≤ n) && decide (n ≤ 2047)
theorem isC_iff (n : Int) : isC n = true ↔ -2047 ≤ n ∧ n ≤ 2047 := by simp [isC]
theorem isCoef_any (n : Int) (w : World) : Calls Tryd.prog 72 #[.int .i64 n] w fun e w' => e = .returned (.bool (isC n)) ∧ w = w' := by
 go_enter Tryd.func72, Tryd.ntmps72
 repeat' (first
  | go_skip | ((first | (with_reducible refine mv9 ?_) | (with_reducible refine as9 ?_)); (first | go_big_want | go_step); go_step) | ((with_reducible refine gt9 _ (.pick _ _ _) ?_); first | (refine wplPickT rfl kr9 ?_; go_step) | (refine wplPickF rfl kr9 ?_; go_step)) | ((with_reducible refine gs9 4 ?_); (refine wplD _ (V.geq rfl rfl) kr9 (fun hB => ?_) (fun hB => ?_) <;> (try (have hF : False := (by omega); cases hF)) <;> go_step)) | ((with_reducible refine gt9 _ (.binOp .leq _ _ _ _) ?_); (refine wvv9 (V.leq rfl rfl) ?_; go_step)) | ((fail_if_success with_reducible refine ga9 ?_); go_step))
 all_goals (go_ret; exact ⟨ret_bool (by unfold isC; simp; omega), rfl⟩)
theorem or_tok (r k : Nat) (hr : r ≤ 15) (hk : k ≤ 12) : bits .or .i64 ((r : Int) * 2 ^ 4) (k : Int) = ((r * 16 + k : Nat) : Int) := by
 rw [show (r : Int) * 2 ^ 4 = ((r * 16 : Nat) : Int) by push_cast; omega, bits_or_i64_nat _ _ (by omega) (by omega)]
 congr 1
 rw [show r * 16 = 2 ^ 4 * r by omega]
 exact (Nat.two_pow_add_eq_or_of_lt (i := 4) (by omega) r).symm
set_option maxRecDepth 100000 in
set_option maxHeartbeats 1000000 in
theorem token_any (w0 : World) (r : Nat) (n : Int) (hr : r ≤ 15) (h0 : -4096 < n) (h1 : n < 4096) :
 Calls Tryd.prog 89 #[.int .i64 r, .int .i64 n] w0 fun e w => e = .returned (.agg #[.int .i64 (tok r n).1, .int .i64 (tok r n).2.1, .int .i64 (tok r n).2.2]) ∧ Ext w0 w := by
 have hs := sz_le n ⟨h0, h1⟩
 have HT := hid (show tok r n = (((r * 16 + sz n : Nat) : Int), (sz n : Int), sv n) from rfl)
 obtain ⟨k, hk⟩ : ∃ k, sz n = k := ⟨_, rfl⟩
 obtain ⟨v, hv⟩ : ∃ v, sv n = v := ⟨_, rfl⟩
 rw [hk, hv] at HT
 have HO := hid (or_tok r k hr (by omega))
 have HK := hid hk
 have HV := hid hv
 clear hk hv hs
 have hS := St.start w0
 go_enter Tryd.func89, Tryd.ntmps89
 repeat' (first
  | ((with_reducible refine gt9 _ (.call ⟨.value (.func 103), _, _⟩) ?_); refine wpl_call (f := 103) Tryd.call103 kr9 ?_; refine ⟨_, (sizeBits_any n _ h0 h1), ?_⟩; rintro e w' ⟨rfl, rfl⟩; rw [HK.out, HV.out]; refine ⟨_, rfl, ?_⟩; refine put_move ?_; go_step) | ((with_reducible refine gs9 17 ?_); (refine wplV (.int _ (((r * 16 + k : Nat) : Int))) (V.as (V.or rfl rfl) (by exact HO.out)) rfl ?_; go_step)) | (refine y91 ?_) | (refine y9105 ?_) | (refine y994 ?_) | (refine y941 ?_) | ((with_reducible refine gs9 4 ?_); (refine wl9 ?_; apply wp_alloc (o := ⟨some 4, _, _, _, _, _⟩) hS 69 rfl (.agg #[.int .i64 0, .int .i64 0, .int .i64 0]) [.int .i64 0, .int .i64 0, .int .i64 0] (fun w => Tryd.zeroValue69 w) rfl; clear hS; intro g4 w hS; refine put_move ?_; go_step)) | ((with_reducible refine gt9 _ (.store 69 _ _) ?_); (refine wl9 ?_; apply wp_storeG hS 69 _ _ rfl _ rfl 3 (row_of rfl) _ _; (case hp => exact pl9); (case hy => rfl); (case hn => rfl); (case hn' => rfl); (case hv => rfl); (case hd => exact rfl); clear hS; intro w hS)) | ((fail_if_success with_reducible refine ga9 ?_); go_step))
 refine ret_one rfl (OneRes.blk hS rfl (row_of (n := 3) rfl) pl9 rfl) rfl ?_
 exact ⟨(by rw [HT.out]; first | done | rfl), hS.1⟩
set_option maxRecDepth 100000 in
set_option maxHeartbeats 4000000 in
theorem tokens_any (w0 : World) (before : Int) (l : List Int) (hl : Len l 64) (hb : -2047 ≤ before ∧ before ≤ 2047) (hz : ∀ i, i < 64 → -2047 ≤ nth l i ∧ nth l i ≤ 2047) :
 Calls Tryd.prog 75 #[.int .i64 before, .agg (iv l)] w0 fun e w => ∃ ad c, e = .returned (.slice ad (toksOf before (zto l)).length c) ∧ St w0 w [own 69 3 ad (toksOf before (zto l)).length c ((flt (toksOf before (zto l))).map (Value.int .i64))] := by
 have hlz := zto_len l
 have hzz : ∀ i, i < 64 → -2047 ≤ nth (zto l) i ∧ nth (zto l) i ≤ 2047 := fun i hi => by rw [zto_get _ i hi]; exact hz _ (zn_lt i hi)
 obtain ⟨z, hze⟩ : ∃ z, zto l = z := ⟨_, rfl⟩
 have HZ := hid hze
 rw [hze] at hlz hzz ⊢
 have HZl : Len z 64 := hlz
 have HZZ := hid hzz
 have hz0 := hzz 0 (by omega)
 have hll : l.length = 64 := hl
 obtain ⟨all, hall⟩ : ∃ a, toksOf before z = a := ⟨_, rfl⟩
 rw [hall]
 have HAll := hid hall
 have hzl := hid hlz
 clear hze hlz hzz hall hz
 have hS := St.start w0
 go_enter Tryd.func75, Tryd.ntmps75
 repeat' (first
  | ((with_reducible refine gt9 _ (.call ⟨.value (.func 88), _, _⟩) ?_); refine wpl_call (f := 88) Tryd.call88 kr9 ?_; refine ⟨_, (zto_any _ l hll), ?_⟩; rintro e w ⟨rfl, hE⟩; rw [HZ.out]; replace hS := hS.ext hE; clear hE; refine ⟨_, rfl, ?_⟩; refine put_move ?_; go_step) | ((with_reducible refine gt9 _ (.call ⟨.value (.func 89), _, _⟩) ?_); refine wpl_call (f := 89) Tryd.call89 kr9 ?_; refine ⟨_, (token_any _ 0 (nth z 0 - before) (by omega) (by omega) (by omega)), ?_⟩; rintro e w ⟨rfl, hE⟩; replace hS := hS.ext hE; clear hE; refine ⟨_, rfl, ?_⟩; refine put_move ?_; go_step) | ((with_reducible refine gs9 16 ?_); (refine wl9 ?_; apply wp_buildSliceO (o := ⟨some 16, _, _, _, _, _⟩) hS 100 1 _ rfl 69 3 24 el100 _ _; (case hvs => (repeat (first | exact Parts.nil | (apply Parts.agg; (rfl); (rfl)) | (apply Parts.one; exact isv9; (rfl); (rfl))))); (case hn => rfl); (case hn0 => decide); (case hns => decide); clear hS; intro g16 w hS; simp only [List.cons_append, List.nil_append] at hS; refine put_move ?_; go_step)) | (refine y91 ?_) | ((with_reducible refine gs9 11 ?_); (refine wvv9 (V.indexAr Tryd.underlying52 isz3 rfl rfl (show IsN 0 0 from rfl) (by omega) (show 0 * 1 = 0 from rfl) nq9) ?_; go_step)) | (refine y995 ?_) | (refine y9143 ?_) | (refine y9100 ?_) | ((with_reducible refine gs9 3 ?_); (refine wl9 ?_; apply wp_boxA (o := ⟨some 3, _, _, _, _, _⟩) hS 52 _ rfl _ 64 rfl; (case hn => assumption); clear hS; intro g3 w hS; refine put_move ?_; go_step)) | (refine y9129 ?_) | ((with_reducible refine gt9 _ (.store 52 _ _) ?_); (refine wl9 ?_; apply wp_storeA hS 52 _ _ rfl _ rfl 64 (row_of rfl) _ _; (case hp => exact pl9); (case hy => rfl); (case hm => (repeat (first | assumption | exact Len.rep | apply Len.set | ((with_reducible show Len (_ :: _) _); exact rfl)))); (case hd => exact rfl); clear hS; intro w hS)) | (refine y9122 ?_) | ((fail_if_success with_reducible refine ga9 ?_); go_step))
 rw [show 0 + 1 * 1 = 1 from rfl, show 64 - 1 = 63 from rfl]
 replace hS : St w0 w [own 69 3 (some ⟨g16, 0, none⟩) 1 1 ((flt [tok 0 (nth z 0 - before)]).map (Value.int .i64)), arr g3 64 z] := hS
 go_loopg [5, 6, 19] 63 (fun gk ov rv kv w => ∃ (k r m : Nat) (o : List Tok) (a' : Option Addr) (c' : Nat), gk + k = 63 ∧ kv = .int .i64 k ∧ rv = .int .i64 r ∧ ov = .slice a' m c' ∧ m + r ≤ k + 1 ∧ Hid (o.length = m) ∧ Hid (all = o ++ tks r (z.drop (k + 1))) ∧ St w0 w [own 69 3 a' m c' ((flt o).map (Value.int .i64)), arr g3 64 z])
 case atStart => exact ⟨0, 0, 1, [tok 0 (nth z 0 - before)], _, _, rfl, rfl, rfl, rfl, by omega, hid rfl, hid (by rw [← HAll.out]; rfl), hS⟩
 case round =>
  clear hS
  obtain ⟨k, r, m, o, a', c', hk, rfl, rfl, rfl, hmr, HO, HA, hS⟩ := hrel
  by_cases hlt : k < 63
  · have hdrop : z.drop (k + 1) = nth z (k + 1) :: z.drop (k + 2) := by
     rw [List.drop_eq_getElem_cons (by rw [hzl.out]; omega)]
     simp [nth, List.getD, hzl.out, show k + 1 < 64 by omega]
    have hn := HZZ.out (k + 1) (by omega)
    have ha := HA.out
    rw [hdrop, tks] at ha
    obtain ⟨n, hne⟩ : ∃ n, nth z (k + 1) = n := ⟨_, rfl⟩
    rw [hne] at ha hn
    have HN : Hid (nth z (1 + k) = n) := hid (by rw [← hne]; congr 1; omega)
    clear hdrop hne HA
    by_cases h0 : n = 0
    · subst h0
      rw [if_pos rfl] at ha
      have HA2 := hid ha
      clear ha
      repeat' (first
       | (refine y947 ?_) | (refine y91 ?_) | (refine y990 ?_) | (refine y944 ?_) | (refine y986 ?_) | (refine y985 ?_) | ((fail_if_success with_reducible refine ga9 ?_); go_step))
      go_roundg (gk - 1)
      case measure => omega
      case rel => exact ⟨k + 1, r + 1, m, o, a', c', by omega, by go_num, by go_num, rfl, by omega, HO, HA2, hS⟩
    · rw [if_neg h0] at ha
      have HA2 := hid ha
      clear ha
      repeat' (first
       | (refine y947 ?_) | (refine y91 ?_) | (refine y990 ?_) | (refine y944 ?_) | (refine y986 ?_) | ((fail_if_success with_reducible refine ga9 ?_); go_step))
      obtain ⟨gk1, hgk1⟩ : ∃ x, x = gk := ⟨_, rfl⟩
      subst hgk1
      go_loopg [5, 6] r (fun gk ov rv w => ∃ (m : Nat) (o : List Tok) (a' : Option Addr) (c' : Nat), rv = .int .i64 gk ∧ ov = .slice a' m c' ∧ m + gk ≤ k + 1 ∧ Hid (o.length = m) ∧ Hid (all = o ++ (List.replicate (gk / 16) longT ++ (tok (gk % 16) n :: tks 0 (z.drop (k + 2))))) ∧ St w0 w [own 69 3 a' m c' ((flt o).map (Value.int .i64)), arr g3 64 z])
      case atStart => exact ⟨m, o, a', c', rfl, rfl, hmr, HO, HA2, hS⟩
      case round =>
       clear hS HO HA2
       obtain ⟨m, o, a', c', rfl, rfl, hmr, HO, HA2, hS⟩ := hrel
       by_cases hbig : 15 < gk
       · have HA3 : Hid (all = (o ++ [longT]) ++ (List.replicate ((gk - 16) / 16) longT ++ (tok ((gk - 16) % 16) n :: tks 0 (z.drop (k + 2))))) := hid (by
          rw [HA2.out, show gk / 16 = (gk - 16) / 16 + 1 by omega, show gk % 16 = (gk - 16) % 16 by omega, List.replicate_succ]; simp)
         have HF := hid (show flt (o ++ [longT]) = flt o ++ [240, 0, 0] from flt_snoc o longT)
         clear HA2
         repeat' (first
          | (refine y91 ?_) | (refine y988 ?_) | (refine y995 ?_) | ((with_reducible refine gs9 32 ?_); (refine wvv9 (V.build (vs := [(0, _)]) rfl (bl69_0 _)) ?_; go_step)) | ((with_reducible refine gs9 33 ?_); (refine wl9 ?_; apply wp_buildSlice1 (o := ⟨some 33, _, _, _, _, _⟩) hS 100 1 _ rfl 69 3 24 el100 _ _; (case hvs => (repeat (first | exact Parts.nil | (apply Parts.agg; (rfl); (rfl)) | (apply Parts.one; exact isv9; (rfl); (rfl))))); (case hn => rfl); (case hn0 => decide); (case hns => decide); clear hS; intro g33 w hS; simp only [List.cons_append, List.nil_append] at hS; refine put_move ?_; go_step)) | ((with_reducible refine gs9 34 ?_); (refine wl9 ?_; apply wp_append (o := ⟨some 34, _, _, _, _, _⟩) hS _ _ 100 rfl 69 3 24 el100 _ _ _ _ rfl; (case hp => exact pl9); (case hx => exact rfl); (case hm => (first | exact hS.slBlk pl9 (by rfl) (by decide) | exact hS.sl pl9 | with_reducible assumption | exact Sl.ext (by with_reducible assumption) hS.1 | exact Sl.nil _ _ | exact Sl.ext (by assumption) hS.1 | assumption)); (case h1 => (first | exact oneAll rfl | exact oneMap _ _ | (intro u hu; cases hu))); (case h63 => unfold maxLen; omega); (case hb => omega); clear hS; intro ad34 c34 w hS; (first | simp only [mapk1] at hS | simp only [mapk2] at hS | simp only [mapk3] at hS | simp only [mapk4] at hS | simp only [mapkl] at hS | skip); refine put_move ?_; go_step)) | ((fail_if_success with_reducible refine ga9 ?_); go_step))
         go_roundg (gk - 16)
         case measure => omega
         case rel => exact ⟨m + 1, o ++ [longT], ad34, c34, by go_num, rfl, by omega, hid (by rw [List.length_append, HO.out]; rfl), HA3, (by rw [HF.out]; exact hS.sub sb9)⟩
       · have HA3 : Hid (all = (o ++ [tok gk n]) ++ tks 0 (z.drop (k + 2))) := hid (by
          rw [HA2.out, show gk / 16 = 0 by omega, show gk % 16 = gk by omega]; simp)
         have HF := hid (flt_snoc o (tok gk n))
         clear HA2
         repeat' (first
          | ((with_reducible refine gt9 _ (.call ⟨.value (.func 89), _, _⟩) ?_); refine wpl_call (f := 89) Tryd.call89 kr9 ?_; refine ⟨_, (token_any _ gk n (by omega) (by omega) (by omega)), ?_⟩; rintro e w ⟨rfl, hE⟩; replace hS := hS.ext hE; clear hE; refine ⟨_, rfl, ?_⟩; refine put_move ?_; go_step) | (refine y91 ?_) | (refine y988 ?_) | (refine y985 ?_) | ((with_reducible refine gs9 39 ?_); (refine wl9 ?_; apply wp_buildSlice1 (o := ⟨some 39, _, _, _, _, _⟩) hS 100 1 _ rfl 69 3 24 el100 _ _; (case hvs => (repeat (first | exact Parts.nil | (apply Parts.agg; (rfl); (rfl)) | (apply Parts.one; exact isv9; (rfl); (rfl))))); (case hn => rfl); (case hn0 => decide); (case hns => decide); clear hS; intro g39 w hS; simp only [List.cons_append, List.nil_append] at hS; refine put_move ?_; go_step)) | ((with_reducible refine gs9 40 ?_); (refine wl9 ?_; apply wp_append (o := ⟨some 40, _, _, _, _, _⟩) hS _ _ 100 rfl 69 3 24 el100 _ _ _ _ rfl; (case hp => exact pl9); (case hx => exact rfl); (case hm => (first | exact hS.slBlk pl9 (by rfl) (by decide) | exact hS.sl pl9 | with_reducible assumption | exact Sl.ext (by with_reducible assumption) hS.1 | exact Sl.nil _ _ | exact Sl.ext (by assumption) hS.1 | assumption)); (case h1 => (first | exact oneAll rfl | exact oneMap _ _ | (intro u hu; cases hu))); (case h63 => unfold maxLen; omega); (case hb => omega); clear hS; intro ad40 c40 w hS; (first | simp only [mapk1] at hS | simp only [mapk2] at hS | simp only [mapk3] at hS | simp only [mapk4] at hS | simp only [mapkl] at hS | skip); refine put_move ?_; go_step)) | ((fail_if_success with_reducible refine ga9 ?_); go_step))
         go_roundg (gk1 - 1)
         case measure => omega
         case rel => exact ⟨k + 1, 0, m + 1, o ++ [tok gk n], ad40, c40, by omega, by go_num, rfl, rfl, by omega, hid (by rw [List.length_append, HO.out]; rfl), HA3, (by rw [HF.out]; exact hS.sub sb9)⟩
  · obtain rfl : k = 63 := by omega
    have ha := HA.out
    rw [show z.drop (63 + 1) = [] by rw [List.drop_eq_nil_iff, hzl.out]; omega, tks] at ha
    by_cases h0 : 0 < r
    · rw [if_pos h0] at ha
      have HL := hid (show all.length = m + 1 by rw [ha, List.length_append, HO.out]; rfl)
      have HF := hid (show flt all = flt o ++ [0, 0, 0] by rw [ha, flt_app]; rfl)
      clear ha HA
      repeat' (first
       | (refine y91 ?_) | (refine y990 ?_) | (refine y988 ?_) | ((with_reducible refine gs9 45 ?_); (refine wvv9 (V.build (vs := [(0, _)]) rfl (bl69_0 _)) ?_; go_step)) | ((with_reducible refine gs9 46 ?_); (refine wl9 ?_; apply wp_buildSlice1 (o := ⟨some 46, _, _, _, _, _⟩) hS 100 1 _ rfl 69 3 24 el100 _ _; (case hvs => (repeat (first | exact Parts.nil | (apply Parts.agg; (rfl); (rfl)) | (apply Parts.one; exact isv9; (rfl); (rfl))))); (case hn => rfl); (case hn0 => decide); (case hns => decide); clear hS; intro g46 w hS; simp only [List.cons_append, List.nil_append] at hS; refine put_move ?_; go_step)) | ((with_reducible refine gs9 47 ?_); (refine wl9 ?_; apply wp_append (o := ⟨some 47, _, _, _, _, _⟩) hS _ _ 100 rfl 69 3 24 el100 _ _ _ _ rfl; (case hp => exact pl9); (case hx => exact rfl); (case hm => (first | exact hS.slBlk pl9 (by rfl) (by decide) | exact hS.sl pl9 | with_reducible assumption | exact Sl.ext (by with_reducible assumption) hS.1 | exact Sl.nil _ _ | exact Sl.ext (by assumption) hS.1 | assumption)); (case h1 => (first | exact oneAll rfl | exact oneMap _ _ | (intro u hu; cases hu))); (case h63 => unfold maxLen; omega); (case hb => omega); clear hS; intro ad47 c47 w hS; (first | simp only [mapk1] at hS | simp only [mapk2] at hS | simp only [mapk3] at hS | simp only [mapk4] at hS | simp only [mapkl] at hS | skip); refine put_move ?_; go_step)) | ((fail_if_success with_reducible refine ga9 ?_); go_step))
      go_ret
      refine ⟨ad47, c47, (by rw [HL.out]; first | done | rfl), ?_⟩
      rw [HL.out, HF.out]
      exact hS.sub sb9
    · rw [if_neg h0, List.append_nil] at ha
      have HL := hid (show all.length = m by rw [ha, HO.out])
      have HF := hid (show flt all = flt o by rw [ha])
      clear ha HA
      repeat' (first
       | (refine y91 ?_) | (refine y990 ?_) | (refine y988 ?_) | ((fail_if_success with_reducible refine ga9 ?_); go_step))
      go_ret
      refine ⟨a', c', (by rw [HL.out]; first | done | rfl), ?_⟩
      rw [HL.out, HF.out]
      exact hS.sub sb9
def blkIn (l : List Int) : Bool := allIn l (-2047) 2047
def tokE (before : Int) (l : List Int) : Int := if isC before = true ∧ blkIn l = true then 0 else 1
def tokL (before : Int) (l : List Int) : List Tok := if tokE before l = 0 then toksOf before (zto l) else []
theorem tokE_ok {before : Int} {l : List Int} (hl : l.length = 64) (h : tokE before l = 0) : (-2047 ≤ before ∧ before ≤ 2047) ∧ ∀ i, i < 64 → -2047 ≤ nth l i ∧ nth l i ≤ 2047 := by
 unfold tokE at h
 split at h
 · rename_i h1
   exact ⟨(isC_iff _).1 h1.1, fun i hi => (allIn_iff l (-2047) 2047).1 h1.2 i (by omega)⟩
 · cases h
theorem tokE_of {before : Int} {l : List Int} (hl : l.length = 64) (h : -2047 ≤ before ∧ before ≤ 2047) (h2 : ∀ i, i < 64 → -2047 ≤ nth l i ∧ nth l i ≤ 2047) : tokE before l = 0 := by
 unfold tokE
 rw [if_pos ⟨(isC_iff _).2 h, (allIn_iff l (-2047) 2047).2 fun i hi => h2 i (by omega)⟩]
theorem notCoef_any (n : Int) (w : World) : Calls Tryd.prog 77 #[.int .i64 n] w fun e w' => e = .returned (.bool (decide (n < -2047) || decide (2047 < n))) ∧ w = w' := by
 go_enter Tryd.func77, Tryd.ntmps77
 repeat' (first
  | ((with_reducible refine gt9 _ (.call ⟨.value (.func 72), _, _⟩) ?_); refine wpl_call (f := 72) Tryd.call72 kr9 ?_; refine ⟨_, (isCoef_any n _), ?_⟩; rintro e w' ⟨rfl, rfl⟩; refine ⟨_, rfl, ?_⟩; refine put_move ?_; go_step) | (refine y91 ?_) | (refine y9145 ?_) | ((fail_if_success with_reducible refine ga9 ?_); go_step))
 all_goals (go_ret; exact ⟨ret_bool (by rw [Bool.eq_iff_iff]; unfold isC; simp <;> omega), rfl⟩)
set_option maxRecDepth 100000 in
set_option maxHeartbeats 4000000 in
theorem tokensOf_any (w0 : World) (before : Int) (l : List Int) (hl : Len l 64) :
 Calls Tryd.prog 57 #[.int .i64 before, .agg (iv l)] w0 fun e w => ∃ ad c, e = .returned (.tuple #[.slice ad (tokL before l).length c, .int .i64 (tokE before l)]) ∧ St w0 w [own 69 3 ad (tokL before l).length c ((flt (tokL before l)).map (Value.int .i64))] := by
 have hll : l.length = 64 := hl
 have hS := St.start w0
 have hk := Tryd.call77
 obtain ⟨b1, hb1⟩ : ∃ b, isC before = b := ⟨_, rfl⟩
 obtain ⟨b2, hb2⟩ : ∃ b, blkIn l = b := ⟨_, rfl⟩
 have hnot : (l.any fun n => decide (n < -2047) || decide (2047 < n)) = !b2 := by rw [← hb2, blkIn, allIn, Bool.not_not]
 have HB1 := hid hb1
 have HN := hid hnot
 by_cases hbad : b1 = true ∧ b2 = true
 case neg =>
  have HE := hid (show tokE before l = 1 by unfold tokE; rw [if_neg (by rw [hb1, hb2]; exact hbad)])
  have HL := hid (show tokL before l = [] by unfold tokL; rw [if_neg (by rw [HE.out]; decide)])
  clear hb1 hb2 hnot
  cases b1
  case false =>
   clear hbad HN
   go_enter Tryd.func57, Tryd.ntmps57
   repeat' (first
    | ((with_reducible refine gt9 _ (.call ⟨.value (.func 72), _, _⟩) ?_); refine wpl_call (f := 72) Tryd.call72 kr9 ?_; refine ⟨_, (isCoef_any before _), ?_⟩; rintro e w' ⟨rfl, rfl⟩; rw [HB1.out]; refine ⟨_, rfl, ?_⟩; refine put_move ?_; go_step) | go_skip | (refine y91 ?_) | (refine y9140 ?_) | ((with_reducible refine gs9 8 ?_); (refine wplB _ (V.not rfl) kr9 (fun hB => ?_) (fun hB => ?_) <;> (try (have hF : False := (absurd hB (by decide)); cases hF)) <;> go_step)) | ((with_reducible refine gs9 3 ?_); (refine wl9 ?_; apply wp_boxA (o := ⟨some 3, _, _, _, _, _⟩) hS 52 _ rfl _ 64 rfl; (case hn => assumption); clear hS; intro g3 w hS; refine put_move ?_; go_step)) | ((fail_if_success with_reducible refine ga9 ?_); go_step))
   refine ret_all (xs := [_, _]) rfl (.cons (OneRes.tmp rfl) (.cons (OneRes.tmp rfl) (.nil))) (by simp) rfl ?_
   refine ⟨none, 0, (by rw [HE.out, HL.out]; first | done | rfl), ?_⟩
   rw [HL.out]
   exact (St.of_ext hS.1).nil _ _
  case true =>
   have hb2 : b2 = false := by cases b2 <;> simp_all
   subst hb2
   clear hbad
   go_enter Tryd.func57, Tryd.ntmps57
   repeat' (first
    | ((with_reducible refine gt9 _ (.call ⟨.value (.func 72), _, _⟩) ?_); refine wpl_call (f := 72) Tryd.call72 kr9 ?_; refine ⟨_, (isCoef_any before _), ?_⟩; rintro e w' ⟨rfl, rfl⟩; rw [HB1.out]; refine ⟨_, rfl, ?_⟩; refine put_move ?_; go_step) | ((with_reducible refine gt9 _ (.call ⟨.value (.func 62), _, _⟩) ?_); refine wpl_call (f := 62) Tryd.call62 kr9 ?_; refine ⟨_, (containsFunc_any _ _ l (hS.isl pl9 (by decide)) 77 #[] (fun n => decide (n < -2047) || decide (2047 < n)) hk (fun n => notCoef_any n _)), ?_⟩; rintro e w' ⟨rfl, rfl⟩; rw [HN.out]; refine ⟨_, rfl, ?_⟩; refine put_move ?_; go_step) | (refine y91 ?_) | (refine y9139 ?_) | ((with_reducible refine gs9 8 ?_); (refine wplB _ (V.not rfl) kr9 (fun hB => ?_) (fun hB => ?_) <;> (try (have hF : False := (absurd hB (by decide)); cases hF)) <;> go_step)) | (refine y9143 ?_) | ((with_reducible refine gs9 3 ?_); (refine wl9 ?_; apply wp_boxA (o := ⟨some 3, _, _, _, _, _⟩) hS 52 _ rfl _ 64 rfl; (case hn => assumption); clear hS; intro g3 w hS; refine put_move ?_; go_step)) | ((fail_if_success with_reducible refine ga9 ?_); go_step))
   refine ret_all (xs := [_, _]) rfl (.cons (OneRes.tmp rfl) (.cons (OneRes.tmp rfl) (.nil))) (by simp) rfl ?_
   refine ⟨none, 0, (by rw [HE.out, HL.out]; first | done | rfl), ?_⟩
   rw [HL.out]
   exact (St.of_ext hS.1).nil _ _
 · obtain ⟨rfl, rfl⟩ := hbad
   have HE := hid (show tokE before l = 0 by unfold tokE; rw [if_pos ⟨hb1, hb2⟩])
   have HL := hid (show tokL before l = toksOf before (zto l) by unfold tokL; rw [if_pos HE.out])
   obtain ⟨q1, q2⟩ := tokE_ok hll HE.out
   have Q2 := hid q2
   clear hb1 hb2 hnot q2
   go_enter Tryd.func57, Tryd.ntmps57
   repeat' (first
    | ((with_reducible refine gt9 _ (.call ⟨.value (.func 72), _, _⟩) ?_); refine wpl_call (f := 72) Tryd.call72 kr9 ?_; refine ⟨_, (isCoef_any before _), ?_⟩; rintro e w' ⟨rfl, rfl⟩; rw [HB1.out]; refine ⟨_, rfl, ?_⟩; refine put_move ?_; go_step) | ((with_reducible refine gt9 _ (.call ⟨.value (.func 62), _, _⟩) ?_); refine wpl_call (f := 62) Tryd.call62 kr9 ?_; refine ⟨_, (containsFunc_any _ _ l (hS.isl pl9 (by decide)) 77 #[] (fun n => decide (n < -2047) || decide (2047 < n)) hk (fun n => notCoef_any n _)), ?_⟩; rintro e w' ⟨rfl, rfl⟩; rw [HN.out]; refine ⟨_, rfl, ?_⟩; refine put_move ?_; go_step) | ((with_reducible refine gt9 _ (.call ⟨.value (.func 75), _, _⟩) ?_); refine wpl_call (f := 75) Tryd.call75 kr9 ?_; refine ⟨_, (tokens_any _ before l hl q1 Q2.out), ?_⟩; rintro e w ⟨ad2, c2, rfl, hS2⟩; replace hS := hS.call1 hS2; clear hS2; refine ⟨_, rfl, ?_⟩; refine put_move ?_; go_step) | (refine y91 ?_) | (refine y9139 ?_) | ((with_reducible refine gs9 8 ?_); (refine wplB _ (V.not rfl) kr9 (fun hB => ?_) (fun hB => ?_) <;> (try (have hF : False := (absurd hB (by decide)); cases hF)) <;> go_step)) | (refine y9143 ?_) | ((with_reducible refine gs9 3 ?_); (refine wl9 ?_; apply wp_boxA (o := ⟨some 3, _, _, _, _, _⟩) hS 52 _ rfl _ 64 rfl; (case hn => assumption); clear hS; intro g3 w hS; refine put_move ?_; go_step)) | (refine y9129 ?_) | ((fail_if_success with_reducible refine ga9 ?_); go_step))
   refine ret_all (xs := [_, _]) rfl (.cons (OneRes.tmp rfl) (.cons (OneRes.tmp rfl) (.nil))) (by simp) rfl ?_
   refine ⟨ad2, c2, (by rw [HE.out, HL.out]; first | done | rfl), ?_⟩
   rw [HL.out]
   exact hS.sub sb9

theorem outside_any (n lo hi : Int) (w : World) : Calls Tryd.prog 78 #[.int .i64 n, .int .i64 lo, .int .i64 hi] w fun e w' => e = .returned (.bool (decide (n < lo) || decide (hi < n))) ∧ w = w' := by
 go_enter Tryd.func78, Tryd.ntmps78
 repeat' (first
  | go_skip | ((first | (with_reducible refine mv9 ?_) | (with_reducible refine as9 ?_)); (first | go_big_want | go_step); go_step) | ((with_reducible refine gt9 _ (.pick _ _ _) ?_); first | (refine wplPickT rfl kr9 ?_; go_step) | (refine wplPickF rfl kr9 ?_; go_step)) | ((with_reducible refine gs9 9 ?_); (refine wplD _ (V.lss rfl rfl) kr9 (fun hB => ?_) (fun hB => ?_) <;> (try (have hF : False := (by omega); cases hF)) <;> go_step)) | ((with_reducible refine gt9 _ (.binOp .gtr _ _ _ _) ?_); (refine wvv9 (V.gtr rfl rfl) ?_; go_step)) | ((fail_if_success with_reducible refine ga9 ?_); go_step))
 all_goals (go_ret; exact ⟨ret_bool (by rw [Bool.eq_iff_iff]; simp <;> omega), rfl⟩)
theorem power_any (k P : Nat) (w : World) (hk : k ≤ 40) (hP : 2 ^ k = P) : Calls Tryd.prog 111 #[.int .i64 k] w fun e w' => e = .returned (.int .i64 (P : Int)) ∧ w = w' := by
 have HP : Hid ((2 : Int) ^ k = ((P : Nat) : Int)) := hid (by rw [← hP]; push_cast; rfl)
 have h1 : P ≤ 1099511627776 := by rw [← hP]; exact Nat.pow_le_pow_right (n := 2) (j := 40) (by omega) hk
 clear hP
 go_enter Tryd.func111, Tryd.ntmps111
 repeat' (first
  | ((with_reducible refine gs9 4 ?_); (refine wplV (.int _ (((P : Nat) : Int))) (V.as (V.shl1 rfl rfl isn9 (by omega)) (by exact HP.out)) rfl ?_; go_step)) | (refine y91 ?_) | ((fail_if_success with_reducible refine ga9 ?_); go_step))
 go_ret
 exact ⟨rfl, rfl⟩
theorem blen_iff (n k : Nat) (h : k = 0 ∨ 2 ^ (k - 1) ≤ n) (h2 : n < 2 ^ k) : blen n = k := by
 have h3 := blen_spec n
 rcases h with rfl | h
 · have : n = 0 := by omega
   rw [this]; rfl
 · by_cases hk : k = 0
   · subst hk
     have : n = 0 := by omega
     rw [this]; rfl
   · have hn : 0 < n := by have := Nat.two_pow_pos (k - 1); omega
     have h4 := h3.2 hn
     have a1 : k - 1 < blen n := by
      have : 2 ^ (k - 1) < 2 ^ blen n := by omega
      exact (Nat.pow_lt_pow_iff_right (by omega)).1 this
     have a2 : blen n - 1 < k := by
      have : 2 ^ (blen n - 1) < 2 ^ k := by omega
      exact (Nat.pow_lt_pow_iff_right (by omega)).1 this
     omega
set_option maxRecDepth 100000 in
set_option maxHeartbeats 2000000 in
theorem refBits_any (n : Int) (w0 : World) (h0 : -4096 < n) (h1 : n < 4096) :
 Calls Tryd.prog 108 #[.int .i64 n] w0 fun e w => e = .returned (.tuple #[.int .i64 (sz n), .int .i64 (sv n), .int .i64 0]) ∧ w0 = w := by
 obtain ⟨m, hm⟩ : ∃ m : Nat, m = n.natAbs := ⟨_, rfl⟩
 have hmax : max n (-n) = (m : Int) := by omega
 have hm4 : m < 4096 := by omega
 have HM := hid hm
 have HMX := hid hmax
 have HV := hid (show sv n = if n < 0 then n + (2 ^ sz n - 1 : Nat) else n from rfl)
 have HB := hid (fun k h1 h2 => show sz n = k by unfold sz; rw [← hm]; exact blen_iff m k h1 h2)
 clear hm hmax
 obtain ⟨W, hW⟩ : ∃ W, W = w0 := ⟨_, rfl⟩
 subst hW
 go_enter Tryd.func108, Tryd.ntmps108
 repeat' (first
  | ((with_reducible refine gt9 _ (.call ⟨.value (.func 78), _, _⟩) ?_); refine wpl_call (f := 78) Tryd.call78 kr9 ?_; refine ⟨_, (outside_any n (-4095) 4095 _), ?_⟩; rintro e w' ⟨rfl, rfl⟩; refine ⟨_, rfl, ?_⟩; refine put_move ?_; go_step) | (refine y91 ?_) | ((fail_if_success with_reducible refine ga9 ?_); go_step))
 go_loopg [5] 13 (fun gk kv w => ∃ k : Nat, gk + k = 13 ∧ kv = .int .i64 k ∧ Hid (k = 0 ∨ 2 ^ (k - 1) ≤ m) ∧ w = W)
 case atStart => exact ⟨0, rfl, rfl, hid (.inl rfl), rfl⟩
 case round =>
  obtain ⟨k, hk, rfl, HKL, rfl⟩ := hrel
  have hk12 : k ≤ 12 := by
   by_cases h : k = 13
   · have := HKL.out; rw [h] at this; omega
   · omega
  obtain ⟨P, hP⟩ : ∃ P, 2 ^ k = P := ⟨_, rfl⟩
  have HP := hid hP
  have hP2 : P ≤ 4096 := by rw [← hP]; exact Nat.pow_le_pow_right (n := 2) (j := 12) (by omega) hk12
  have hP1 : 1 ≤ P := by rw [← hP]; exact Nat.two_pow_pos _
  clear hP
  have hmx : max n (-n) = (m : Int) := HMX.out
  by_cases hlt : P ≤ m
  · skip
    repeat' (first
     | ((with_reducible refine gs9 13 ?_); refine wpl_call (f := 111) Tryd.call111 kr9 ?_; refine ⟨_, (power_any k P _ (by omega) HP.out), ?_⟩; rintro e w' ⟨rfl, rfl⟩; refine ⟨_, rfl, ?_⟩; refine put_move ?_; go_step) | (refine y91 ?_) | (refine y9144 ?_) | (refine y9104 ?_) | (refine y987 ?_) | (refine y985 ?_) | ((fail_if_success with_reducible refine ga9 ?_); go_step))
    all_goals (try (have hF : False := (by omega); cases hF))
    go_roundg (gk - 1)
    case measure => omega
    case rel => exact ⟨k + 1, by omega, by go_num, hid (.inr (by rw [Nat.add_sub_cancel, HP.out]; exact hlt)), rfl⟩
  · have hz := HB.out k HKL.out (by rw [HP.out]; omega)
    have hv := HV.out
    rw [hz, HP.out] at hv
    have HZ := hid hz
    have HV2 := hid hv
    clear hz hv
    by_cases hn : n < 0
    · skip
      repeat' (first
       | ((with_reducible refine gs9 13 ?_); refine wpl_call (f := 111) Tryd.call111 kr9 ?_; refine ⟨_, (power_any k P _ (by omega) HP.out), ?_⟩; rintro e w' ⟨rfl, rfl⟩; refine ⟨_, rfl, ?_⟩; refine put_move ?_; go_step) | (refine y9146 ?_) | (refine y9144 ?_) | (refine y9104 ?_) | (refine y987 ?_) | ((fail_if_success with_reducible refine ga9 ?_); go_step))
      all_goals (try (have hF : False := (by omega); cases hF))
      repeat' (first
       | ((with_reducible refine gs9 22 ?_); refine wpl_call (f := 111) Tryd.call111 kr9 ?_; refine ⟨_, (power_any k P _ (by omega) HP.out), ?_⟩; rintro e w' ⟨rfl, rfl⟩; refine ⟨_, rfl, ?_⟩; refine put_move ?_; go_step) | (refine y91 ?_) | (refine y990 ?_) | (refine y985 ?_) | (refine y995 ?_) | ((fail_if_success with_reducible refine ga9 ?_); go_step))
      refine bodyPost_ret (results_tmp3 rfl _ _ _) rfl ?_
      refine ⟨?_, rfl⟩
      rw [HZ.out, HV2.out, if_pos hn, show n + ((P - 1 : Nat) : Int) = n + (P : Int) - 1 by omega]
      rfl
    · skip
      repeat' (first
       | ((with_reducible refine gs9 13 ?_); refine wpl_call (f := 111) Tryd.call111 kr9 ?_; refine ⟨_, (power_any k P _ (by omega) HP.out), ?_⟩; rintro e w' ⟨rfl, rfl⟩; refine ⟨_, rfl, ?_⟩; refine put_move ?_; go_step) | (refine y9146 ?_) | (refine y9144 ?_) | (refine y9104 ?_) | (refine y987 ?_) | ((fail_if_success with_reducible refine ga9 ?_); go_step))
      all_goals (try (have hF : False := (by omega); cases hF))
      repeat' (first
       | (refine y91 ?_) | (refine y990 ?_) | ((fail_if_success with_reducible refine ga9 ?_); go_step))
      refine bodyPost_ret (results_tmp3 rfl _ _ _) rfl ?_
      refine ⟨?_, rfl⟩
      rw [HZ.out, HV2.out, if_neg hn]
      rfl
set_option maxRecDepth 100000 in
set_option maxHeartbeats 1000000 in
theorem refToken_any (w0 : World) (r : Nat) (n : Int) (hr : r ≤ 15) (h0 : -4096 < n) (h1 : n < 4096) :
 Calls Tryd.prog 99 #[.int .i64 r, .int .i64 n] w0 fun e w => e = .returned (.agg #[.int .i64 (tok r n).1, .int .i64 (tok r n).2.1, .int .i64 (tok r n).2.2]) ∧ Ext w0 w := by
 have hs := sz_le n ⟨h0, h1⟩
 have HT := hid (show tok r n = (((r * 16 + sz n : Nat) : Int), (sz n : Int), sv n) from rfl)
 obtain ⟨k, hk⟩ : ∃ k, sz n = k := ⟨_, rfl⟩
 obtain ⟨v, hv⟩ : ∃ v, sv n = v := ⟨_, rfl⟩
 rw [hk, hv] at HT
 have HK := hid hk
 have HV := hid hv
 rw [hk] at hs
 clear hk hv
 have hS := St.start w0
 go_enter Tryd.func99, Tryd.ntmps99
 repeat' (first
  | ((with_reducible refine gt9 _ (.call ⟨.value (.func 108), _, _⟩) ?_); refine wpl_call (f := 108) Tryd.call108 kr9 ?_; refine ⟨_, (refBits_any n _ h0 h1), ?_⟩; rintro e w' ⟨rfl, rfl⟩; rw [HK.out, HV.out]; refine ⟨_, rfl, ?_⟩; refine put_move ?_; go_step) | ((with_reducible refine gs9 17 ?_); (refine wplV (.int _ (((r * 16 + k : Nat) : Int))) (V.as (V.addI rfl rfl (by omega)) (by omega)) rfl ?_; go_step)) | (refine y91 ?_) | (refine y9105 ?_) | ((with_reducible refine gt9 _ (.binOp .mul _ _ _ _) ?_); (refine wvv9 (V.mulI rfl rfl (by omega)) ?_; go_step)) | (refine y941 ?_) | ((with_reducible refine gs9 4 ?_); (refine wl9 ?_; apply wp_alloc (o := ⟨some 4, _, _, _, _, _⟩) hS 69 rfl (.agg #[.int .i64 0, .int .i64 0, .int .i64 0]) [.int .i64 0, .int .i64 0, .int .i64 0] (fun w => Tryd.zeroValue69 w) rfl; clear hS; intro g4 w hS; refine put_move ?_; go_step)) | ((with_reducible refine gt9 _ (.store 69 _ _) ?_); (refine wl9 ?_; apply wp_storeG hS 69 _ _ rfl _ rfl 3 (row_of rfl) _ _; (case hp => exact pl9); (case hy => rfl); (case hn => rfl); (case hn' => rfl); (case hv => rfl); (case hd => exact rfl); clear hS; intro w hS)) | ((fail_if_success with_reducible refine ga9 ?_); go_step))
 refine ret_one rfl (OneRes.blk hS rfl (row_of (n := 3) rfl) pl9 rfl) rfl ?_
 exact ⟨(by rw [HT.out]; first | done | rfl), hS.1⟩

theorem outside_in (n lo hi : Int) (w : World) (h : lo ≤ n ∧ n ≤ hi) : Calls Tryd.prog 78 #[.int .i64 n, .int .i64 lo, .int .i64 hi] w fun e w' => e = .returned (.bool false) ∧ w = w' := by
 refine (outside_any n lo hi w).mono ?_
 rintro e w' ⟨rfl, rfl⟩
 exact ⟨ret_bool (by simp; omega), rfl⟩
theorem outside_out (n lo hi : Int) (w : World) (h : n < lo ∨ hi < n) : Calls Tryd.prog 78 #[.int .i64 n, .int .i64 lo, .int .i64 hi] w fun e w' => e = .returned (.bool true) ∧ w = w' := by
 refine (outside_any n lo hi w).mono ?_
 rintro e w' ⟨rfl, rfl⟩
 exact ⟨ret_bool (by simp; omega), rfl⟩
def zcell (s i : Nat) : List Int := let a := if s % 2 = 0 then 7 - i else i
 if a ≤ s ∧ s ≤ a + 7 then [((8 * a + (s - a) : Nat) : Int)] else []
def zslant (s : Nat) : Nat → List Int
 | 0 => []
 | i + 1 => zslant s i ++ zcell s i
def zslants : Nat → List Int
 | 0 => []
 | s + 1 => zslants s ++ zslant s 8
theorem zslants_all : zslants 15 = zi := by decide +kernel
theorem zslants_len : ∀ s, s < 16 → (zslants s).length ≤ 64 := by decide +kernel
theorem zslant_len : ∀ s, s < 15 → ∀ i, i < 9 → (zslants s ++ zslant s i).length ≤ 64 := by decide +kernel
set_option maxRecDepth 100000 in
set_option maxHeartbeats 4000000 in
theorem refOrder_any (w0 : World) : Calls Tryd.prog 107 #[] w0 fun e w => ∃ ad c, e = .returned (.slice ad 64 c) ∧ St w0 w [own 3 1 ad 64 c (zi.map (Value.int .i64))] := by
 have hS := St.start w0
 have HZL := hid zslant_len
 have HZL2 := hid zslants_len
 go_enter Tryd.func107, Tryd.ntmps107
 repeat' (first
  | (refine y91 ?_) | ((fail_if_success with_reducible refine ga9 ?_); go_step))
 replace hS := hS.nilk 3 1 .i64
 go_loopg [1, 6] 15 (fun gk ov kv w => ∃ (s m : Nat) (ad : Option Addr) (c : Nat), gk + s = 15 ∧ kv = .int .i64 s ∧ ov = .slice ad m c ∧ Hid ((zslants s).length = m) ∧ St w0 w [own 3 1 ad m c ((zslants s).map (Value.int .i64))])
 case atStart => exact ⟨0, 0, none, 0, rfl, rfl, rfl, hid rfl, hS⟩
 case round =>
  clear hS
  obtain ⟨s, m, ad, c, hs, rfl, rfl, HM, hS⟩ := hrel
  by_cases hlt : s < 15
  · skip
    repeat' (first
     | (refine y91 ?_) | (refine y990 ?_) | ((fail_if_success with_reducible refine ga9 ?_); go_step))
    obtain ⟨gk1, hgk1⟩ : ∃ x, x = gk := ⟨_, rfl⟩
    subst hgk1
    go_loopg [1, 9] 8 (fun gk ov kv w => ∃ (i m : Nat) (ad : Option Addr) (c : Nat), gk + i = 8 ∧ kv = .int .i64 i ∧ ov = .slice ad m c ∧ Hid ((zslants s ++ zslant s i).length = m) ∧ St w0 w [own 3 1 ad m c ((zslants s ++ zslant s i).map (Value.int .i64))])
    case atStart => exact ⟨0, m, ad, c, rfl, rfl, rfl, hid (by rw [show zslant s 0 = [] from rfl, List.append_nil]; exact HM.out), by rw [show zslant s 0 = [] from rfl, List.append_nil]; exact hS⟩
    case round =>
     clear hS
     obtain ⟨i, m2, ad2, c2, hi, rfl, rfl, HM2, hS⟩ := hrel
     by_cases hlt2 : i < 8
     · have hm64 : m2 ≤ 64 := by rw [← HM2.out]; exact HZL.out s hlt i (by omega)
       have HSt := hid (show zslants s ++ zslant s (i + 1) = zslants s ++ zslant s i ++ zcell s i by rw [zslant, List.append_assoc])
       obtain ⟨a, ha⟩ : ∃ a, (if s % 2 = 0 then 7 - i else i) = a := ⟨_, rfl⟩
       have hzc : zcell s i = if a ≤ s ∧ s ≤ a + 7 then [((8 * a + (s - a) : Nat) : Int)] else [] := by unfold zcell; rw [ha]
       obtain ⟨L, hL⟩ : ∃ L, zslants s ++ zslant s i = L := ⟨_, rfl⟩
       rw [hL] at HM2 hS HSt
       clear hL
       have h8 : (s % 2 = 0 ∧ a = 7 - i) ∨ (s % 2 = 1 ∧ a = i) := by
        by_cases h : s % 2 = 0
        · rw [if_pos h] at ha; exact .inl ⟨h, ha.symm⟩
        · rw [if_neg h] at ha; exact .inr ⟨by omega, ha.symm⟩
       clear ha
       by_cases hin : a ≤ s ∧ s ≤ a + 7
       · rw [if_pos hin] at hzc
         rw [hzc] at HSt
         clear hzc
         rcases h8 with h8 | h8
         all_goals
          repeat' (first
           | ((with_reducible refine gt9 _ (.call ⟨.value (.func 78), _, _⟩) ?_); refine wpl_call (f := 78) Tryd.call78 kr9 ?_; refine ⟨_, (outside_in _ _ _ _ (by omega)), ?_⟩; rintro e w' ⟨rfl, rfl⟩; refine ⟨_, rfl, ?_⟩; refine put_move ?_; go_step) | ((with_reducible refine gs9 17 ?_); (refine wplV (.int _ (((a : Nat) : Int))) (V.as (V.subI rfl rfl (by omega)) (by omega)) rfl ?_; go_step)) | ((with_reducible refine gs9 20 ?_); (refine wplV (.int _ (((s - a : Nat) : Int))) (V.as (V.subI rfl rfl (by omega)) (by omega)) rfl ?_; go_step)) | ((with_reducible refine gs9 28 ?_); (refine wplV (.int _ (((8 * a + (s - a) : Nat) : Int))) (V.as (V.addI rfl rfl (by omega)) (by omega)) rfl ?_; go_step)) | (refine y91 ?_) | (refine y990 ?_) | (refine y993 ?_) | (refine y986 ?_) | (refine y9145 ?_) | ((with_reducible refine gt9 _ (.binOp .mul _ _ _ _) ?_); (refine wvv9 (V.mulI rfl rfl (by omega)) ?_; go_step)) | (refine y985 ?_) | ((with_reducible refine gs9 29 ?_); (refine wl9 ?_; apply wp_buildSlice1 (o := ⟨some 29, _, _, _, _, _⟩) hS 24 1 _ rfl 3 1 8 el24 _ _; (case hvs => (repeat (first | exact Parts.nil | (apply Parts.agg; (rfl); (rfl)) | (apply Parts.one; exact isv9; (rfl); (rfl))))); (case hn => rfl); (case hn0 => decide); (case hns => decide); clear hS; intro g29 w hS; refine put_move ?_; go_step)) | ((with_reducible refine gs9 30 ?_); (refine wl9 ?_; apply wp_append (o := ⟨some 30, _, _, _, _, _⟩) hS _ _ 24 rfl 3 1 8 el24 _ _ _ _ rfl; (case hp => exact pl9); (case hx => exact rfl); (case hm => (first | exact hS.slBlk pl9 (by rfl) (by decide) | exact hS.sl pl9 | with_reducible assumption | exact Sl.ext (by with_reducible assumption) hS.1 | exact Sl.nil _ _ | exact Sl.ext (by assumption) hS.1 | assumption)); (case h1 => (first | exact oneAll rfl | exact oneMap _ _ | (intro u hu; cases hu))); (case h63 => unfold maxLen; omega); (case hb => omega); clear hS; intro ad30 c30 w hS; (first | simp only [mapk1] at hS | simp only [mapk2] at hS | simp only [mapk3] at hS | simp only [mapk4] at hS | simp only [mapkl] at hS | skip); refine put_move ?_; go_step)) | ((fail_if_success with_reducible refine ga9 ?_); go_step))
          all_goals (try (have hF : False := (by omega); cases hF))
          go_roundg (gk - 1)
          case measure => omega
          case rel => exact ⟨i + 1, m2 + 1, ad30, c30, by omega, by go_num, rfl, hid (by rw [HSt.out, List.length_append, HM2.out]; rfl), by rw [HSt.out]; exact hS.sub sb9⟩
       · rw [if_neg hin] at hzc
         rw [hzc, List.append_nil] at HSt
         clear hzc
         rcases h8 with h8 | h8
         all_goals
          repeat' (first
           | ((with_reducible refine gt9 _ (.call ⟨.value (.func 78), _, _⟩) ?_); refine wpl_call (f := 78) Tryd.call78 kr9 ?_; refine ⟨_, (outside_out _ _ _ _ (by omega)), ?_⟩; rintro e w' ⟨rfl, rfl⟩; refine ⟨_, rfl, ?_⟩; refine put_move ?_; go_step) | (refine y91 ?_) | (refine y990 ?_) | (refine y993 ?_) | (refine y986 ?_) | (refine y995 ?_) | (refine y9145 ?_) | (refine y985 ?_) | ((fail_if_success with_reducible refine ga9 ?_); go_step))
          all_goals (try (have hF : False := (by omega); cases hF))
          go_roundg (gk - 1)
          case measure => omega
          case rel => exact ⟨i + 1, m2, ad2, c2, by omega, by go_num, rfl, hid (by rw [HSt.out, HM2.out]), by rw [HSt.out]; exact hS⟩
     · obtain rfl : i = 8 := by omega
       repeat' (first
        | (refine y990 ?_) | ((fail_if_success with_reducible refine ga9 ?_); go_step))
       repeat' (first
        | (refine y9146 ?_) | (refine y985 ?_) | ((fail_if_success with_reducible refine ga9 ?_); go_step))
       go_roundg (gk1 - 1)
       case measure => omega
       case rel => exact ⟨s + 1, m2, ad2, c2, by omega, by go_num, rfl, HM2, hS⟩
  · obtain rfl : s = 15 := by omega
    rw [zslants_all] at HM hS
    obtain rfl : 64 = m := HM.out
    repeat' (first
     | (refine y91 ?_) | (refine y990 ?_) | ((fail_if_success with_reducible refine ga9 ?_); go_step))
    repeat' (first
     | ((fail_if_success with_reducible refine ga9 ?_); go_step))
    go_ret
    exact ⟨ad, c, rfl, hS.sub sb9⟩

theorem zi_nth (i : Nat) (h : i < 64) : nth zi i = (zn i : Int) := by
 have := zi_get i h
 rw [iv_get zi i (by rw [zi_len]; exact h)] at this
 simpa using this
set_option maxRecDepth 100000 in
set_option maxHeartbeats 4000000 in
theorem refTo_any (w0 : World) (l : List Int) (hl : Len l 64) : Calls Tryd.prog 98 #[.agg (iv l)] w0 fun e w => e = .returned (.agg (iv (zto l))) ∧ Ext w0 w := by
 have hS := St.start w0
 go_enter Tryd.func98, Tryd.ntmps98
 repeat' (first
  | ((with_reducible refine gt9 _ (.call ⟨.value (.func 107), _, _⟩) ?_); refine wpl_call (f := 107) Tryd.call107 kr9 ?_; refine ⟨_, (refOrder_any _), ?_⟩; rintro e w ⟨ad, c, rfl, hS2⟩; replace hS := hS.call1 hS2; clear hS2; refine ⟨_, rfl, ?_⟩; refine put_move ?_; go_step) | (refine y9146 ?_) | (refine y9100 ?_) | ((with_reducible refine gs9 1 ?_); (refine wl9 ?_; apply wp_boxA (o := ⟨some 1, _, _, _, _, _⟩) hS 52 _ rfl _ 64 rfl; (case hn => assumption); clear hS; intro g1 w hS; refine put_move ?_; go_step)) | ((with_reducible refine gs9 2 ?_); (refine wl9 ?_; apply wp_allocA (o := ⟨some 2, _, _, _, _, _⟩) hS 52 rfl (List.replicate 64 0) 64 List.length_replicate za52; clear hS; intro g2 w hS; refine put_move ?_; go_step)) | ((with_reducible refine gs9 3 ?_); (refine wl9 ?_; apply wp_allocA (o := ⟨some 3, _, _, _, _, _⟩) hS 52 rfl (List.replicate 64 0) 64 List.length_replicate za52; clear hS; intro g3 w hS; refine put_move ?_; go_step)) | ((fail_if_success with_reducible refine ga9 ?_); go_step))
 go_loopg [8] 64 (fun gk kv w => ∃ (k : Nat) (L : List Int), gk + k = 64 ∧ kv = .int .i64 k ∧ Len L 64 ∧ Hid (∀ j, j < k → nth L j = nth l (zn j)) ∧ St w0 w [own 3 1 ad 64 c (zi.map (Value.int .i64)), arr g3 64 L, arr g1 64 l, arr g2 64 (List.replicate 64 0)])
 case atStart => exact ⟨0, _, rfl, rfl, List.length_replicate, hid (fun j hj => by omega), hS.sub sb9⟩
 case round =>
  clear hS
  obtain ⟨k, L, hk, rfl, hLL, HL, hS⟩ := hrel
  by_cases hlt : k < 64
  · have hq := zn_lt k hlt
    have hz := zi_nth k hlt
    obtain ⟨q, hqe⟩ : ∃ q, zn k = q := ⟨_, rfl⟩
    rw [hqe] at hq hz
    have HQ := hid hqe
    have HZ := hid hz
    clear hqe hz
    obtain ⟨b2, rfl⟩ := own_some hS pl9 (by omega)
    repeat' (first
     | (refine y91 ?_) | (refine y990 ?_) | (refine y95 ?_) | (refine y9123 ?_) | ((fail_if_success with_reducible refine ga9 ?_); go_step))
    rw [HZ.out]
    repeat' (first
     | (refine y9146 ?_) | ((with_reducible refine gs9 15 ?_); (refine wvv9 (V.indexAr Tryd.underlying52 isz3 rfl rfl isn9 (by omega) (Nat.mul_one _) nq9) ?_; go_step)) | ((with_reducible refine gs9 17 ?_); (refine wvv9 (V.indexAr Tryd.underlying52 isz3 rfl rfl isn9 (by omega) (Nat.mul_one _) nq9) ?_; go_step)) | (refine y985 ?_) | (refine y9122 ?_) | ((with_reducible refine gt9 _ (.store 3 _ _) ?_); (refine wl9 ?_; apply wp_store1A hS 3 _ _ rfl _ _ rfl (one_of rfl) _ _; (case hp => exact pl9); (case hy => rfl); (case hi => omega); (case hd => exact rfl); clear hS; intro w hS)) | ((fail_if_success with_reducible refine ga9 ?_); go_step))
    go_roundg (gk - 1)
    case measure => omega
    case rel =>
     refine ⟨k + 1, L.set k (nth l q), by omega, by go_num, Len.set hLL, hid (fun j hj => ?_), hS.sub sb9⟩
     rw [nth_set _ _ _ _ (by rw [show L.length = 64 from hLL]; exact hlt)]
     by_cases hj2 : j = k
     · subst hj2; simp [HQ.out]
     · have := HL.out j (by omega)
       rw [if_neg (by omega)]; exact this
  · obtain rfl : k = 64 := by omega
    have hz : L = zto l := by
     refine List.ext_getElem (by rw [zto_len]; exact hLL) fun j h1 h2 => ?_
     have hj : j < 64 := by have : L.length = 64 := hLL; omega
     have h3 := HL.out j hj
     rw [← zto_get l j hj] at h3
     simp only [nth, List.getD, List.getElem?_eq_getElem h1, List.getElem?_eq_getElem h2, Option.getD_some] at h3
     exact h3
    have HZ := hid hz
    clear hz
    repeat' (first
     | (refine y990 ?_) | ((fail_if_success with_reducible refine ga9 ?_); go_step))
    repeat' (first
     | (refine y9129 ?_) | ((with_reducible refine gt9 _ (.store 52 _ _) ?_); (refine wl9 ?_; apply wp_storeA hS 52 _ _ rfl _ rfl 64 (row_of rfl) _ _; (case hp => exact pl9); (case hy => rfl); (case hm => (repeat (first | assumption | exact Len.rep | apply Len.set | ((with_reducible show Len (_ :: _) _); exact rfl)))); (case hd => exact rfl); clear hS; intro w hS)) | ((fail_if_success with_reducible refine ga9 ?_); go_step))
    refine ret_one rfl (OneRes.arr hS rfl (row_of (n := 64) rfl) pl9) rfl ?_
    exact ⟨by rw [← HZ.out], hS.1⟩
set_option maxRecDepth 100000 in
set_option maxHeartbeats 4000000 in
theorem rwithin_any (w0 : World) (l : List Int) (lo hi : Int) (hl : Len l 64) : Calls Tryd.prog 58 #[.agg (iv l), .int .i64 lo, .int .i64 hi] w0 fun e w => e = .returned (.bool (allIn l lo hi)) ∧ Ext w0 w := by
 have hS := St.start w0
 have HIff := hid (allIn_iff l lo hi)
 have HLl := hid (show l.length = 64 from hl)
 obtain ⟨B, hB⟩ : ∃ B, allIn l lo hi = B := ⟨_, rfl⟩
 rw [hB] at HIff ⊢
 clear hB
 go_enter Tryd.func58, Tryd.ntmps58
 repeat' (first
  | (refine y91 ?_) | ((with_reducible refine gs9 3 ?_); (refine wl9 ?_; apply wp_boxA (o := ⟨some 3, _, _, _, _, _⟩) hS 52 _ rfl _ 64 rfl; (case hn => assumption); clear hS; intro g3 w hS; refine put_move ?_; go_step)) | (refine y9129 ?_) | ((fail_if_success with_reducible refine ga9 ?_); go_step))
 go_loopg [10] 64 (fun gk kv w => ∃ (k : Nat), gk + k = 64 ∧ kv = .int .i64 k ∧ Hid (∀ j, j < k → lo ≤ nth l j ∧ nth l j ≤ hi) ∧ St w0 w [])
 case atStart => exact ⟨0, rfl, rfl, hid (fun j hj => by omega), hS.sub sb9⟩
 case round =>
  clear hS
  obtain ⟨k, hk, rfl, HL, hS⟩ := hrel
  by_cases hlt : k < 64
  · obtain ⟨x, hx⟩ : ∃ x, nth l k = x := ⟨_, rfl⟩
    have HX := hid hx
    clear hx
    by_cases hin : lo ≤ x ∧ x ≤ hi
    · skip
      repeat' (first
       | (refine y91 ?_) | (refine y990 ?_) | (refine y911 ?_) | ((fail_if_success with_reducible refine ga9 ?_); go_step))
      rw [HX.out]
      repeat' (first
       | ((with_reducible refine gt9 _ (.call ⟨.value (.func 78), _, _⟩) ?_); refine wpl_call (f := 78) Tryd.call78 kr9 ?_; refine ⟨_, (outside_in _ _ _ _ (by omega)), ?_⟩; rintro e w' ⟨rfl, rfl⟩; refine ⟨_, rfl, ?_⟩; refine put_move ?_; go_step) | (refine y9146 ?_) | (refine y985 ?_) | ((fail_if_success with_reducible refine ga9 ?_); go_step))
      go_roundg (gk - 1)
      case measure => omega
      case rel =>
       refine ⟨k + 1, by omega, by go_num, hid (fun j hj => ?_), hS⟩
       by_cases hj2 : j = k
       · subst hj2; rw [HX.out]; exact hin
       · exact HL.out j (by omega)
    · have HB : Hid (B = false) := hid (by
       cases B
       · rfl
       · have := HIff.out.1 rfl k (by rw [HLl.out]; exact hlt)
         rw [HX.out] at this
         exact absurd this hin)
      repeat' (first
       | (refine y91 ?_) | (refine y990 ?_) | (refine y911 ?_) | ((fail_if_success with_reducible refine ga9 ?_); go_step))
      rw [HX.out]
      repeat' (first
       | ((with_reducible refine gt9 _ (.call ⟨.value (.func 78), _, _⟩) ?_); refine wpl_call (f := 78) Tryd.call78 kr9 ?_; refine ⟨_, (outside_out _ _ _ _ (by omega)), ?_⟩; rintro e w' ⟨rfl, rfl⟩; refine ⟨_, rfl, ?_⟩; refine put_move ?_; go_step) | (refine y92 ?_) | ((fail_if_success with_reducible refine ga9 ?_); go_step))
      go_ret
      exact ⟨by rw [HB.out]; rfl, hS.1⟩
  · obtain rfl : k = 64 := by omega
    have HB : Hid (B = true) := hid (HIff.out.2 fun i hi => HL.out i (by rw [← HLl.out]; exact hi))
    repeat' (first
     | (refine y92 ?_) | (refine y990 ?_) | ((fail_if_success with_reducible refine ga9 ?_); go_step))
    repeat' (first
     | ((fail_if_success with_reducible refine ga9 ?_); go_step))
    go_ret
    exact ⟨by rw [HB.out]; rfl, hS.1⟩

end Go.Proofs.YtehbjhocgnfpmaaDoor
/- The walk of the reference's Tokens: it gives what run.Tokens gives. -/
namespace Go.Proofs.YtehbjhocgnfpmaaDoor
open Go.RowKit
set_option linter.unusedVariables false
set_option maxRecDepth 100000 in
set_option maxHeartbeats 8000000 in
theorem refTokens_any (w0 : World) (before : Int) (l : List Int) (hl : Len l 64) :
 Calls Tryd.prog 83 #[.int .i64 before, .agg (iv l)] w0 fun e w => ∃ ad c, e = .returned (.tuple #[.slice ad (tokL before l).length c, .int .i64 (tokE before l)]) ∧ St w0 w [own 69 3 ad (tokL before l).length c ((flt (tokL before l)).map (Value.int .i64))] := by
 have hS := St.start w0
 obtain ⟨E, hE⟩ : ∃ E, tokE before l = E := ⟨_, rfl⟩
 by_cases h0 : E = 0
 case neg =>
  have hne : tokE before l ≠ 0 := by rw [hE]; exact h0
  have he1 : E = 1 := by
   rw [← hE] at h0 ⊢
   unfold tokE at h0 ⊢
   split
   · rename_i h; rw [if_pos h] at h0; exact absurd rfl h0
   · rfl
  subst he1
  have HE := hid hE
  have HTL := hid (show tokL before l = [] by unfold tokL; rw [if_neg hne])
  by_cases hb : -2047 ≤ before ∧ before ≤ 2047
  · have hin : allIn l (-2047) 2047 = false := by
     cases e : allIn l (-2047) 2047
     · rfl
     · exfalso; apply hne; unfold tokE; rw [if_pos ⟨(isC_iff _).2 hb, e⟩]
    have HIN := hid hin
    clear hne hin hE
    go_enter Tryd.func83, Tryd.ntmps83
    repeat' (first
     | ((with_reducible refine gt9 _ (.call ⟨.value (.func 78), _, _⟩) ?_); refine wpl_call (f := 78) Tryd.call78 kr9 ?_; refine ⟨_, (outside_in _ _ _ _ hb), ?_⟩; rintro e w' ⟨rfl, rfl⟩; refine ⟨_, rfl, ?_⟩; refine put_move ?_; go_step) | ((with_reducible refine gt9 _ (.call ⟨.value (.func 58), _, _⟩) ?_); refine wpl_call (f := 58) Tryd.call58 kr9 ?_; refine ⟨_, (rwithin_any _ l _ _ hl), ?_⟩; rintro e w' ⟨rfl, hE2⟩; rw [HIN.out]; replace hS := hS.ext hE2; clear hE2; refine ⟨_, rfl, ?_⟩; refine put_move ?_; go_step) | (refine y91 ?_) | (refine y9139 ?_) | (refine y9145 ?_) | ((with_reducible refine gs9 3 ?_); (refine wl9 ?_; apply wp_boxA (o := ⟨some 3, _, _, _, _, _⟩) hS 52 _ rfl _ 64 rfl; (case hn => assumption); clear hS; intro g3 w hS; refine put_move ?_; go_step)) | (refine y9129 ?_) | ((fail_if_success with_reducible refine ga9 ?_); go_step))
    all_goals (try (have hF : False := (by omega); cases hF))
    refine ret_all (xs := [_, _]) rfl (.cons (OneRes.tmp rfl) (.cons (OneRes.tmp rfl) (.nil))) (by simp) rfl ?_
    refine ⟨none, 0, by rw [HTL.out, HE.out]; rfl, ?_⟩
    rw [HTL.out]
    exact (St.of_ext hS.1).nil _ _
  · clear hne hE
    go_enter Tryd.func83, Tryd.ntmps83
    repeat' (first
     | ((with_reducible refine gt9 _ (.call ⟨.value (.func 78), _, _⟩) ?_); refine wpl_call (f := 78) Tryd.call78 kr9 ?_; refine ⟨_, (outside_out _ _ _ _ (by omega)), ?_⟩; rintro e w' ⟨rfl, rfl⟩; refine ⟨_, rfl, ?_⟩; refine put_move ?_; go_step) | go_skip | (refine y91 ?_) | (refine y9140 ?_) | ((with_reducible refine gs9 3 ?_); (refine wl9 ?_; apply wp_boxA (o := ⟨some 3, _, _, _, _, _⟩) hS 52 _ rfl _ 64 rfl; (case hn => assumption); clear hS; intro g3 w hS; refine put_move ?_; go_step)) | ((fail_if_success with_reducible refine ga9 ?_); go_step))
    all_goals (try (have hF : False := (by omega); cases hF))
    refine ret_all (xs := [_, _]) rfl (.cons (OneRes.tmp rfl) (.cons (OneRes.tmp rfl) (.nil))) (by simp) rfl ?_
    refine ⟨none, 0, by rw [HTL.out, HE.out]; rfl, ?_⟩
    rw [HTL.out]
    exact (St.of_ext hS.1).nil _ _
 subst h0
 obtain ⟨hb, hz⟩ := tokE_ok (show l.length = 64 from hl) hE
 have HIN : Hid (allIn l (-2047) 2047 = true) := hid ((allIn_iff l (-2047) 2047).2 fun i hi => hz i (by have : l.length = 64 := hl; omega))
 have hTL : tokL before l = toksOf before (zto l) := by unfold tokL; rw [if_pos hE]
 have hlz := zto_len l
 have hzz : ∀ i, i < 64 → -2047 ≤ nth (zto l) i ∧ nth (zto l) i ≤ 2047 := fun i hi => by rw [zto_get _ i hi]; exact hz _ (zn_lt i hi)
 rw [hTL, hE]
 obtain ⟨z, hze⟩ : ∃ z, zto l = z := ⟨_, rfl⟩
 have HZ := hid hze
 rw [hze] at hlz hzz ⊢
 have HZl : Len z 64 := hlz
 have HZZ := hid hzz
 have hz0 := hzz 0 (by omega)
 obtain ⟨all, hall⟩ : ∃ a, toksOf before z = a := ⟨_, rfl⟩
 rw [hall]
 have HAll := hid hall
 have hzl := hid hlz
 clear hze hlz hzz hall hz hTL hE
 go_enter Tryd.func83, Tryd.ntmps83
 repeat' (first
  | ((with_reducible refine gt9 _ (.call ⟨.value (.func 78), _, _⟩) ?_); refine wpl_call (f := 78) Tryd.call78 kr9 ?_; refine ⟨_, (outside_in _ _ _ _ hb), ?_⟩; rintro e w' ⟨rfl, rfl⟩; refine ⟨_, rfl, ?_⟩; refine put_move ?_; go_step) | ((with_reducible refine gt9 _ (.call ⟨.value (.func 58), _, _⟩) ?_); refine wpl_call (f := 58) Tryd.call58 kr9 ?_; refine ⟨_, (rwithin_any _ l _ _ hl), ?_⟩; rintro e w' ⟨rfl, hE2⟩; rw [HIN.out]; replace hS := hS.ext hE2; clear hE2; refine ⟨_, rfl, ?_⟩; refine put_move ?_; go_step) | ((with_reducible refine gt9 _ (.call ⟨.value (.func 98), _, _⟩) ?_); refine wpl_call (f := 98) Tryd.call98 kr9 ?_; refine ⟨_, (refTo_any _ l hl), ?_⟩; rintro e w ⟨rfl, hE⟩; rw [HZ.out]; replace hS := hS.ext hE; clear hE; refine ⟨_, rfl, ?_⟩; refine put_move ?_; go_step) | ((with_reducible refine gt9 _ (.call ⟨.value (.func 99), _, _⟩) ?_); refine wpl_call (f := 99) Tryd.call99 kr9 ?_; refine ⟨_, (refToken_any _ 0 (nth z 0 - before) (by omega) (by omega) (by omega)), ?_⟩; rintro e w ⟨rfl, hE⟩; replace hS := hS.ext hE; clear hE; refine ⟨_, rfl, ?_⟩; refine put_move ?_; go_step) | ((with_reducible refine gs9 25 ?_); (refine wl9 ?_; apply wp_buildSliceO (o := ⟨some 25, _, _, _, _, _⟩) hS 100 1 _ rfl 69 3 24 el100 _ _; (case hvs => (repeat (first | exact Parts.nil | (apply Parts.agg; (rfl); (rfl)) | (apply Parts.one; exact isv9; (rfl); (rfl))))); (case hn => rfl); (case hn0 => decide); (case hns => decide); clear hS; intro g25 w hS; simp only [List.cons_append, List.nil_append] at hS; refine put_move ?_; go_step)) | (refine y91 ?_) | (refine y9139 ?_) | (refine y9145 ?_) | ((with_reducible refine gs9 20 ?_); (refine wvv9 (V.indexAr Tryd.underlying52 isz3 rfl rfl (show IsN 0 0 from rfl) (by omega) (show 0 * 1 = 0 from rfl) nq9) ?_; go_step)) | (refine y995 ?_) | ((with_reducible refine gs9 3 ?_); (refine wl9 ?_; apply wp_boxA (o := ⟨some 3, _, _, _, _, _⟩) hS 52 _ rfl _ 64 rfl; (case hn => assumption); clear hS; intro g3 w hS; refine put_move ?_; go_step)) | (refine y9129 ?_) | ((with_reducible refine gs9 6 ?_); (refine wl9 ?_; apply wp_allocA (o := ⟨some 6, _, _, _, _, _⟩) hS 52 rfl (List.replicate 64 0) 64 List.length_replicate za52; clear hS; intro g6 w hS; refine put_move ?_; go_step)) | ((with_reducible refine gt9 _ (.store 52 _ _) ?_); (refine wl9 ?_; apply wp_storeA hS 52 _ _ rfl _ rfl 64 (row_of rfl) _ _; (case hp => exact pl9); (case hy => rfl); (case hm => (repeat (first | assumption | exact Len.rep | apply Len.set | ((with_reducible show Len (_ :: _) _); exact rfl)))); (case hd => exact rfl); clear hS; intro w hS)) | (refine y9122 ?_) | ((fail_if_success with_reducible refine ga9 ?_); go_step))
 replace hS : St w0 w [own 69 3 (some ⟨g25, 0, none⟩) 1 1 ((flt [tok 0 (nth z 0 - before)]).map (Value.int .i64)), arr g6 64 z] := hS.sub (xs := [own 69 3 (some ⟨g25, 0, none⟩) 1 1 [.int .i64 (tok 0 (nth z 0 - before)).1, .int .i64 (tok 0 (nth z 0 - before)).2.1, .int .i64 (tok 0 (nth z 0 - before)).2.2], arr g6 64 z]) sb9
 go_loopg [7, 8, 9] 63 (fun gk ov lv kv w => ∃ (i la r m : Nat) (o : List Tok) (a' : Option Addr) (c' : Nat), gk + i = 64 ∧ kv = .int .i64 i ∧ lv = .int .i64 la ∧ i = la + 1 + r ∧ ov = .slice a' m c' ∧ m + r ≤ i ∧ Hid (o.length = m) ∧ Hid (all = o ++ tks r (z.drop i)) ∧ St w0 w [own 69 3 a' m c' ((flt o).map (Value.int .i64)), arr g6 64 z])
 case atStart => exact ⟨1, 0, 0, 1, [tok 0 (nth z 0 - before)], _, _, rfl, rfl, rfl, rfl, rfl, by omega, hid rfl, hid (by rw [← HAll.out]; rfl), hS⟩
 case round =>
  clear hS
  obtain ⟨i, la, r, m, o, a', c', hk, rfl, rfl, hir, rfl, hmr, HO, HA, hS⟩ := hrel
  by_cases hlt : i < 64
  · have hdrop : z.drop i = nth z i :: z.drop (i + 1) := by
     rw [List.drop_eq_getElem_cons (by rw [hzl.out]; omega)]
     simp [nth, List.getD, hzl.out, hlt]
    have hn := HZZ.out i hlt
    have ha := HA.out
    rw [hdrop, tks] at ha
    obtain ⟨n, hne⟩ : ∃ n, nth z i = n := ⟨_, rfl⟩
    rw [hne] at ha hn
    have HN := hid hne
    clear hdrop hne HA
    by_cases h0 : n = 0
    · subst h0
      rw [if_pos rfl] at ha
      have HA2 := hid ha
      clear ha
      repeat' (first
       | (refine y956 ?_) | (refine y91 ?_) | (refine y990 ?_) | (refine y985 ?_) | (refine y954 ?_) | (refine y986 ?_) | ((fail_if_success with_reducible refine ga9 ?_); go_step))
      go_roundg (gk - 1)
      case measure => omega
      case rel => exact ⟨i + 1, la, r + 1, m, o, a', c', by omega, by go_num, rfl, by omega, rfl, by omega, HO, HA2, hS⟩
    · rw [if_neg h0] at ha
      have HA2 := hid ha
      clear ha
      repeat' (first
       | (refine y9146 ?_) | (refine y990 ?_) | ((fail_if_success with_reducible refine ga9 ?_); go_step))
      repeat' (first
       | (refine y956 ?_) | ((with_reducible refine gs9 37 ?_); (refine wplV (.int _ (((r : Nat) : Int))) (V.as (V.subI rfl rfl (by omega)) (by omega)) rfl ?_; go_step)) | ((with_reducible refine gs9 39 ?_); (refine wplV (.int _ (((r / 16 : Nat) : Int))) (V.as (V.quo rfl rfl (by omega) (by omega)) (by omega)) rfl ?_; go_step)) | (refine y91 ?_) | (refine y954 ?_) | (refine y986 ?_) | (refine y995 ?_) | ((fail_if_success with_reducible refine ga9 ?_); go_step))
      obtain ⟨gk1, hgk1⟩ : ∃ x, x = gk := ⟨_, rfl⟩
      subst hgk1
      go_loopg [7, 40] (r / 16) (fun gk ov kv w => ∃ (j m : Nat) (o : List Tok) (a' : Option Addr) (c' : Nat), gk + j = r / 16 ∧ kv = .int .i64 j ∧ ov = .slice a' m c' ∧ m + r ≤ i + j ∧ Hid (o.length = m) ∧ Hid (all = o ++ (List.replicate gk longT ++ (tok (r % 16) n :: tks 0 (z.drop (i + 1))))) ∧ St w0 w [own 69 3 a' m c' ((flt o).map (Value.int .i64)), arr g6 64 z])
      case atStart => exact ⟨0, m, o, a', c', rfl, rfl, rfl, hmr, HO, HA2, hS⟩
      case round =>
       clear hS HO HA2
       obtain ⟨j, m, o, a', c', hj, rfl, rfl, hmr, HO, HA2, hS⟩ := hrel
       by_cases hbig : j < r / 16
       · have HA3 : Hid (all = (o ++ [longT]) ++ (List.replicate (gk - 1) longT ++ (tok (r % 16) n :: tks 0 (z.drop (i + 1))))) := hid (by
          rw [HA2.out, show gk = (gk - 1) + 1 by omega, List.replicate_succ]; simp)
         have HF := hid (show flt (o ++ [longT]) = flt o ++ [240, 0, 0] from flt_snoc o longT)
         clear HA2
         repeat' (first
          | (refine y91 ?_) | (refine y990 ?_) | ((with_reducible refine gs9 43 ?_); (refine wvv9 (V.build (vs := [(0, _)]) rfl (bl69_0 _)) ?_; go_step)) | (refine y985 ?_) | ((with_reducible refine gs9 44 ?_); (refine wl9 ?_; apply wp_buildSlice1 (o := ⟨some 44, _, _, _, _, _⟩) hS 100 1 _ rfl 69 3 24 el100 _ _; (case hvs => (repeat (first | exact Parts.nil | (apply Parts.agg; (rfl); (rfl)) | (apply Parts.one; exact isv9; (rfl); (rfl))))); (case hn => rfl); (case hn0 => decide); (case hns => decide); clear hS; intro g44 w hS; simp only [List.cons_append, List.nil_append] at hS; refine put_move ?_; go_step)) | ((with_reducible refine gs9 45 ?_); (refine wl9 ?_; apply wp_append (o := ⟨some 45, _, _, _, _, _⟩) hS _ _ 100 rfl 69 3 24 el100 _ _ _ _ rfl; (case hp => exact pl9); (case hx => exact rfl); (case hm => (first | exact hS.slBlk pl9 (by rfl) (by decide) | exact hS.sl pl9 | with_reducible assumption | exact Sl.ext (by with_reducible assumption) hS.1 | exact Sl.nil _ _ | exact Sl.ext (by assumption) hS.1 | assumption)); (case h1 => (first | exact oneAll rfl | exact oneMap _ _ | (intro u hu; cases hu))); (case h63 => unfold maxLen; omega); (case hb => omega); clear hS; intro ad45 c45 w hS; (first | simp only [mapk1] at hS | simp only [mapk2] at hS | simp only [mapk3] at hS | simp only [mapk4] at hS | simp only [mapkl] at hS | skip); refine put_move ?_; go_step)) | ((fail_if_success with_reducible refine ga9 ?_); go_step))
         go_roundg (gk - 1)
         case measure => omega
         case rel => exact ⟨j + 1, m + 1, o ++ [longT], ad45, c45, by omega, by go_num, rfl, by omega, hid (by rw [List.length_append, HO.out]; rfl), HA3, (by rw [HF.out]; exact hS.sub sb9)⟩
       · obtain rfl : gk = 0 := by omega
         have HA3 : Hid (all = (o ++ [tok (r % 16) n]) ++ tks 0 (z.drop (i + 1))) := hid (by rw [HA2.out]; simp)
         have HF := hid (flt_snoc o (tok (r % 16) n))
         have hr15 : r % 16 ≤ 15 := by omega
         obtain ⟨q, hq⟩ : ∃ q, r % 16 = q := ⟨_, rfl⟩
         have HQ := hid hq
         rw [hq] at HA3 HF hr15
         clear HA2 hq
         repeat' (first
          | (refine y9146 ?_) | (refine y990 ?_) | ((fail_if_success with_reducible refine ga9 ?_); go_step))
         repeat' (first
          | ((with_reducible refine gs9 52 ?_); refine wl9 ?_; apply wp_load1A hS 3 _ rfl _ _ rfl (one_of rfl) _ _; (case hp => exact pl9); (case hi => omega); rw [HN.out]; refine put_move ?_; go_step) | ((with_reducible refine gs9 49 ?_); (refine wplV (.int _ (((q : Nat) : Int))) (V.as (V.rem rfl rfl (by omega) (by omega)) (by (have := HQ.out; omega))) rfl ?_; go_step)) | ((with_reducible refine gs9 53 ?_); refine wpl_call (f := 99) Tryd.call99 kr9 ?_; refine ⟨_, (refToken_any _ q n hr15 (by omega) (by omega)), ?_⟩; rintro e w ⟨rfl, hE⟩; replace hS := hS.ext hE; clear hE; refine ⟨_, rfl, ?_⟩; refine put_move ?_; go_step) | (refine y91 ?_) | ((with_reducible refine gs9 51 ?_); (refine wvv9 (V.indexAr Tryd.underlying52 isz3 rfl rfl isn9 (by omega) (Nat.mul_one _) nq9) ?_; go_step)) | ((with_reducible refine gs9 54 ?_); (refine wl9 ?_; apply wp_buildSlice1 (o := ⟨some 54, _, _, _, _, _⟩) hS 100 1 _ rfl 69 3 24 el100 _ _; (case hvs => (repeat (first | exact Parts.nil | (apply Parts.agg; (rfl); (rfl)) | (apply Parts.one; exact isv9; (rfl); (rfl))))); (case hn => rfl); (case hn0 => decide); (case hns => decide); clear hS; intro g54 w hS; simp only [List.cons_append, List.nil_append] at hS; refine put_move ?_; go_step)) | ((with_reducible refine gs9 55 ?_); (refine wl9 ?_; apply wp_append (o := ⟨some 55, _, _, _, _, _⟩) hS _ _ 100 rfl 69 3 24 el100 _ _ _ _ rfl; (case hp => exact pl9); (case hx => exact rfl); (case hm => (first | exact hS.slBlk pl9 (by rfl) (by decide) | exact hS.sl pl9 | with_reducible assumption | exact Sl.ext (by with_reducible assumption) hS.1 | exact Sl.nil _ _ | exact Sl.ext (by assumption) hS.1 | assumption)); (case h1 => (first | exact oneAll rfl | exact oneMap _ _ | (intro u hu; cases hu))); (case h63 => unfold maxLen; omega); (case hb => omega); clear hS; intro ad55 c55 w hS; (first | simp only [mapk1] at hS | simp only [mapk2] at hS | simp only [mapk3] at hS | simp only [mapk4] at hS | simp only [mapkl] at hS | skip); refine put_move ?_; go_step)) | ((fail_if_success with_reducible refine ga9 ?_); go_step))
         repeat' (first
          | (refine y92 ?_) | (refine y985 ?_) | ((fail_if_success with_reducible refine ga9 ?_); go_step))
         go_roundg (gk1 - 1)
         case measure => omega
         case rel => exact ⟨i + 1, i, 0, m + 1, o ++ [tok q n], ad55, c55, by omega, by go_num, rfl, by omega, rfl, by omega, hid (by rw [List.length_append, HO.out]; rfl), HA3, (by rw [HF.out]; exact hS.sub sb9)⟩
  · obtain rfl : i = 64 := by omega
    have ha := HA.out
    rw [show z.drop 64 = [] by rw [List.drop_eq_nil_iff, hzl.out]; omega, tks] at ha
    by_cases h0 : 0 < r
    · rw [if_pos h0] at ha
      have HL := hid (show all.length = m + 1 by rw [ha, List.length_append, HO.out]; rfl)
      have HF := hid (show flt all = flt o ++ [0, 0, 0] by rw [ha, flt_app]; rfl)
      clear ha HA
      repeat' (first
       | (refine y9146 ?_) | (refine y990 ?_) | ((fail_if_success with_reducible refine ga9 ?_); go_step))
      repeat' (first
       | (refine y91 ?_) | ((with_reducible refine gs9 60 ?_); (refine wvv9 (V.build (vs := []) rfl (bl69_)) ?_; go_step)) | ((with_reducible refine gs9 61 ?_); (refine wl9 ?_; apply wp_buildSlice1 (o := ⟨some 61, _, _, _, _, _⟩) hS 100 1 _ rfl 69 3 24 el100 _ _; (case hvs => (repeat (first | exact Parts.nil | (apply Parts.agg; (rfl); (rfl)) | (apply Parts.one; exact isv9; (rfl); (rfl))))); (case hn => rfl); (case hn0 => decide); (case hns => decide); clear hS; intro g61 w hS; simp only [List.cons_append, List.nil_append] at hS; refine put_move ?_; go_step)) | ((with_reducible refine gs9 62 ?_); (refine wl9 ?_; apply wp_append (o := ⟨some 62, _, _, _, _, _⟩) hS _ _ 100 rfl 69 3 24 el100 _ _ _ _ rfl; (case hp => exact pl9); (case hx => exact rfl); (case hm => (first | exact hS.slBlk pl9 (by rfl) (by decide) | exact hS.sl pl9 | with_reducible assumption | exact Sl.ext (by with_reducible assumption) hS.1 | exact Sl.nil _ _ | exact Sl.ext (by assumption) hS.1 | assumption)); (case h1 => (first | exact oneAll rfl | exact oneMap _ _ | (intro u hu; cases hu))); (case h63 => unfold maxLen; omega); (case hb => omega); clear hS; intro ad62 c62 w hS; (first | simp only [mapk1] at hS | simp only [mapk2] at hS | simp only [mapk3] at hS | simp only [mapk4] at hS | simp only [mapkl] at hS | skip); refine put_move ?_; go_step)) | ((fail_if_success with_reducible refine ga9 ?_); go_step))
      refine ret_all (xs := [_, _]) rfl (.cons (OneRes.tmp rfl) (.cons (OneRes.tmp rfl) (.nil))) (by simp) rfl ?_
      refine ⟨ad62, c62, (by rw [HL.out]; first | done | rfl), ?_⟩
      rw [HL.out, HF.out]
      exact hS.sub sb9
    · rw [if_neg h0, List.append_nil] at ha
      have HL := hid (show all.length = m by rw [ha, HO.out])
      have HF := hid (show flt all = flt o by rw [ha])
      clear ha HA
      repeat' (first
       | (refine y91 ?_) | (refine y990 ?_) | ((fail_if_success with_reducible refine ga9 ?_); go_step))
      repeat' (first
       | ((fail_if_success with_reducible refine ga9 ?_); go_step))
      refine ret_all (xs := [_, _]) rfl (.cons (OneRes.tmp rfl) (.cons (OneRes.tmp rfl) (.nil))) (by simp) rfl ?_
      refine ⟨a', c', (by rw [HL.out]; first | done | rfl), ?_⟩
      rw [HL.out, HF.out]
      exact hS.sub sb9

end Go.Proofs.YtehbjhocgnfpmaaDoor
/- The walks of the reference's BlocksCheck and Counts. -/
namespace Go.Proofs.YtehbjhocgnfpmaaDoor
open Go.RowKit
set_option linter.unusedVariables false
def allBlk (l : List Int) (n : Nat) : Bool := (List.range n).all fun k => blkIn (seg l 64 k)
theorem allBlk_succ (l : List Int) (n : Nat) : allBlk l (n + 1) = (allBlk l n && blkIn (seg l 64 n)) := by
 unfold allBlk; rw [List.range_succ, List.all_append]; simp
theorem allBlk_at {l : List Int} {n k : Nat} (h : allBlk l n = true) (hk : k < n) : blkIn (seg l 64 k) = true := by
 unfold allBlk at h
 rw [List.all_eq_true] at h
 exact h k (List.mem_range.2 hk)
theorem allBlk_not {l : List Int} {n k : Nat} (hk : k < n) (h : blkIn (seg l 64 k) = false) : allBlk l n = false := by
 cases e : allBlk l n
 · rfl
 · rw [allBlk_at e hk] at h; cases h
def blkE (l : List Int) (n : Nat) : Int := if 400 < n then 2 else if allBlk l n then 0 else 1
set_option maxRecDepth 100000 in
set_option maxHeartbeats 4000000 in
theorem blocksCheck_any (w0 : World) (ad : Option Addr) (n c : Nat) (l : List Int) (hn : n ≤ 9223372036854775807) (hv : Sl w0 64 (.slice ad n c) n (l.map (Value.int .i64))) :
 Calls Tryd.prog 36 #[.slice ad n c] w0 fun e w => e = .returned (.int .i64 (blkE l n)) ∧ Ext w0 w := by
 have hl : l.length = n * 64 := by have := hv.1; simpa using this
 have HL := hid hl
 clear hl
 have hS := St.start w0
 by_cases h4 : 400 < n
 · have HE := hid (show blkE l n = 2 by unfold blkE; rw [if_pos h4])
   go_enter Tryd.func36, Tryd.ntmps36
   repeat' (first
    | (refine y91 ?_) | (refine y999 ?_) | (refine y988 ?_) | ((fail_if_success with_reducible refine ga9 ?_); go_step))
   go_ret
   exact ⟨by rw [HE.out]; rfl, hS.1⟩
 have HE := hid (show blkE l n = if allBlk l n then 0 else 1 by unfold blkE; rw [if_neg h4])
 go_enter Tryd.func36, Tryd.ntmps36
 repeat' (first
  | (refine y91 ?_) | (refine y999 ?_) | (refine y988 ?_) | ((fail_if_success with_reducible refine ga9 ?_); go_step))
 repeat' (first
  | ((fail_if_success with_reducible refine ga9 ?_); go_step))
 go_loopg [10] n (fun gk kv w => ∃ k : Nat, gk + k = n ∧ kv = .int .i64 k ∧ Hid (allBlk l k = true) ∧ St w0 w [])
 case atStart => exact ⟨0, rfl, rfl, hid rfl, hS.sub sb9⟩
 case round =>
  clear hS
  obtain ⟨k, hk, rfl, HA, hS⟩ := hrel
  by_cases hlt : k < n
  · have ls : Len (seg l 64 k) 64 := seg_len l 64 k n HL.out hlt
    obtain ⟨B, hB⟩ : ∃ B, blkIn (seg l 64 k) = B := ⟨_, rfl⟩
    have HB := hid (show allIn (seg l 64 k) (-2047) 2047 = B from hB)
    have HB2 := hid hB
    clear hB
    cases B
    · have HF := hid (allBlk_not hlt HB2.out)
      repeat' (first
       | ((with_reducible refine gt9 _ (.call ⟨.value (.func 58), _, _⟩) ?_); refine wpl_call (f := 58) Tryd.call58 kr9 ?_; refine ⟨_, (rwithin_any _ (seg l 64 k) _ _ ls), ?_⟩; rintro e w ⟨rfl, hE⟩; rw [HB.out]; replace hS := hS.ext hE; clear hE; refine ⟨_, rfl, ?_⟩; refine put_move ?_; go_step) | (refine y92 ?_) | (refine y990 ?_) | ((with_reducible refine gs9 12 ?_); (refine wpl_indexS (by with_reducible assumption) Tryd.underlying22 isz52 rfl rfl isn9 (by omega) rfl ?_; intro b12 o12 hl12 hc12; go_step)) | (refine y9145 ?_) | (refine y9130 ?_) | ((with_reducible refine gs9 4 ?_); (refine wl9 ?_; apply wp_allocA (o := ⟨some 4, _, _, _, _, _⟩) hS 52 rfl (List.replicate 64 0) 64 List.length_replicate za52; clear hS; intro g4 w hS; refine put_move ?_; go_step)) | ((with_reducible refine gt9 _ (.store 52 _ _) ?_); (refine wl9 ?_; apply wp_storeA hS 52 _ _ rfl _ rfl 64 (row_of rfl) _ _; (case hp => exact pl9); (case hy => rfl); (case hm => (repeat (first | assumption | exact Len.rep | apply Len.set | ((with_reducible show Len (_ :: _) _); exact rfl)))); (case hd => exact rfl); clear hS; intro w hS)) | ((fail_if_success with_reducible refine ga9 ?_); go_step))
      all_goals (try (have hF : False := (by omega); cases hF))
      go_ret
      exact ⟨by rw [HE.out, HF.out]; rfl, hS.1⟩
    · skip
      repeat' (first
       | ((with_reducible refine gt9 _ (.call ⟨.value (.func 58), _, _⟩) ?_); refine wpl_call (f := 58) Tryd.call58 kr9 ?_; refine ⟨_, (rwithin_any _ (seg l 64 k) _ _ ls), ?_⟩; rintro e w ⟨rfl, hE⟩; rw [HB.out]; replace hS := hS.ext hE; clear hE; refine ⟨_, rfl, ?_⟩; refine put_move ?_; go_step) | (refine y990 ?_) | ((with_reducible refine gs9 12 ?_); (refine wpl_indexS (by with_reducible assumption) Tryd.underlying22 isz52 rfl rfl isn9 (by omega) rfl ?_; intro b12 o12 hl12 hc12; go_step)) | (refine y9145 ?_) | (refine y9130 ?_) | ((with_reducible refine gs9 4 ?_); (refine wl9 ?_; apply wp_allocA (o := ⟨some 4, _, _, _, _, _⟩) hS 52 rfl (List.replicate 64 0) 64 List.length_replicate za52; clear hS; intro g4 w hS; refine put_move ?_; go_step)) | ((with_reducible refine gt9 _ (.store 52 _ _) ?_); (refine wl9 ?_; apply wp_storeA hS 52 _ _ rfl _ rfl 64 (row_of rfl) _ _; (case hp => exact pl9); (case hy => rfl); (case hm => (repeat (first | assumption | exact Len.rep | apply Len.set | ((with_reducible show Len (_ :: _) _); exact rfl)))); (case hd => exact rfl); clear hS; intro w hS)) | ((fail_if_success with_reducible refine ga9 ?_); go_step))
      repeat' (first
       | (refine y9146 ?_) | (refine y985 ?_) | ((fail_if_success with_reducible refine ga9 ?_); go_step))
      all_goals (try (have hF : False := (by omega); cases hF))
      go_roundg (gk - 1)
      case measure => omega
      case rel => exact ⟨k + 1, by omega, by go_num, hid (by rw [allBlk_succ, HA.out, HB2.out]; rfl), hS.sub sb9⟩
  · obtain rfl : k = n := by omega
    repeat' (first
     | (refine y92 ?_) | (refine y990 ?_) | ((fail_if_success with_reducible refine ga9 ?_); go_step))
    repeat' (first
     | ((fail_if_success with_reducible refine ga9 ?_); go_step))
    go_ret
    exact ⟨by rw [HE.out, HA.out]; rfl, hS.1⟩
theorem may_any (w0 : World) (ad : Option Addr) (n c : Nat) (l : List Int) (hn : n ≤ 9223372036854775807) (hv : Sl w0 64 (.slice ad n c) n (l.map (Value.int .i64))) :
 Calls Tryd.prog 17 #[.slice ad n c] w0 fun e w => e = .returned (.bool (decide (blkE l n = 0))) ∧ Ext w0 w := by
 have hS := St.start w0
 go_enter Tryd.func17, Tryd.ntmps17
 repeat' (first
  | ((with_reducible refine gt9 _ (.call ⟨.value (.func 36), _, _⟩) ?_); refine wpl_call (f := 36) Tryd.call36 kr9 ?_; refine ⟨_, (blocksCheck_any _ ad n c l hn (hv.ext hS.1)), ?_⟩; rintro e w ⟨rfl, hE⟩; replace hS := hS.ext hE; clear hE; refine ⟨_, rfl, ?_⟩; refine put_move ?_; go_step) | (refine y91 ?_) | ((with_reducible refine gt9 _ (.binOp .eql 25 _ _ _) ?_); (refine wvv9 (V.eql rfl rfl) ?_; go_step)) | ((fail_if_success with_reducible refine ga9 ?_); go_step))
 go_ret
 exact ⟨rfl, hS.1⟩

def cnt (L : List Int) : List Int := (List.range 256).map fun s : Nat => ((L.count (s : Int) : Nat) : Int)
theorem cnt_len (L : List Int) : (cnt L).length = 256 := by unfold cnt; simp
theorem cnt_nth (L : List Int) {s : Nat} (h : s < 256) : nth (cnt L) s = ((L.count (s : Int) : Nat) : Int) := by
 unfold cnt nth List.getD
 rw [List.getElem?_map, List.getElem?_range h]; rfl
theorem cnt_ext {A B : List Int} (ha : A.length = 256) (hb : B.length = 256) (h : ∀ i, i < 256 → nth A i = nth B i) : A = B := by
 refine List.ext_getElem (by rw [ha, hb]) fun i h1 h2 => ?_
 have := h i (by omega)
 simpa [nth, List.getD, h1, h2] using this
theorem cnt_nil : cnt [] = List.replicate 256 0 := by
 refine cnt_ext (cnt_len _) List.length_replicate fun i hi => ?_
 rw [cnt_nth _ hi]
 simp only [nth, List.getD, List.getElem?_replicate, if_pos hi]
 rfl
theorem cnt_snoc (L : List Int) {s : Nat} (h : s < 256) : (cnt L).set s (nth (cnt L) s + 1) = cnt (L ++ [(s : Int)]) := by
 refine cnt_ext (by rw [List.length_set, cnt_len]) (cnt_len _) fun i hi => ?_
 rw [nth_set _ _ _ _ (by rw [cnt_len]; exact h), cnt_nth _ hi, cnt_nth _ h, cnt_nth _ hi, List.count_append, List.count_singleton]
 by_cases e : s = i
 · subst e; simp
 · rw [if_neg e, if_neg (by simp; omega)]; simp
def bef (l : List Int) (k : Nat) : Int := if k = 0 then 0 else nth (seg l 64 (k - 1)) 0
def tkb (l : List Int) (k : Nat) : List Tok := tokL (bef l k) (seg l 64 k)
def syF (l : List Int) (n : Nat) : List Int := (List.range n).flatMap fun k => ((tkb l k).take 1).map (·.1)
def syR (l : List Int) (n : Nat) : List Int := (List.range n).flatMap fun k => ((tkb l k).drop 1).map (·.1)
theorem syF_succ (l : List Int) (n : Nat) : syF l (n + 1) = syF l n ++ ((tkb l n).take 1).map (·.1) := by unfold syF; rw [List.range_succ, List.flatMap_append]; simp
theorem syR_succ (l : List Int) (n : Nat) : syR l (n + 1) = syR l n ++ ((tkb l n).drop 1).map (·.1) := by unfold syR; rw [List.range_succ, List.flatMap_append]; simp
theorem tks_sym : ∀ (l : List Int) (r : Nat), (∀ x ∈ l, -2047 ≤ x ∧ x ≤ 2047) → ∀ t ∈ tks r l, 0 ≤ t.1 ∧ t.1 < 256
 | [], r, _, t, ht => by
  unfold tks at ht
  split at ht
  · simp at ht; subst ht; decide
  · simp at ht
 | n :: l, r, h, t, ht => by
  unfold tks at ht
  split at ht
  · exact tks_sym l (r + 1) (fun x hx => h x (by simp [hx])) t ht
  · rcases List.mem_append.1 ht with ht | ht
    · rw [List.eq_of_mem_replicate ht]; decide
    · rcases List.mem_cons.1 ht with rfl | ht
      · have h1 := sz_le11 n (by have := h n (by simp); omega)
        unfold tok
        dsimp only
        omega
      · exact tks_sym l 0 (fun x hx => h x (by simp [hx])) t ht
theorem tokL_sym {p : Int} {x : List Int} (hx : x.length = 64) : ∀ t ∈ tokL p x, 0 ≤ t.1 ∧ t.1 < 256 := by
 intro t ht
 unfold tokL at ht
 split at ht
 · rename_i h
   obtain ⟨h1, h2⟩ := tokE_ok hx h
   have hz : ∀ i, i < 64 → -2047 ≤ nth (zto x) i ∧ nth (zto x) i ≤ 2047 := fun i hi => by rw [zto_get _ i hi]; exact h2 _ (zn_lt i hi)
   unfold toksOf at ht
   rcases List.mem_cons.1 ht with rfl | ht
   · have := hz 0 (by omega)
     have h3 := sz_le (nth (zto x) 0 - p) (by omega)
     unfold tok
     dsimp only
     omega
   · refine tks_sym _ 0 (fun y hy => ?_) t ht
     obtain ⟨i, hi, rfl⟩ := List.mem_iff_getElem.1 (List.mem_of_mem_drop hy)
     have := hz i (by rw [← zto_len x]; exact hi)
     simpa [nth, List.getD, hi] using this
 · simp at ht
theorem tokL_le {p : Int} {x : List Int} (hx : x.length = 64) : (tokL p x).length ≤ 64 := by
 unfold tokL
 split
 · exact (toks_len p (zto x) (zto_len x)).2
 · simp
theorem sy_len {l : List Int} {m : Nat} (hl : l.length = m * 64) : ∀ n, n ≤ m → (syF l n).length + (syR l n).length ≤ n * 64
 | 0, _ => by simp [syF, syR]
 | n + 1, h => by
  have ih := sy_len hl n (by omega)
  have h1 : (tkb l n).length ≤ 64 := tokL_le (seg_len l 64 n m hl (by omega))
  rw [syF_succ, syR_succ]
  simp
  omega
theorem take_next {T : List Tok} {i : Nat} {x : Tok} (hi : i < T.length) (h : T.take (i + 1) = T.take i ++ [x]) (A B : List Int) :
 (i = 0 → A ++ ((T.take (i + 1)).take 1).map (·.1) = (A ++ ((T.take i).take 1).map (·.1)) ++ [x.1] ∧ B ++ ((T.take (i + 1)).drop 1).map (·.1) = B ++ ((T.take i).drop 1).map (·.1)) ∧
 (i ≠ 0 → A ++ ((T.take (i + 1)).take 1).map (·.1) = A ++ ((T.take i).take 1).map (·.1) ∧ B ++ ((T.take (i + 1)).drop 1).map (·.1) = (B ++ ((T.take i).drop 1).map (·.1)) ++ [x.1]) := by
 have hl : (T.take i).length = i := by simp; omega
 rw [h]
 constructor
 · rintro rfl
   simp
 · intro h0
   rw [List.take_append_of_le_length (by omega), List.drop_append_of_le_length (by omega), List.map_append, ← List.append_assoc]
   exact ⟨rfl, rfl⟩
theorem cnt_bd (L : List Int) {q : Nat} (hq : q < 256) : 0 ≤ nth (cnt L) q ∧ nth (cnt L) q ≤ L.length := by
 rw [cnt_nth _ hq]
 have := List.count_le_length (a := (q : Int)) (l := L)
 omega
theorem refTokens_b (w0 : World) (l : List Int) (k : Nat) (p : Int) (h : bef l k = p) (hl : Len (seg l 64 k) 64) :
 Calls Tryd.prog 83 #[.int .i64 p, .agg (iv (seg l 64 k))] w0 fun e w => ∃ ad m c E, (tkb l k).length = m ∧ e = .returned (.tuple #[.slice ad m c, .int .i64 E]) ∧ St w0 w [own 69 3 ad m c ((flt (tkb l k)).map (Value.int .i64))] := by
 subst h
 refine (refTokens_any w0 (bef l k) (seg l 64 k) hl).mono ?_
 rintro e w ⟨ad, c, rfl, hS⟩
 exact ⟨ad, _, c, _, rfl, rfl, hS⟩
set_option maxRecDepth 100000 in
set_option maxHeartbeats 8000000 in
theorem refCounts_any (w0 : World) (ad : Option Addr) (n c : Nat) (l : List Int) (hn : n ≤ 1048576) (hv : Sl w0 64 (.slice ad n c) n (l.map (Value.int .i64))) :
 Calls Tryd.prog 65 #[.slice ad n c] w0 fun e w => ∃ g1 g2, e = .returned (.tuple #[.slice (some ⟨g1, 0, none⟩) 256 256, .slice (some ⟨g2, 0, none⟩) 256 256]) ∧ St w0 w [own 3 1 (some ⟨g1, 0, none⟩) 256 256 ((cnt (syF l n)).map (Value.int .i64)), own 3 1 (some ⟨g2, 0, none⟩) 256 256 ((cnt (syR l n)).map (Value.int .i64))] := by
 have hl : l.length = n * 64 := by have := hv.1; simpa using this
 have HL := hid hl
 clear hl
 have hS := St.start w0
 go_enter Tryd.func65, Tryd.ntmps65
 repeat' (first
  | (refine y92 ?_) | ((fail_if_success with_reducible refine ga9 ?_); go_step))
 refine drawn_lit [] (fun _ => True) kr9 ?_
 replace hS := hS.drew
 focus
  refine branch [0, 1] kr9 (by simp) (.cons al9 rfl ?_ (.cons al9 rfl ?_ (.nil)))
  rotate_left 1
  focus
   (refine wp_make (o := ⟨some 14, _, _, _, _, _⟩) hS 24 _ _ rfl _ _ _ _ elz24 _ _ _ _ _ _ rfl rfl isn9 isn9 (by omega) (by omega) (by unfold maxLen; omega) ?_; clear hS; intro g14 w hS)
   refine ⟨fun _ h => h, ?_⟩
   refine drawn_move ?_
   go_step
   refine branch1 0 al9 rfl kr9 ?_
   (refine wp_make (o := ⟨some 13, _, _, _, _, _⟩) hS 24 _ _ rfl _ _ _ _ elz24 _ _ _ _ _ _ rfl rfl isn9 isn9 (by omega) (by omega) (by unfold maxLen; omega) ?_; clear hS; intro g13 w hS)
   refine ⟨fun _ h => h, ?_⟩
   refine drawn_move ?_
   go_step
   refine takeA 2 _ al9 kr9 kr9 kr9 hq9 rfl ?_
   go_step
   refine takeA 3 _ al9 kr9 kr9 kr9 hq9 rfl ?_
   go_step
   refine drawn_done kr9 ?_ _
  rotate_right 1
  focus
   (refine wp_make (o := ⟨some 13, _, _, _, _, _⟩) hS 24 _ _ rfl _ _ _ _ elz24 _ _ _ _ _ _ rfl rfl isn9 isn9 (by omega) (by omega) (by unfold maxLen; omega) ?_; clear hS; intro g13 w hS)
   refine ⟨fun _ h => h, ?_⟩
   refine drawn_move ?_
   go_step
   refine takeA 2 _ al9 kr9 kr9 kr9 hq9 rfl ?_
   go_step
   refine branch1 1 al9 rfl kr9 ?_
   (refine wp_make (o := ⟨some 14, _, _, _, _, _⟩) hS 24 _ _ rfl _ _ _ _ elz24 _ _ _ _ _ _ rfl rfl isn9 isn9 (by omega) (by omega) (by unfold maxLen; omega) ?_; clear hS; intro g14 w hS)
   refine ⟨fun _ h => h, ?_⟩
   refine drawn_move ?_
   go_step
   refine takeA 3 _ al9 kr9 kr9 kr9 hq9 rfl ?_
   go_step
   refine drawn_done kr9 ?_ _
 all_goals
  rw [show (256 * 1 : Nat) = 256 from rfl, ← cnt_nil] at hS
  replace hS := hS.sub (xs := [own 3 1 (some ⟨g13, 0, none⟩) 256 256 ((cnt []).map (Value.int .i64)), own 3 1 (some ⟨g14, 0, none⟩) 256 256 ((cnt []).map (Value.int .i64))]) sb9
  repeat' (first
   | (refine y9146 ?_) | (refine y999 ?_) | ((fail_if_success with_reducible refine ga9 ?_); go_step))
  go_loopg [17] n (fun gk kv w => ∃ k : Nat, gk + k = n ∧ kv = .int .i64 k ∧ St w0 w [own 3 1 (some ⟨g13, 0, none⟩) 256 256 ((cnt (syF l k)).map (Value.int .i64)), own 3 1 (some ⟨g14, 0, none⟩) 256 256 ((cnt (syR l k)).map (Value.int .i64))])
  case atStart => exact ⟨0, rfl, rfl, hS⟩
  case round =>
   clear hS
   obtain ⟨k, hk, rfl, hS⟩ := hrel
   by_cases hlt : k < n
   · have ls : Len (seg l 64 k) 64 := seg_len l 64 k n HL.out hlt
     by_cases hk0 : k = 0
     · have HB : Hid (bef l k = 0) := hid (by unfold bef; rw [if_pos hk0])
       repeat' (first
        | (refine y91 ?_) | (refine y990 ?_) | ((with_reducible refine gs9 20 ?_); (refine wpl_indexS (by with_reducible assumption) Tryd.underlying22 isz52 rfl rfl isn9 (by omega) rfl ?_; intro b20 o20 hl20 hc20; go_step)) | (refine y988 ?_) | (refine y9130 ?_) | ((with_reducible refine gs9 7 ?_); (refine wl9 ?_; apply wp_allocA (o := ⟨some 7, _, _, _, _, _⟩) hS 52 rfl (List.replicate 64 0) 64 List.length_replicate za52; clear hS; intro g7 w hS; refine put_move ?_; go_step)) | ((with_reducible refine gt9 _ (.store 52 _ _) ?_); (refine wl9 ?_; apply wp_storeA hS 52 _ _ rfl _ rfl 64 (row_of rfl) _ _; (case hp => exact pl9); (case hy => rfl); (case hm => (repeat (first | assumption | exact Len.rep | apply Len.set | ((with_reducible show Len (_ :: _) _); exact rfl)))); (case hd => exact rfl); clear hS; intro w hS)) | ((fail_if_success with_reducible refine ga9 ?_); go_step))
       repeat' (first
        | ((with_reducible refine gs9 33 ?_); refine wpl_call (f := 83) Tryd.call83 kr9 ?_; refine ⟨_, (refTokens_b _ l k _ HB.out ls), ?_⟩; rintro e w ⟨a5, m5, c5, E5, hm5, rfl, hS2⟩; have HM5 := hid hm5; replace hS := hS.call1 hS2; clear hS2 hm5; refine ⟨_, rfl, ?_⟩; refine put_move ?_; go_step) | (refine y91 ?_) | (refine y9105 ?_) | (refine y996 ?_) | ((fail_if_success with_reducible refine ga9 ?_); go_step))
       obtain ⟨T, hT⟩ : ∃ T, tkb l k = T := ⟨_, rfl⟩
       have HTE := hid hT
       rw [hT] at hS HM5
       have HSY := hid (show ∀ t ∈ T, 0 ≤ t.1 ∧ t.1 < 256 by rw [← hT]; exact tokL_sym ls)
       clear hT
       obtain ⟨gk1, hgk1⟩ : ∃ x, x = gk := ⟨_, rfl⟩
       subst hgk1
       go_loopg [38] m5 (fun gk kv w => ∃ i : Nat, gk + i = m5 ∧ kv = .int .i64 i ∧ St w0 w [own 69 3 a5 m5 c5 ((flt T).map (Value.int .i64)), own 3 1 (some ⟨g13, 0, none⟩) 256 256 ((cnt (syF l k ++ ((T.take i).take 1).map (·.1))).map (Value.int .i64)), own 3 1 (some ⟨g14, 0, none⟩) 256 256 ((cnt (syR l k ++ ((T.take i).drop 1).map (·.1))).map (Value.int .i64))])
       case atStart => exact ⟨0, rfl, rfl, by rw [show ((T.take 0).take 1).map (·.1) = ([] : List Int) by simp, show ((T.take 0).drop 1).map (·.1) = ([] : List Int) by simp, List.append_nil, List.append_nil]; exact hS.sub sb9⟩
       case round =>
        clear hS
        obtain ⟨i, hi, rfl, hS⟩ := hrel
        by_cases hlt2 : i < m5
        · obtain ⟨b5, rfl⟩ := own_some (a := a5) hS pl9 (by omega)
          obtain ⟨⟨s, v, y⟩, hx⟩ : ∃ x, T[i]? = some x := ⟨_, List.getElem?_eq_getElem (by rw [HM5.out]; exact hlt2)⟩
          have hseg := flt_get T i _ hx
          have hsy := HSY.out _ (List.mem_of_getElem? hx)
          dsimp only at hseg hsy
          obtain ⟨q, rfl⟩ : ∃ q : Nat, s = (q : Int) := ⟨s.toNat, by omega⟩
          have ht : T.take (i + 1) = T.take i ++ [((q : Int), v, y)] := by rw [List.take_add_one, hx]; rfl
          have HTK := hid ht
          clear hx ht
          have hnx := take_next (by rw [HM5.out]; exact hlt2) HTK.out (syF l k) (syR l k)
          dsimp only at hnx
          have hq : q < 256 := by omega
          have hsl := sy_len HL.out k (by omega)
          have hA := cnt_bd (syF l k ++ ((T.take i).take 1).map (·.1)) hq
          have hB := cnt_bd (syR l k ++ ((T.take i).drop 1).map (·.1)) hq
          have hTl : T.length ≤ 64 := by rw [← HTE.out]; exact tokL_le ls
          rw [List.length_append, List.length_map, List.length_take, List.length_take] at hA
          rw [List.length_append, List.length_map, List.length_drop, List.length_take] at hB
          have HCA := hid (cnt_snoc (syF l k ++ ((T.take i).take 1).map (·.1)) hq)
          have HCB := hid (cnt_snoc (syR l k ++ ((T.take i).drop 1).map (·.1)) hq)
          have HNX := hid hnx
          have hm5 : m5 ≤ 64 := by rw [← HM5.out]; exact hTl
          clear hnx
          repeat' (first
           | (refine y91 ?_) | (refine y990 ?_) | (refine y961 ?_) | (refine y986 ?_) | (refine y9132 ?_) | ((with_reducible refine gs9 12 ?_); (refine wl9 ?_; apply wp_alloc (o := ⟨some 12, _, _, _, _, _⟩) hS 69 rfl (.agg #[.int .i64 0, .int .i64 0, .int .i64 0]) [.int .i64 0, .int .i64 0, .int .i64 0] (fun w => Tryd.zeroValue69 w) rfl; clear hS; intro g12 w hS; refine put_move ?_; go_step)) | ((with_reducible refine gt9 _ (.store 69 _ _) ?_); (refine wl9 ?_; apply wp_storeG hS 69 _ _ rfl _ rfl 3 (row_of rfl) _ _; (case hp => exact pl9); (case hy => rfl); (case hn => rfl); (case hn' => rfl); (case hv => rfl); (case hd => exact rfl); clear hS; intro w hS)) | ((fail_if_success with_reducible refine ga9 ?_); go_step))
          · skip
            repeat' (first
             | (refine y9146 ?_) | (refine y9110 ?_) | (refine y964 ?_) | (refine y985 ?_) | (refine y969 ?_) | (refine y9125 ?_) | ((with_reducible refine gt9 _ (.store 3 _ _) ?_); (refine wl9 ?_; apply wp_store1OI hS 3 _ _ rfl _ _ rfl (one_of rfl) _ _ _ _ _; (case hp => exact pl9); (case hy => rfl); (case hi => omega); (case hd => exact rfl); clear hS; intro w hS)) | ((fail_if_success with_reducible refine ga9 ?_); go_step))
            clear hA hB hsl hTl
            repeat' (first
             | ((fail_if_success with_reducible refine ga9 ?_); go_step))
            go_roundg (gk - 1)
            case measure => omega
            case rel =>
             refine ⟨i + 1, by omega, by go_num, ?_⟩
             rw [(HNX.out.1 (by omega)).1, (HNX.out.1 (by omega)).2, ← HCA.out]
             exact hS.sub sb9
          · skip
            repeat' (first
             | (refine y9146 ?_) | (refine y9110 ?_) | (refine y974 ?_) | (refine y985 ?_) | (refine y979 ?_) | (refine y9125 ?_) | ((with_reducible refine gt9 _ (.store 3 _ _) ?_); (refine wl9 ?_; apply wp_store1OI hS 3 _ _ rfl _ _ rfl (one_of rfl) _ _ _ _ _; (case hp => exact pl9); (case hy => rfl); (case hi => omega); (case hd => exact rfl); clear hS; intro w hS)) | ((fail_if_success with_reducible refine ga9 ?_); go_step))
            clear hA hB hsl hTl
            repeat' (first
             | ((fail_if_success with_reducible refine ga9 ?_); go_step))
            go_roundg (gk - 1)
            case measure => omega
            case rel =>
             refine ⟨i + 1, by omega, by go_num, ?_⟩
             rw [(HNX.out.2 (by omega)).1, (HNX.out.2 (by omega)).2, ← HCB.out]
             exact hS.sub sb9
        · obtain rfl : i = m5 := by omega
          rw [show T.take i = T by rw [← HM5.out]; exact List.take_length, ← HTE.out, ← syF_succ, ← syR_succ] at hS
          repeat' (first
           | (refine y990 ?_) | ((fail_if_success with_reducible refine ga9 ?_); go_step))
          repeat' (first
           | (refine y9146 ?_) | (refine y985 ?_) | ((fail_if_success with_reducible refine ga9 ?_); go_step))
          go_roundg (gk1 - 1)
          case measure => omega
          case rel => exact ⟨k + 1, by omega, by go_num, hS.sub sb9⟩
     · have HB : Hid (bef l k = nth (seg l 64 (k - 1)) 0) := hid (by unfold bef; rw [if_neg hk0])
       repeat' (first
        | (refine y91 ?_) | (refine y990 ?_) | ((with_reducible refine gs9 20 ?_); (refine wpl_indexS (by with_reducible assumption) Tryd.underlying22 isz52 rfl rfl isn9 (by omega) rfl ?_; intro b20 o20 hl20 hc20; go_step)) | (refine y988 ?_) | (refine y995 ?_) | ((with_reducible refine gs9 27 ?_); (refine wpl_indexS (by with_reducible assumption) Tryd.underlying22 isz52 rfl rfl isn9 (by omega) rfl ?_; intro b27 o27 hl27 hc27; go_step)) | ((with_reducible refine gs9 28 ?_); (refine wvv9 (V.indexAr Tryd.underlying52 isz3 rfl rfl (show IsN 0 0 from rfl) (by omega) (show 0 * 1 = 0 from rfl) nq9) ?_; go_step)) | (refine y9130 ?_) | ((with_reducible refine gs9 7 ?_); (refine wl9 ?_; apply wp_allocA (o := ⟨some 7, _, _, _, _, _⟩) hS 52 rfl (List.replicate 64 0) 64 List.length_replicate za52; clear hS; intro g7 w hS; refine put_move ?_; go_step)) | ((with_reducible refine gt9 _ (.store 52 _ _) ?_); (refine wl9 ?_; apply wp_storeA hS 52 _ _ rfl _ rfl 64 (row_of rfl) _ _; (case hp => exact pl9); (case hy => rfl); (case hm => (repeat (first | assumption | exact Len.rep | apply Len.set | ((with_reducible show Len (_ :: _) _); exact rfl)))); (case hd => exact rfl); clear hS; intro w hS)) | ((with_reducible refine gt9 _ (.load 3 _) ?_); (refine wl9 ?_; apply wp_load1R0 hS 3 _ rfl _ _ rfl (one_of rfl) _ _; (case hl => with_reducible assumption); (case hr => with_reducible assumption); (case hf => omega); refine put_move ?_; go_step)) | ((fail_if_success with_reducible refine ga9 ?_); go_step))
       repeat' (first
        | ((with_reducible refine gs9 33 ?_); refine wpl_call (f := 83) Tryd.call83 kr9 ?_; refine ⟨_, (refTokens_b _ l k _ HB.out ls), ?_⟩; rintro e w ⟨a5, m5, c5, E5, hm5, rfl, hS2⟩; have HM5 := hid hm5; replace hS := hS.call1 hS2; clear hS2 hm5; refine ⟨_, rfl, ?_⟩; refine put_move ?_; go_step) | (refine y91 ?_) | (refine y9105 ?_) | (refine y996 ?_) | ((fail_if_success with_reducible refine ga9 ?_); go_step))
       obtain ⟨T, hT⟩ : ∃ T, tkb l k = T := ⟨_, rfl⟩
       have HTE := hid hT
       rw [hT] at hS HM5
       have HSY := hid (show ∀ t ∈ T, 0 ≤ t.1 ∧ t.1 < 256 by rw [← hT]; exact tokL_sym ls)
       clear hT
       obtain ⟨gk1, hgk1⟩ : ∃ x, x = gk := ⟨_, rfl⟩
       subst hgk1
       go_loopg [38] m5 (fun gk kv w => ∃ i : Nat, gk + i = m5 ∧ kv = .int .i64 i ∧ St w0 w [own 69 3 a5 m5 c5 ((flt T).map (Value.int .i64)), own 3 1 (some ⟨g13, 0, none⟩) 256 256 ((cnt (syF l k ++ ((T.take i).take 1).map (·.1))).map (Value.int .i64)), own 3 1 (some ⟨g14, 0, none⟩) 256 256 ((cnt (syR l k ++ ((T.take i).drop 1).map (·.1))).map (Value.int .i64))])
       case atStart => exact ⟨0, rfl, rfl, by rw [show ((T.take 0).take 1).map (·.1) = ([] : List Int) by simp, show ((T.take 0).drop 1).map (·.1) = ([] : List Int) by simp, List.append_nil, List.append_nil]; exact hS.sub sb9⟩
       case round =>
        clear hS
        obtain ⟨i, hi, rfl, hS⟩ := hrel
        by_cases hlt2 : i < m5
        · obtain ⟨b5, rfl⟩ := own_some (a := a5) hS pl9 (by omega)
          obtain ⟨⟨s, v, y⟩, hx⟩ : ∃ x, T[i]? = some x := ⟨_, List.getElem?_eq_getElem (by rw [HM5.out]; exact hlt2)⟩
          have hseg := flt_get T i _ hx
          have hsy := HSY.out _ (List.mem_of_getElem? hx)
          dsimp only at hseg hsy
          obtain ⟨q, rfl⟩ : ∃ q : Nat, s = (q : Int) := ⟨s.toNat, by omega⟩
          have ht : T.take (i + 1) = T.take i ++ [((q : Int), v, y)] := by rw [List.take_add_one, hx]; rfl
          have HTK := hid ht
          clear hx ht
          have hnx := take_next (by rw [HM5.out]; exact hlt2) HTK.out (syF l k) (syR l k)
          dsimp only at hnx
          have hq : q < 256 := by omega
          have hsl := sy_len HL.out k (by omega)
          have hA := cnt_bd (syF l k ++ ((T.take i).take 1).map (·.1)) hq
          have hB := cnt_bd (syR l k ++ ((T.take i).drop 1).map (·.1)) hq
          have hTl : T.length ≤ 64 := by rw [← HTE.out]; exact tokL_le ls
          rw [List.length_append, List.length_map, List.length_take, List.length_take] at hA
          rw [List.length_append, List.length_map, List.length_drop, List.length_take] at hB
          have HCA := hid (cnt_snoc (syF l k ++ ((T.take i).take 1).map (·.1)) hq)
          have HCB := hid (cnt_snoc (syR l k ++ ((T.take i).drop 1).map (·.1)) hq)
          have HNX := hid hnx
          have hm5 : m5 ≤ 64 := by rw [← HM5.out]; exact hTl
          clear hnx
          repeat' (first
           | (refine y91 ?_) | (refine y990 ?_) | (refine y961 ?_) | (refine y986 ?_) | (refine y9132 ?_) | ((with_reducible refine gs9 12 ?_); (refine wl9 ?_; apply wp_alloc (o := ⟨some 12, _, _, _, _, _⟩) hS 69 rfl (.agg #[.int .i64 0, .int .i64 0, .int .i64 0]) [.int .i64 0, .int .i64 0, .int .i64 0] (fun w => Tryd.zeroValue69 w) rfl; clear hS; intro g12 w hS; refine put_move ?_; go_step)) | ((with_reducible refine gt9 _ (.store 69 _ _) ?_); (refine wl9 ?_; apply wp_storeG hS 69 _ _ rfl _ rfl 3 (row_of rfl) _ _; (case hp => exact pl9); (case hy => rfl); (case hn => rfl); (case hn' => rfl); (case hv => rfl); (case hd => exact rfl); clear hS; intro w hS)) | ((fail_if_success with_reducible refine ga9 ?_); go_step))
          · skip
            repeat' (first
             | (refine y9146 ?_) | (refine y9110 ?_) | (refine y964 ?_) | (refine y985 ?_) | (refine y969 ?_) | (refine y9125 ?_) | ((with_reducible refine gt9 _ (.store 3 _ _) ?_); (refine wl9 ?_; apply wp_store1OI hS 3 _ _ rfl _ _ rfl (one_of rfl) _ _ _ _ _; (case hp => exact pl9); (case hy => rfl); (case hi => omega); (case hd => exact rfl); clear hS; intro w hS)) | ((fail_if_success with_reducible refine ga9 ?_); go_step))
            clear hA hB hsl hTl
            repeat' (first
             | ((fail_if_success with_reducible refine ga9 ?_); go_step))
            go_roundg (gk - 1)
            case measure => omega
            case rel =>
             refine ⟨i + 1, by omega, by go_num, ?_⟩
             rw [(HNX.out.1 (by omega)).1, (HNX.out.1 (by omega)).2, ← HCA.out]
             exact hS.sub sb9
          · skip
            repeat' (first
             | (refine y9146 ?_) | (refine y9110 ?_) | (refine y974 ?_) | (refine y985 ?_) | (refine y979 ?_) | (refine y9125 ?_) | ((with_reducible refine gt9 _ (.store 3 _ _) ?_); (refine wl9 ?_; apply wp_store1OI hS 3 _ _ rfl _ _ rfl (one_of rfl) _ _ _ _ _; (case hp => exact pl9); (case hy => rfl); (case hi => omega); (case hd => exact rfl); clear hS; intro w hS)) | ((fail_if_success with_reducible refine ga9 ?_); go_step))
            clear hA hB hsl hTl
            repeat' (first
             | ((fail_if_success with_reducible refine ga9 ?_); go_step))
            go_roundg (gk - 1)
            case measure => omega
            case rel =>
             refine ⟨i + 1, by omega, by go_num, ?_⟩
             rw [(HNX.out.2 (by omega)).1, (HNX.out.2 (by omega)).2, ← HCB.out]
             exact hS.sub sb9
        · obtain rfl : i = m5 := by omega
          rw [show T.take i = T by rw [← HM5.out]; exact List.take_length, ← HTE.out, ← syF_succ, ← syR_succ] at hS
          repeat' (first
           | (refine y990 ?_) | ((fail_if_success with_reducible refine ga9 ?_); go_step))
          repeat' (first
           | (refine y9146 ?_) | (refine y985 ?_) | ((fail_if_success with_reducible refine ga9 ?_); go_step))
          go_roundg (gk1 - 1)
          case measure => omega
          case rel => exact ⟨k + 1, by omega, by go_num, hS.sub sb9⟩
   · obtain rfl : k = n := by omega
     repeat' (first
      | (refine y91 ?_) | (refine y990 ?_) | ((fail_if_success with_reducible refine ga9 ?_); go_step))
     repeat' (first
      | ((fail_if_success with_reducible refine ga9 ?_); go_step))
     refine ret_all (xs := [_, _]) rfl (.cons (OneRes.tmp rfl) (.cons (OneRes.tmp rfl) (.nil))) (by simp) rfl ?_
     exact ⟨g13, g14, rfl, hS⟩

end Go.Proofs.YtehbjhocgnfpmaaDoor
/- Reading blocks from tokens: the plain law. -/
namespace Go.Proofs.YtehbjhocgnfpmaaDoor
set_option linter.unusedVariables false
def badT (t : Tok) : Bool := !(decide (0 ≤ t.2.1 ∧ t.2.1 ≤ 11) && decide (0 ≤ t.2.2 ∧ t.2.2 < 2 ^ t.2.1.toNat) && decide (0 ≤ t.1 ∧ t.1 ≤ 255) && decide (t.2.1 = t.1 % 16) && (decide (t.2.1 ≠ 0) || decide (t.1 = 0 ∨ t.1 = 240)))
def numT (t : Tok) : Int := sback t.2.1.toNat t.2.2.toNat
section
variable {σ : Type} (next : σ → Bool → Tok × Int × σ)
def frLoop : Nat → Nat → List Int → List Tok → σ → Int × List Int × List Tok × σ
 | 0, _, b, all, s => (0, b, all, s)
 | f + 1, at_, b, all, s =>
  if 64 ≤ at_ then (0, b, all, s) else
  if (next s false).2.1 ≠ 0 then ((next s false).2.1, b, all, (next s false).2.2) else
  if badT (next s false).1 = true then (4, b, all ++ [(next s false).1], (next s false).2.2) else
  if (next s false).1.1 = 0 then (0, b, all ++ [(next s false).1], (next s false).2.2) else
  if (next s false).1.1 = 240 then
   if 64 < at_ + 16 then (4, b, all ++ [(next s false).1], (next s false).2.2) else frLoop f (at_ + 16) b (all ++ [(next s false).1]) (next s false).2.2
  else
   if 64 ≤ at_ + (next s false).1.1.toNat / 16 then (4, b, all ++ [(next s false).1], (next s false).2.2)
   else frLoop f (at_ + (next s false).1.1.toNat / 16 + 1) (b.set (at_ + (next s false).1.1.toNat / 16) (numT (next s false).1)) (all ++ [(next s false).1]) (next s false).2.2
def okFirst (before : Int) (t : Tok) : Bool := decide (0 ≤ t.2.1 ∧ t.2.1 ≤ 12) && decide (0 ≤ t.2.2 ∧ t.2.2 < 2 ^ t.2.1.toNat) && decide (t.1 = t.2.1) && decide (-2047 ≤ before + numT t ∧ before + numT t ≤ 2047)
def first0 (n : Int) : List Int := (List.replicate 64 0).set 0 n
def frm (before : Int) (s : σ) : Int × List Int × List Tok × σ :=
 if (next s true).2.1 ≠ 0 then ((next s true).2.1, List.replicate 64 0, [], (next s true).2.2) else
 if okFirst before (next s true).1 = false then (4, List.replicate 64 0, [], (next s true).2.2) else
 if (frLoop next 64 1 (first0 (before + numT (next s true).1)) [(next s true).1] (next s true).2.2).1 ≠ 0 then
  ((frLoop next 64 1 (first0 (before + numT (next s true).1)) [(next s true).1] (next s true).2.2).1, List.replicate 64 0, [], (frLoop next 64 1 (first0 (before + numT (next s true).1)) [(next s true).1] (next s true).2.2).2.2.2) else
 if toksOf before (frLoop next 64 1 (first0 (before + numT (next s true).1)) [(next s true).1] (next s true).2.2).2.1 = (frLoop next 64 1 (first0 (before + numT (next s true).1)) [(next s true).1] (next s true).2.2).2.2.1 then
  (0, zfrom (frLoop next 64 1 (first0 (before + numT (next s true).1)) [(next s true).1] (next s true).2.2).2.1, (frLoop next 64 1 (first0 (before + numT (next s true).1)) [(next s true).1] (next s true).2.2).2.2.1, (frLoop next 64 1 (first0 (before + numT (next s true).1)) [(next s true).1] (next s true).2.2).2.2.2)
 else (4, List.replicate 64 0, [], (frLoop next 64 1 (first0 (before + numT (next s true).1)) [(next s true).1] (next s true).2.2).2.2.2)
end
theorem sback_sv (n : Int) : sback (sz n) (sv n).toNat = n ∧ 0 ≤ sv n ∧ sv n < 2 ^ sz n := by
 obtain ⟨h1, h2⟩ := blen_spec n.natAbs
 have hz : blen n.natAbs = sz n := rfl
 rw [hz] at h1 h2
 have e : ((2 : Int) ^ sz n) = ((2 ^ sz n : Nat) : Int) := by push_cast; rfl
 rw [e]
 by_cases hn : n < 0
 · obtain ⟨h3, h4⟩ := h2 (by omega)
   have hsv : sv n = n + ((2 ^ sz n - 1 : Nat) : Int) := by unfold sv; rw [if_pos hn]
   have hp : 2 ^ sz n = 2 * 2 ^ (sz n - 1) := by rw [← Nat.pow_succ']; congr 1; omega
   obtain ⟨p, hpe⟩ : ∃ p, 2 ^ (sz n - 1) = p := ⟨_, rfl⟩
   rw [hpe] at h4 hp
   rw [hp] at h1 hsv
   refine ⟨?_, by rw [hsv]; omega, by rw [hp, hsv]; omega⟩
   unfold sback
   rw [if_pos ⟨by omega, by rw [hpe, hsv]; omega⟩, hp, hsv]; omega
 · have hsv : sv n = n := by unfold sv; rw [if_neg hn]
   by_cases h0 : n = 0
   · subst h0
     rw [sv_zero, sz_zero]
     exact ⟨rfl, by omega, by decide⟩
   · obtain ⟨h3, h4⟩ := h2 (by omega)
     refine ⟨?_, by rw [hsv]; omega, by rw [hsv]; omega⟩
     unfold sback
     rw [if_neg (by rw [hsv]; omega), hsv]; omega
theorem tok_ok (r : Nat) (n : Int) (hr : r ≤ 15) (hn : n ≠ 0) (hb : -2048 < n ∧ n < 2048) : badT (tok r n) = false ∧ (tok r n).1 ≠ 0 ∧ (tok r n).1 ≠ 240 ∧ (tok r n).1.toNat / 16 = r ∧ numT (tok r n) = n := by
 have h1 := sz_pos n hn
 have h2 := sz_le11 n hb
 obtain ⟨h3, h4, h5⟩ := sback_sv n
 unfold tok
 refine ⟨?_, by show ((r * 16 + sz n : Nat) : Int) ≠ 0; omega, by show ((r * 16 + sz n : Nat) : Int) ≠ 240; omega, by show ((r * 16 + sz n : Nat) : Int).toNat / 16 = r; omega, ?_⟩
 · unfold badT
   dsimp only
   rw [decide_eq_true (show 0 ≤ ((sz n : Nat) : Int) ∧ ((sz n : Nat) : Int) ≤ 11 by omega), decide_eq_true (show 0 ≤ sv n ∧ sv n < 2 ^ ((sz n : Nat) : Int).toNat by rw [Int.toNat_natCast]; exact ⟨h4, h5⟩), decide_eq_true (show 0 ≤ ((r * 16 + sz n : Nat) : Int) ∧ ((r * 16 + sz n : Nat) : Int) ≤ 255 by omega),
    decide_eq_true (show ((sz n : Nat) : Int) = ((r * 16 + sz n : Nat) : Int) % 16 by omega), decide_eq_true (show ((sz n : Nat) : Int) ≠ 0 by omega)]
   rfl
 · unfold numT
   dsimp only
   rw [Int.toNat_natCast]; exact h3
theorem first_ok (before n : Int) (hb : -2047 ≤ before ∧ before ≤ 2047) (hn : -2047 ≤ n ∧ n ≤ 2047) : okFirst before (tok 0 (n - before)) = true ∧ before + numT (tok 0 (n - before)) = n := by
 obtain ⟨h3, h4, h5⟩ := sback_sv (n - before)
 have h2 := sz_le (n - before) (by omega)
 have hnum : numT (tok 0 (n - before)) = n - before := by unfold numT tok; dsimp only; rw [Int.toNat_natCast]; exact h3
 refine ⟨?_, by rw [hnum]; omega⟩
 unfold okFirst
 rw [hnum]
 unfold tok
 dsimp only
 rw [decide_eq_true (show 0 ≤ ((sz (n - before) : Nat) : Int) ∧ ((sz (n - before) : Nat) : Int) ≤ 12 by omega), decide_eq_true (show 0 ≤ sv (n - before) ∧ sv (n - before) < 2 ^ ((sz (n - before) : Nat) : Int).toNat by rw [Int.toNat_natCast]; exact ⟨h4, h5⟩),
  decide_eq_true (show ((0 * 16 + sz (n - before) : Nat) : Int) = ((sz (n - before) : Nat) : Int) by omega), decide_eq_true (show -2047 ≤ before + (n - before) ∧ before + (n - before) ≤ 2047 by omega)]
 rfl
def Feeds {σ : Type} (next : σ → Bool → Tok × Int × σ) : List Tok → σ → σ → Prop
 | [], s, s' => s = s'
 | t :: r, s, s' => (next s false).1 = t ∧ (next s false).2.1 = 0 ∧ Feeds next r (next s false).2.2 s'
theorem zeros_split : ∀ l : List Int, (∀ n ∈ l, n = 0) ∨ ∃ m n l', n ≠ 0 ∧ l = List.replicate m 0 ++ n :: l'
 | [] => .inl (by simp)
 | n :: l => by
  by_cases h : n = 0
  · rcases zeros_split l with h2 | ⟨m, n', l', h2, h3⟩
    · exact .inl (by intro x hx; rcases List.mem_cons.1 hx with rfl | hx; exact h; exact h2 x hx)
    · exact .inr ⟨m + 1, n', l', h2, by rw [h3, h]; rfl⟩
  · exact .inr ⟨0, n, l, h, rfl⟩
theorem tks_zeros (m : Nat) (n : Int) (l : List Int) (hn : n ≠ 0) : ∀ r, tks r (List.replicate m 0 ++ n :: l) = List.replicate ((r + m) / 16) longT ++ (tok ((r + m) % 16) n :: tks 0 l) := by
 induction m with
 | zero => intro r; simp only [List.replicate_zero, List.nil_append, tks, if_neg hn, Nat.add_zero]
 | succ m ih => intro r; rw [List.replicate_succ, List.cons_append, tks, if_pos rfl, ih, show r + 1 + m = r + (m + 1) by omega]
theorem tks_end : ∀ (l : List Int) (r : Nat), (∀ n ∈ l, n = 0) → tks r l = if 0 < r + l.length then [endT] else []
 | [], r, _ => by simp [tks]
 | n :: l, r, h => by
  rw [tks, if_pos (h n (by simp)), tks_end l (r + 1) fun x hx => h x (by simp [hx])]
  simp only [List.length_cons]
  rw [if_pos (by omega), if_pos (by omega)]
section
variable {σ : Type} {next : σ → Bool → Tok × Int × σ}
theorem Feeds.append : ∀ {l m : List Tok} {s s' : σ}, Feeds next (l ++ m) s s' → ∃ s1, Feeds next l s s1 ∧ Feeds next m s1 s'
 | [], m, s, s', h => ⟨s, rfl, h⟩
 | t :: l, m, s, s', ⟨h1, h2, h3⟩ => by
  obtain ⟨s1, h4, h5⟩ := Feeds.append h3
  exact ⟨s1, ⟨h1, h2, h4⟩, h5⟩
theorem bad_long : badT longT = false := by decide +kernel
theorem bad_end : badT endT = false := by decide +kernel
theorem loop_long (f : Nat) (at_ : Nat) (b : List Int) (all : List Tok) (s s' : σ) : ∀ q, at_ + 16 * q ≤ 63 → Feeds next (List.replicate q longT) s s' →
 frLoop next (f + q) at_ b all s = frLoop next f (at_ + 16 * q) b (all ++ List.replicate q longT) s' := by
 intro q
 induction q generalizing at_ all s with
 | zero => intro _ h; rw [show s = s' from h]; simp
 | succ q ih =>
  intro hq h
  rw [List.replicate_succ] at h
  obtain ⟨h1, h2, h3⟩ := h
  rw [show f + (q + 1) = (f + q) + 1 by omega, frLoop, if_neg (by omega), h1, h2, if_neg (by simp), if_neg (by rw [bad_long]; simp), if_neg (by decide), if_pos (show longT.1 = 240 from rfl), if_neg (by omega), ih (at_ + 16) _ _ (by omega) h3, List.replicate_succ]
  rw [show at_ + 16 + 16 * q = at_ + 16 * (q + 1) by omega]
  simp
theorem set_mid (z b : List Int) (at_ j : Nat) (hz : z.length = 64) (hb : b = z.take at_ ++ List.replicate (64 - at_) 0) (hj : at_ + j < 64) (hzero : ∀ i, i < j → nth z (at_ + i) = 0) : b.set (at_ + j) (nth z (at_ + j)) = z.take (at_ + j + 1) ++ List.replicate (64 - (at_ + j + 1)) 0 := by
 have hbl : b.length = 64 := by rw [hb]; simp [hz]; omega
 apply list_ext
 · simp [hbl, hz]; omega
 · intro i hi
   rw [List.length_set, hbl] at hi
   rw [nth_set _ _ _ _ (by omega)]
   have hL : (z.take at_).length = at_ := by simp [hz]; omega
   have hL2 : (z.take (at_ + j + 1)).length = at_ + j + 1 := by simp [hz]; omega
   have htake : ∀ k, i < k → nth (z.take k) i = nth z i := fun k hk => nth_take _ _ _ hk
   split
   · rename_i h; subst h
     rw [nth_app1 _ _ _ (by omega), htake _ (by omega)]
   · rename_i h
     rw [hb]
     by_cases h1 : i < at_
     · rw [nth_app1 _ _ _ (by omega), nth_app1 _ _ _ (by omega), htake _ h1, htake _ (by omega)]
     · rw [nth_app2 _ _ _ (by omega), nth_zeros]
       by_cases h2 : i < at_ + j + 1
       · rw [nth_app1 _ _ _ (by omega), htake _ h2]
         have := hzero (i - at_) (by omega)
         rw [show at_ + (i - at_) = i by omega] at this
         exact this.symm
       · rw [nth_app2 _ _ _ (by omega), nth_zeros]
theorem loop_toks (z : List Int) (hz : z.length = 64) (hr : ∀ i, i < 64 → -2047 ≤ nth z i ∧ nth z i ≤ 2047) : ∀ (k at_ f : Nat) (b : List Int) (all : List Tok) (s s' : σ), 64 - at_ = k → at_ ≤ 64 → k ≤ f → b = z.take at_ ++ List.replicate (64 - at_) 0 → Feeds next (tks 0 (z.drop at_)) s s' →
 frLoop next f at_ b all s = (0, z, all ++ tks 0 (z.drop at_), s') := by
 intro k
 induction k using Nat.strongRecOn with
 | _ k ih =>
  intro at_ f b all s s' hk hat hf hb hfd
  by_cases h64 : at_ = 64
  · subst h64
    have hd : z.drop 64 = [] := by rw [List.drop_eq_nil_iff]; omega
    rw [hd] at hfd ⊢
    have hs : s = s' := hfd
    have hbz : b = z := by rw [hb, Nat.sub_self, List.replicate_zero, List.append_nil, ← hz, List.take_length]
    cases f with
    | zero => rw [frLoop, hs, hbz]; simp [tks]
    | succ f => rw [frLoop, if_pos (by omega), hs, hbz]; simp [tks]
  · rcases zeros_split (z.drop at_) with hall | ⟨m, n, l', hn, hl'⟩
    · rw [tks_end _ 0 hall] at hfd ⊢
      have hlen : 0 < 0 + (z.drop at_).length := by rw [List.length_drop, hz]; omega
      rw [if_pos hlen] at hfd ⊢
      obtain ⟨h1, h2, h3⟩ := hfd
      obtain ⟨f, rfl⟩ : ∃ g, f = g + 1 := ⟨f - 1, by omega⟩
      have hbz : b = z := by
       rw [hb]
       conv => rhs; rw [← List.take_append_drop at_ z]
       congr 1
       have : (z.drop at_).length = 64 - at_ := by rw [List.length_drop, hz]
       rw [← this]
       exact (List.eq_replicate_iff.2 ⟨rfl, hall⟩).symm
      rw [frLoop, if_neg (by omega), h1, h2, if_neg (by simp), if_neg (by rw [bad_end]; simp), if_pos (show endT.1 = 0 from rfl), hbz, show (next s false).2.2 = s' from h3]
    · rw [hl', tks_zeros m n l' hn 0, Nat.zero_add] at hfd ⊢
      have hdl : (z.drop at_).length = 64 - at_ := by rw [List.length_drop, hz]
      rw [hl', List.length_append, List.length_replicate, List.length_cons] at hdl
      have hnth : ∀ i, nth z (at_ + i) = nth (List.replicate m 0 ++ n :: l') i := fun i => by rw [← hl', nth_drop]
      have hnm : nth z (at_ + m) = n := by rw [hnth, nth_app2 _ _ _ (by simp)]; simp [nth]
      have hd2 : z.drop (at_ + m + 1) = l' := by
       have : z.drop (at_ + m + 1) = (z.drop at_).drop (m + 1) := by rw [List.drop_drop, Nat.add_assoc]
       rw [this, hl', List.drop_append, List.drop_of_length_le (by simp)]; simp
      obtain ⟨s1, hf1, hf2⟩ := hfd.append
      obtain ⟨h1, h2, h3⟩ := hf2
      have hq : 16 * (m / 16) + m % 16 = m := Nat.div_add_mod m 16
      obtain ⟨g, hg⟩ : ∃ g, f = (g + 1) + m / 16 := ⟨f - 1 - m / 16, by omega⟩
      obtain ⟨t1, t2, t3, t4, t5⟩ := tok_ok (m % 16) n (by omega) hn (by have := hr (at_ + m) (by omega); rw [hnm] at this; omega)
      rw [hg, loop_long (g + 1) at_ b all s s1 (m / 16) (by omega) hf1, frLoop, if_neg (by omega), h1, h2, if_neg (by simp), if_neg (by rw [t1]; simp), if_neg t2, if_neg t3, t4, t5, if_neg (by omega)]
      rw [show at_ + 16 * (m / 16) + m % 16 = at_ + m by omega]
      have hset := set_mid z b at_ m hz hb (by omega) fun i hi => by rw [hnth, nth_app1 _ _ _ (by simpa using hi), nth_rep _ _ _ hi]
      rw [hnm] at hset
      have := ih (64 - (at_ + m + 1)) (by omega) (at_ + m + 1) g (b.set (at_ + m) n) (all ++ List.replicate (m / 16) longT ++ [tok (m % 16) n]) (next s1 false).2.2 s' rfl (by omega) (by omega) hset (by rw [hd2]; exact h3)
      rw [this, hd2]
      simp
theorem frm_toks (before : Int) (z : List Int) (hz : z.length = 64) (hb : -2047 ≤ before ∧ before ≤ 2047) (hr : ∀ i, i < 64 → -2047 ≤ nth z i ∧ nth z i ≤ 2047) (s s' : σ) (h1 : (next s true).1 = tok 0 (nth z 0 - before)) (h2 : (next s true).2.1 = 0)
 (h3 : Feeds next (tks 0 (z.drop 1)) (next s true).2.2 s') : frm next before s = (0, zfrom z, toksOf before z, s') := by
 obtain ⟨f1, f2⟩ := first_ok before (nth z 0) hb (hr 0 (by omega))
 have hl := loop_toks z hz hr 63 1 64 (first0 (nth z 0)) [tok 0 (nth z 0 - before)] (next s true).2.2 s' rfl (by omega) (by omega) (by
  unfold first0
  match z, hz with
  | n :: z, _ => rfl) h3
 unfold frm
 rw [h1, h2, if_neg (by simp), if_neg (by rw [f1]; simp), f2, hl]
 rw [if_neg (by simp)]
 exact (if_pos (show toksOf before z = _ from rfl)).trans rfl
end

end Go.Proofs.YtehbjhocgnfpmaaDoor
/- Segments, in plain Lean: the tokens of blocks with their places, and what a call for each of them comes to. -/
namespace Go.Proofs.YtehbjhocgnfpmaaDoor
open Go.RowKit
set_option linter.unusedVariables false
def mark : List Tok → List (Tok × Bool)
 | [] => []
 | t :: r => (t, true) :: r.map fun x => (x, false)
def tfl (l : List Int) : Nat → Nat → List (Tok × Bool)
 | _, 0 => []
 | k, f + 1 => mark (tkb l k) ++ tfl l (k + 1) f
def ech {σ : Type} (step : σ → Tok → Bool → Int × σ) : List (Tok × Bool) → σ → Int × σ
 | [], s => (0, s)
 | x :: r, s => if (step s x.1 x.2).1 = 0 then ech step r (step s x.1 x.2).2 else step s x.1 x.2
theorem ech_app {σ : Type} (step : σ → Tok → Bool → Int × σ) : ∀ (A B : List (Tok × Bool)) (s : σ), ech step (A ++ B) s = if (ech step A s).1 = 0 then ech step B (ech step A s).2 else ech step A s
 | [], B, s => by simp [ech]
 | x :: A, B, s => by
  rw [List.cons_append, ech, ech]
  by_cases h : (step s x.1 x.2).1 = 0
  · rw [if_pos h, if_pos h, ech_app step A B]
  · rw [if_neg h, if_neg h, if_neg h]
def okT (t : Tok) : Prop := (0 ≤ t.1 ∧ t.1 < 256) ∧ (0 ≤ t.2.1 ∧ t.2.1 ≤ 12) ∧ 0 ≤ t.2.2 ∧ t.2.2 < 2 ^ t.2.1.toNat
theorem tok_okT (r : Nat) (n : Int) (hr : r ≤ 15) (hb : -4096 < n ∧ n < 4096) : okT (tok r n) := by
 have h1 := sz_le n hb
 have h2 := sback_sv n
 unfold okT tok
 dsimp only
 rw [Int.toNat_natCast]
 exact ⟨by omega, by omega, h2.2.1, by exact_mod_cast h2.2.2⟩
theorem tks_okT : ∀ (l : List Int) (r : Nat), (∀ x ∈ l, -2047 ≤ x ∧ x ≤ 2047) → ∀ t ∈ tks r l, okT t
 | [], r, _, t, ht => by
  unfold tks at ht
  split at ht
  · simp at ht; subst ht; unfold okT; decide
  · simp at ht
 | n :: l, r, h, t, ht => by
  unfold tks at ht
  split at ht
  · exact tks_okT l (r + 1) (fun x hx => h x (by simp [hx])) t ht
  · rcases List.mem_append.1 ht with ht | ht
    · rw [List.eq_of_mem_replicate ht]; unfold okT; decide
    · rcases List.mem_cons.1 ht with rfl | ht
      · exact tok_okT (r % 16) n (by omega) (by have := h n (by simp); omega)
      · exact tks_okT l 0 (fun x hx => h x (by simp [hx])) t ht
theorem tokL_okT {p : Int} {x : List Int} (hx : x.length = 64) : ∀ t ∈ tokL p x, okT t := by
 intro t ht
 unfold tokL at ht
 split at ht
 · rename_i h
   obtain ⟨h1, h2⟩ := tokE_ok hx h
   have hz : ∀ i, i < 64 → -2047 ≤ nth (zto x) i ∧ nth (zto x) i ≤ 2047 := fun i hi => by rw [zto_get _ i hi]; exact h2 _ (zn_lt i hi)
   unfold toksOf at ht
   rcases List.mem_cons.1 ht with rfl | ht
   · have := hz 0 (by omega)
     exact tok_okT 0 _ (by omega) (by omega)
   · refine tks_okT _ 0 (fun y hy => ?_) t ht
     obtain ⟨i, hi, rfl⟩ := List.mem_iff_getElem.1 (List.mem_of_mem_drop hy)
     have := hz i (by rw [← zto_len x]; exact hi)
     simpa [nth, List.getD, hi] using this
 · simp at ht
theorem mark_len (T : List Tok) : (mark T).length = T.length := by cases T <;> simp [mark]
theorem mark_get {T : List Tok} {i : Nat} {x : Tok} (h : T[i]? = some x) : (mark T).drop i = (x, decide (i = 0)) :: (mark T).drop (i + 1) := by
 cases T with
 | nil => simp at h
 | cons t r =>
  cases i with
  | zero => simp at h; subst h; simp [mark]
  | succ i =>
   rw [List.getElem?_cons_succ] at h
   have hi : i < r.length := by
    rcases Nat.lt_or_ge i r.length with h1 | h1
    · exact h1
    · rw [List.getElem?_eq_none h1] at h; cases h
   have hx : r[i] = x := by rw [List.getElem?_eq_getElem hi] at h; exact Option.some.inj h
   simp only [mark, List.drop_succ_cons]
   rw [← List.map_drop, ← List.map_drop, List.drop_eq_getElem_cons hi, hx]
   simp
theorem tfl_succ (l : List Int) : ∀ (f k : Nat), tfl l k (f + 1) = tfl l k f ++ mark (tkb l (k + f))
 | 0, k => by simp [tfl]
 | f + 1, k => by
  rw [tfl, tfl_succ l f (k + 1), tfl, List.append_assoc, show k + 1 + f = k + (f + 1) by omega]
theorem bef_in {l : List Int} {n k : Nat} (hl : l.length = n * 64) (h : allBlk l n = true) (hk : k < n) : -2047 ≤ bef l k ∧ bef l k ≤ 2047 := by
 unfold bef
 by_cases h0 : k = 0
 · rw [if_pos h0]; omega
 · rw [if_neg h0]
   have h1 := allBlk_at h (show k - 1 < n by omega)
   have h2 := (allIn_iff _ _ _).1 h1 0 (by rw [seg_len l 64 (k - 1) n hl (by omega)]; omega)
   exact h2
theorem tkb_ok {l : List Int} {n k : Nat} (hl : l.length = n * 64) (h : allBlk l n = true) (hk : k < n) : tokE (bef l k) (seg l 64 k) = 0 ∧ tkb l k = toksOf (bef l k) (zto (seg l 64 k)) := by
 have h1 : tokE (bef l k) (seg l 64 k) = 0 := by
  unfold tokE
  rw [if_pos ⟨(isC_iff _).2 (bef_in hl h hk), allBlk_at h hk⟩]
 exact ⟨h1, by unfold tkb tokL; rw [if_pos h1]⟩
theorem tokE_zero (x : List Int) : tokE 0 x = if blkIn x then 0 else 1 := by
 unfold tokE
 have h0 : isC 0 = true := rfl
 by_cases h : blkIn x = true
 · rw [if_pos ⟨h0, h⟩, if_pos h]
 · rw [if_neg (fun e => h e.2), if_neg h]
def cntStep (s : List Int × List Int) (t : Tok) (b : Bool) : Int × List Int × List Int := (0, if b then (s.1 ++ [t.1], s.2) else (s.1, s.2 ++ [t.1]))
theorem cnt_rest (r : List Tok) : ∀ s : List Int × List Int, ech cntStep (r.map fun x => (x, false)) s = (0, s.1, s.2 ++ r.map (·.1)) := by
 induction r with
 | nil => intro s; simp [ech]
 | cons t r ih => intro s; simp only [List.map_cons, ech]; rw [if_pos (show (cntStep s t false).1 = 0 from rfl), ih]; simp [cntStep]
theorem cnt_mark (T : List Tok) (s : List Int × List Int) : ech cntStep (mark T) s = (0, s.1 ++ (T.take 1).map (·.1), s.2 ++ (T.drop 1).map (·.1)) := by
 cases T with
 | nil => simp [mark, ech]
 | cons t r => rw [mark, ech, if_pos (show (cntStep s t true).1 = 0 from rfl), cnt_rest]; simp [cntStep]
theorem cnt_tfl (l : List Int) : ∀ f, ech cntStep (tfl l 0 f) ([], []) = (0, syF l f, syR l f)
 | 0 => rfl
 | f + 1 => by
  rw [tfl_succ, ech_app, cnt_tfl l f, if_pos rfl, cnt_mark, syF_succ, syR_succ, Nat.zero_add]

end Go.Proofs.YtehbjhocgnfpmaaDoor
/- The walks of seg.each and seg.Counts. -/
namespace Go.Proofs.YtehbjhocgnfpmaaDoor
open Go.RowKit
set_option maxRecDepth 100000
set_option linter.unusedVariables false
theorem V.makeFunc {P : Program} {ty : TypeId} {a : Act} {fn : Fn} {cs : List Operand} {vs : List Value} (h : cs.map a.eval = vs) : Val P (.makeFunc fn #[] cs.toArray) ty a (.func fn #[] vs.toArray) := fun d pos af g w => by
 subst h
 simp only [execOp, List.map_toArray]
 rfl
structure Clo (W : World) (σ : Type) where
 step : σ → Tok → Bool → Int × σ
 res : σ → Res
 ok : σ → Nat → Prop
 K : FuncId
 caps : Array Value
 inv : ∀ (args : Array Value) (w : World), (callFunc K args).run Tryd.prog w = .ok (.enter K args) w
 okS : ∀ s m t b, ok s (m + 1) → okT t → (step s t b).1 = 0 → ok (step s t b).2 m
 okM : ∀ s m k, ok s m → k ≤ m → ok s k
 call : ∀ (w : World) (rs rs' : List Res) (s : σ) (m : Nat) (t0 t1 t2 : Int) (b : Bool) (er : Int) (s' : σ), St W w rs → Pull (res s) rs rs' → ok s (m + 1) → okT (t0, t1, t2) → step s (t0, t1, t2) b = (er, s') →
  Calls Tryd.prog K (#[.agg #[.int .i64 t0, .int .i64 t1, .int .i64 t2], .bool b] ++ caps) w fun e w' => e = .returned (.int .i64 er) ∧ St W w' (res s' :: rs')
theorem bef_succ (l : List Int) (q : Nat) : bef l (q + 1) = nth (seg l 64 q) 0 := by unfold bef; rw [if_neg (by omega)]; rfl
structure Veil4 (p : Prop) : Prop where
 out : p
theorem tokens_e (w0 : World) (l : List Int) (p E : Int) (T : List Tok) (hE : tokE p l = E) (hT : tokL p l = T) (hl : Len l 64) :
 Calls Tryd.prog 57 #[.int .i64 p, .agg (iv l)] w0 fun e w => ∃ ad m c, T.length = m ∧ e = .returned (.tuple #[.slice ad m c, .int .i64 E]) ∧ St w0 w [own 69 3 ad m c ((flt T).map (Value.int .i64))] := by
 subst hE; subst hT
 refine (tokensOf_any w0 p l hl).mono ?_
 rintro e w ⟨ad, c, rfl, hS⟩
 exact ⟨ad, _, c, rfl, rfl, hS⟩
def EachGives {W : World} {σ : Type} (Z : Clo W σ) (l : List Int) (n : Nat) (s0 : σ) (rs' : List Res) (e : Ending) (w : World) : Prop :=
 ∃ s', (blkE l n = 0 → s' = (ech Z.step (tfl l 0 n) s0).2) ∧ e = .returned (.int .i64 (if blkE l n = 0 then (ech Z.step (tfl l 0 n) s0).1 else blkE l n)) ∧ St W w (Z.res s' :: rs')
theorem each_no {W w : World} {σ : Type} {Z : Clo W σ} {l : List Int} {n : Nat} {s0 : σ} {rs' : List Res} (E : Int) (h1 : blkE l n = E) (h2 : E ≠ 0) (hS : St W w (Z.res s0 :: rs')) : EachGives Z l n s0 rs' (.returned (.int .i64 E)) w :=
 ⟨s0, fun h => absurd (h1.symm.trans h) h2, by rw [h1, if_neg h2], hS⟩
theorem each_yes {W w : World} {σ : Type} {Z : Clo W σ} {l : List Int} {n : Nat} {s0 s' : σ} {rs' : List Res} (er : Int) (h1 : blkE l n = 0) (h2 : ech Z.step (tfl l 0 n) s0 = (er, s')) (hS : St W w (Z.res s' :: rs')) : EachGives Z l n s0 rs' (.returned (.int .i64 er)) w :=
 ⟨s', fun _ => by rw [h2], by rw [if_pos h1, h2], hS⟩
set_option maxHeartbeats 8000000 in
theorem each_any {W : World} {σ : Type} (Z : Clo W σ) (w0 : World) (rs rs' : List Res) (s0 : σ) (ad : Option Addr) (n c : Nat) (l : List Int) (hn : n ≤ 9223372036854775807) (hv : Sl W 64 (.slice ad n c) n (l.map (Value.int .i64)))
 (hS : St W w0 rs) (hp : Pull (Z.res s0) rs rs') (hok : Z.ok s0 25600) :
 Calls Tryd.prog 34 #[.slice ad n c, .func (.func Z.K) #[] Z.caps] w0 (EachGives Z l n s0 rs') := by
 have hl : l.length = n * 64 := by have := hv.1; simpa using this
 have HL := hid hl
 clear hl
 replace hS := hS.pull hp
 clear hp
 by_cases h4 : 400 < n
 · have HE := hid (show blkE l n = 2 by unfold blkE; rw [if_pos h4])
   go_enter Tryd.func34, Tryd.ntmps34
   repeat' (first
    | (refine y91 ?_) | (refine y999 ?_) | (refine y988 ?_) | ((fail_if_success with_reducible refine ga9 ?_); go_step))
   go_ret
   exact each_no 2 HE.out (by decide) hS
 have HE := hid (show blkE l n = if allBlk l n then 0 else 1 by unfold blkE; rw [if_neg h4])
 go_enter Tryd.func34, Tryd.ntmps34
 repeat' (first
  | (refine y91 ?_) | (refine y999 ?_) | (refine y988 ?_) | ((fail_if_success with_reducible refine ga9 ?_); go_step))
 repeat' (first
  | ((fail_if_success with_reducible refine ga9 ?_); go_step))
 go_loopg [22] n (fun gk kv w => ∃ k : Nat, gk + k = n ∧ kv = .int .i64 k ∧ Hid (allBlk l k = true) ∧ St W w (Z.res s0 :: rs'))
 case atStart => exact ⟨0, rfl, rfl, hid rfl, hS⟩
 case round =>
  clear hS
  obtain ⟨k, hk, rfl, HA, hS⟩ := hrel
  by_cases hlt : k < n
  · have ls : Len (seg l 64 k) 64 := seg_len l 64 k n HL.out hlt
    obtain ⟨B, hB⟩ : ∃ B, blkIn (seg l 64 k) = B := ⟨_, rfl⟩
    have HB2 := hid hB
    have HT := hid (tokE_zero (seg l 64 k))
    cases B
    · have HF := hid (allBlk_not hlt HB2.out)
      have HT1 := hid (show tokE 0 (seg l 64 k) = 1 by rw [HT.out, hB]; rfl)
      clear hB HT
      repeat' (first
       | ((with_reducible refine gt9 _ (.call ⟨.value (.func 57), _, _⟩) ?_); refine wpl_call (f := 57) Tryd.call57 kr9 ?_; refine ⟨_, (tokens_e _ _ 0 1 _ HT1.out rfl ls), ?_⟩; rintro e w ⟨a5, m5, c5, hm5, rfl, hS2⟩; replace hS := hS.call1 hS2; clear hS2 hm5; refine ⟨_, rfl, ?_⟩; refine put_move ?_; go_step) | (refine y91 ?_) | (refine y990 ?_) | ((with_reducible refine gs9 24 ?_); (refine wpl_indexS (by with_reducible assumption) Tryd.underlying22 isz52 rfl rfl isn9 (by omega) rfl ?_; intro b24 o24 hl24 hc24; go_step)) | (refine y9105 ?_) | (refine y991 ?_) | (refine y9130 ?_) | ((with_reducible refine gs9 6 ?_); (refine wl9 ?_; apply wp_allocA (o := ⟨some 6, _, _, _, _, _⟩) hS 52 rfl (List.replicate 64 0) 64 List.length_replicate za52; clear hS; intro g6 w hS; refine put_move ?_; go_step)) | ((with_reducible refine gt9 _ (.store 52 _ _) ?_); (refine wl9 ?_; apply wp_storeA hS 52 _ _ rfl _ rfl 64 (row_of rfl) _ _; (case hp => exact pl9); (case hy => rfl); (case hm => (repeat (first | assumption | exact Len.rep | apply Len.set | ((with_reducible show Len (_ :: _) _); exact rfl)))); (case hd => exact rfl); clear hS; intro w hS)) | ((fail_if_success with_reducible refine ga9 ?_); go_step))
      all_goals (try (have hF : False := (by omega); cases hF))
      go_ret
      exact each_no 1 (by rw [HE.out, HF.out]; rfl) (by decide) (hS.sub sb9)
    · have HT1 := hid (show tokE 0 (seg l 64 k) = 0 by rw [HT.out, hB]; rfl)
      clear hB HT
      repeat' (first
       | ((with_reducible refine gt9 _ (.call ⟨.value (.func 57), _, _⟩) ?_); refine wpl_call (f := 57) Tryd.call57 kr9 ?_; refine ⟨_, (tokens_e _ _ 0 0 _ HT1.out rfl ls), ?_⟩; rintro e w ⟨a5, m5, c5, hm5, rfl, hS2⟩; replace hS := hS.call1 hS2; clear hS2 hm5; refine ⟨_, rfl, ?_⟩; refine put_move ?_; go_step) | (refine y91 ?_) | (refine y990 ?_) | ((with_reducible refine gs9 24 ?_); (refine wpl_indexS (by with_reducible assumption) Tryd.underlying22 isz52 rfl rfl isn9 (by omega) rfl ?_; intro b24 o24 hl24 hc24; go_step)) | (refine y9105 ?_) | (refine y991 ?_) | (refine y9130 ?_) | ((with_reducible refine gs9 6 ?_); (refine wl9 ?_; apply wp_allocA (o := ⟨some 6, _, _, _, _, _⟩) hS 52 rfl (List.replicate 64 0) 64 List.length_replicate za52; clear hS; intro g6 w hS; refine put_move ?_; go_step)) | ((with_reducible refine gt9 _ (.store 52 _ _) ?_); (refine wl9 ?_; apply wp_storeA hS 52 _ _ rfl _ rfl 64 (row_of rfl) _ _; (case hp => exact pl9); (case hy => rfl); (case hm => (repeat (first | assumption | exact Len.rep | apply Len.set | ((with_reducible show Len (_ :: _) _); exact rfl)))); (case hd => exact rfl); clear hS; intro w hS)) | ((fail_if_success with_reducible refine ga9 ?_); go_step))
      repeat' (first
       | (refine y9146 ?_) | (refine y985 ?_) | ((fail_if_success with_reducible refine ga9 ?_); go_step))
      all_goals (try (have hF : False := (by omega); cases hF))
      go_roundg (gk - 1)
      case measure => omega
      case rel => exact ⟨k + 1, by omega, by go_num, hid (by rw [allBlk_succ, HA.out, HB2.out]; rfl), hS.sub sb9⟩
  · obtain rfl : k = n := by omega
    have HE0 := hid (show blkE l k = 0 by rw [HE.out, HA.out]; rfl)
    repeat' (first
     | (refine y91 ?_) | (refine y990 ?_) | ((fail_if_success with_reducible refine ga9 ?_); go_step))
    repeat' (first
     | (refine y9146 ?_) | (refine y999 ?_) | ((fail_if_success with_reducible refine ga9 ?_); go_step))
    clear hk
    go_loopg [9, 37] k (fun gk bv kv w => ∃ (q : Nat) (s : σ), gk + q = k ∧ kv = .int .i64 q ∧ bv = .int .i64 (bef l q) ∧ Hid (Z.ok s (25600 - 64 * q)) ∧ Veil4 (ech Z.step (tfl l 0 k) s0 = ech Z.step (tfl l q (k - q)) s) ∧ St W w (Z.res s :: rs'))
    case atStart => exact ⟨0, s0, rfl, rfl, rfl, hid hok, ⟨rfl⟩, hS⟩
    case round =>
     clear hS hok
     obtain ⟨q, s, hq, rfl, rfl, HO, HV, hS⟩ := hrel
     by_cases hlt : q < k
     · have ls : Len (seg l 64 q) 64 := seg_len l 64 q k HL.out hlt
       obtain ⟨ht1, ht2⟩ := tkb_ok HL.out HA.out hlt
       have HT1 := hid ht1
       obtain ⟨p, hpb⟩ : ∃ p, bef l q = p := ⟨_, rfl⟩
       obtain ⟨T, hT⟩ : ∃ T, tkb l q = T := ⟨_, rfl⟩
       have HT2 := hid (show tokL p (seg l 64 q) = T by rw [← hT, ← hpb]; rfl)
       have HSY := hid (show ∀ t ∈ T, okT t by rw [← HT2.out]; exact tokL_okT ls)
       have hTl : T.length ≤ 64 := by rw [← HT2.out]; exact tokL_le ls
       have HV2 : Veil4 (ech Z.step (tfl l 0 k) s0 = ech Z.step ((mark T).drop 0 ++ tfl l (q + 1) (k - (q + 1))) s) := ⟨by rw [HV.out, show k - q = (k - (q + 1)) + 1 by omega, tfl, hT]; rfl⟩
       rw [hpb] at HT1
       have HPB := hid hpb
       rw [hpb]
       clear ht1 ht2 hT HV hpb
       repeat' (first
        | ((with_reducible refine gt9 _ (.call ⟨.value (.func 57), _, _⟩) ?_); refine wpl_call (f := 57) Tryd.call57 kr9 ?_; refine ⟨_, (tokens_e _ _ p 0 T HT1.out HT2.out ls), ?_⟩; rintro e w ⟨a5, m5, c5, hm5, rfl, hS2⟩; replace hS := hS.call1 hS2; clear hS2; refine ⟨_, rfl, ?_⟩; refine put_move ?_; go_step) | (refine y91 ?_) | (refine y990 ?_) | ((with_reducible refine gs9 39 ?_); (refine wpl_indexS (by with_reducible assumption) Tryd.underlying22 isz52 rfl rfl isn9 (by omega) rfl ?_; intro b39 o39 hl39 hc39; go_step)) | (refine y9105 ?_) | (refine y996 ?_) | (refine y9130 ?_) | ((with_reducible refine gs9 11 ?_); (refine wl9 ?_; apply wp_allocA (o := ⟨some 11, _, _, _, _, _⟩) hS 52 rfl (List.replicate 64 0) 64 List.length_replicate za52; clear hS; intro g11 w hS; refine put_move ?_; go_step)) | ((with_reducible refine gt9 _ (.store 52 _ _) ?_); (refine wl9 ?_; apply wp_storeA hS 52 _ _ rfl _ rfl 64 (row_of rfl) _ _; (case hp => exact pl9); (case hy => rfl); (case hm => (repeat (first | assumption | exact Len.rep | apply Len.set | ((with_reducible show Len (_ :: _) _); exact rfl)))); (case hd => exact rfl); clear hS; intro w hS)) | ((fail_if_success with_reducible refine ga9 ?_); go_step))
       obtain ⟨gk1, hgk1⟩ : ∃ x, x = gk := ⟨_, rfl⟩
       subst hgk1
       go_loopg [49] m5 (fun gk kv w => ∃ (i : Nat) (s : σ), gk + i = m5 ∧ kv = .int .i64 i ∧ Hid (Z.ok s (25600 - 64 * q - i)) ∧ Veil4 (ech Z.step (tfl l 0 k) s0 = ech Z.step ((mark T).drop i ++ tfl l (q + 1) (k - (q + 1))) s) ∧ St W w (Z.res s :: own 69 3 a5 m5 c5 ((flt T).map (Value.int .i64)) :: arr g11 64 (seg l 64 q) :: rs'))
       case atStart => exact ⟨0, s, rfl, rfl, HO, HV2, hS.sub sb9⟩
       case round =>
        clear hS HV2 HO
        obtain ⟨i, s, hi, rfl, HO, HV, hS⟩ := hrel
        by_cases hlt2 : i < m5
        · obtain ⟨b5, rfl⟩ := own_some (a := a5) hS pl9 (by omega)
          obtain ⟨⟨t0, t1, t2⟩, hx⟩ : ∃ x, T[i]? = some x := ⟨_, List.getElem?_eq_getElem (by omega)⟩
          have hseg := flt_get T i _ hx
          have HSX := hid (HSY.out _ (List.mem_of_getElem? hx))
          have hmk := mark_get hx
          dsimp only at hseg
          obtain ⟨⟨er, s'⟩, hst⟩ : ∃ y, Z.step s (t0, t1, t2) (decide (((i : Nat) : Int) = 0)) = y := ⟨_, rfl⟩
          obtain ⟨m, hm⟩ : ∃ m, 25600 - 64 * q - i = m + 1 := ⟨25600 - 64 * q - i - 1, by omega⟩
          have ho := HO.out
          rw [hm] at ho
          have HO1 := hid ho
          have HST := hid hst
          have hv2 := HV.out
          rw [hmk, List.cons_append, ech, show decide (i = 0) = decide (((i : Nat) : Int) = 0) from decide_eq_decide.2 (by omega)] at hv2
          dsimp only at hv2
          rw [hst] at hv2
          have HO2 : Hid (er = 0 → Z.ok s' m) := hid fun h => by
           have := Z.okS s m _ _ ho HSX.out (by rw [hst]; exact h)
           rw [hst] at this; exact this
          have HV2 : Veil4 (ech Z.step (tfl l 0 k) s0 = if er = 0 then ech Z.step ((mark T).drop (i + 1) ++ tfl l (q + 1) (k - (q + 1))) s' else (er, s')) := ⟨hv2⟩
          clear hx hmk hst ho hv2 HV HO
          by_cases her : er = 0
          · have HO3 := hid (HO2.out her)
            have HV3 : Veil4 (ech Z.step (tfl l 0 k) s0 = ech Z.step ((mark T).drop (i + 1) ++ tfl l (q + 1) (k - (q + 1))) s') := ⟨by rw [HV2.out, if_pos her]⟩
            clear HV2 HO2
            subst her
            repeat' (first
             | ((with_reducible refine gs9 58 ?_); refine wl9 ?_; refine wp_callV (f := Z.K) rfl rfl Z.inv (Z.call _ _ _ s m t0 t1 t2 (decide (((i : Nat) : Int) = 0)) 0 s' hS pl9 HO1.out HSX.out HST.out) ?_; clear hS; rintro e w ⟨rfl, hS⟩; refine ⟨_, rfl, ?_⟩; refine put_move ?_; go_step) | (refine y91 ?_) | (refine y990 ?_) | (refine y972 ?_) | (refine y986 ?_) | (refine y991 ?_) | (refine y9133 ?_) | ((with_reducible refine gs9 15 ?_); (refine wl9 ?_; apply wp_alloc (o := ⟨some 15, _, _, _, _, _⟩) hS 69 rfl (.agg #[.int .i64 0, .int .i64 0, .int .i64 0]) [.int .i64 0, .int .i64 0, .int .i64 0] (fun w => Tryd.zeroValue69 w) rfl; clear hS; intro g15 w hS; refine put_move ?_; go_step)) | ((with_reducible refine gt9 _ (.store 69 _ _) ?_); (refine wl9 ?_; apply wp_storeG hS 69 _ _ rfl _ rfl 3 (row_of rfl) _ _; (case hp => exact pl9); (case hy => rfl); (case hn => rfl); (case hn' => rfl); (case hv => rfl); (case hd => exact rfl); clear hS; intro w hS)) | ((fail_if_success with_reducible refine ga9 ?_); go_step))
            all_goals (try (have hF : False := (by omega); cases hF))
            repeat' (first
             | (refine y9146 ?_) | (refine y985 ?_) | ((fail_if_success with_reducible refine ga9 ?_); go_step))
            go_roundg (gk - 1)
            case measure => omega
            case rel => exact ⟨i + 1, s', by omega, by go_num, hid (by rw [show 25600 - 64 * q - (i + 1) = m by omega]; exact HO3.out), HV3, hS.sub sb9⟩
          · have HV3 : Veil4 (ech Z.step (tfl l 0 k) s0 = (er, s')) := ⟨by rw [HV2.out, if_neg her]⟩
            clear HV2 HO2
            repeat' (first
             | ((with_reducible refine gs9 58 ?_); refine wl9 ?_; refine wp_callV (f := Z.K) rfl rfl Z.inv (Z.call _ _ _ s m t0 t1 t2 (decide (((i : Nat) : Int) = 0)) er s' hS pl9 HO1.out HSX.out HST.out) ?_; clear hS; rintro e w ⟨rfl, hS⟩; refine ⟨_, rfl, ?_⟩; refine put_move ?_; go_step) | (refine y91 ?_) | (refine y990 ?_) | (refine y972 ?_) | (refine y986 ?_) | (refine y991 ?_) | (refine y9133 ?_) | ((with_reducible refine gs9 15 ?_); (refine wl9 ?_; apply wp_alloc (o := ⟨some 15, _, _, _, _, _⟩) hS 69 rfl (.agg #[.int .i64 0, .int .i64 0, .int .i64 0]) [.int .i64 0, .int .i64 0, .int .i64 0] (fun w => Tryd.zeroValue69 w) rfl; clear hS; intro g15 w hS; refine put_move ?_; go_step)) | ((with_reducible refine gt9 _ (.store 69 _ _) ?_); (refine wl9 ?_; apply wp_storeG hS 69 _ _ rfl _ rfl 3 (row_of rfl) _ _; (case hp => exact pl9); (case hy => rfl); (case hn => rfl); (case hn' => rfl); (case hv => rfl); (case hd => exact rfl); clear hS; intro w hS)) | ((fail_if_success with_reducible refine ga9 ?_); go_step))
            all_goals (try (have hF : False := (by omega); cases hF))
            go_ret
            exact each_yes er HE0.out HV3.out (hS.sub sb9)
        · obtain rfl : i = m5 := by omega
          have HB := hid (bef_succ l q)
          have HV3 : Veil4 (ech Z.step (tfl l 0 k) s0 = ech Z.step (tfl l (q + 1) (k - (q + 1))) s) := ⟨by rw [HV.out, List.drop_of_length_le (by rw [mark_len]; omega)]; rfl⟩
          have HO3 := hid (Z.okM _ _ (25600 - 64 * (q + 1)) HO.out (by omega))
          clear HV HO
          repeat' (first
           | (refine y990 ?_) | ((fail_if_success with_reducible refine ga9 ?_); go_step))
          repeat' (first
           | (refine y91 ?_) | (refine y982 ?_) | (refine y985 ?_) | (refine y9122 ?_) | ((fail_if_success with_reducible refine ga9 ?_); go_step))
          go_roundg (gk1 - 1)
          case measure => omega
          case rel => exact ⟨q + 1, s, by omega, by go_num, by rw [HB.out], HO3, HV3, hS.sub sb9⟩
     · obtain rfl : q = k := by omega
       have HV3 : Veil4 (ech Z.step (tfl l 0 q) s0 = (0, s)) := ⟨by rw [HV.out, Nat.sub_self]; rfl⟩
       clear HV
       repeat' (first
        | (refine y92 ?_) | (refine y990 ?_) | ((fail_if_success with_reducible refine ga9 ?_); go_step))
       repeat' (first
        | ((fail_if_success with_reducible refine ga9 ?_); go_step))
       go_ret
       exact each_yes 0 HE0.out HV3.out hS

end Go.Proofs.YtehbjhocgnfpmaaDoor
/- The walks of the writer's Bytes and of bits.Write. -/
namespace Go.Proofs.YtehbjhocgnfpmaaDoor
set_option maxRecDepth 100000
open Go.RowKit
def GivesSl (T : TypeId) (s : Nat) (W : World) (rs : List Res) (n : Nat) (xs : List Value) (e : Ending) (w' : World) : Prop := ∃ ad c, e = .returned (.slice ad n c) ∧ St W w' (own T s ad n c xs :: rs)
theorem ones_pad (bs : List Bool) (h : 0 < bs.length % 8) : bitsOf (8 - bs.length % 8) (2 ^ (8 - bs.length % 8) - 1) = padding bs := by
 unfold padding
 rw [Nat.mod_eq_of_lt (show 8 - bs.length % 8 < 8 by omega)]
 generalize 8 - bs.length % 8 = k
 apply List.ext_getElem?
 intro i
 by_cases hi : i < k
 · rw [bitsOf_get _ _ _ hi, List.getElem?_replicate, if_pos hi]
   congr 1
   have h1 : 2 ^ k = 2 ^ (k - 1 - i) * 2 ^ (i + 1) := by rw [← Nat.pow_add]; congr 1; omega
   have h2 : (2 ^ k - 1) / 2 ^ (k - 1 - i) = 2 ^ (i + 1) - 1 := by
    rw [h1]
    have hp : 0 < 2 ^ (k - 1 - i) := Nat.two_pow_pos _
    have hq : 0 < 2 ^ (i + 1) := Nat.two_pow_pos _
    generalize 2 ^ (k - 1 - i) = p at hp
    generalize 2 ^ (i + 1) = q at hq
    obtain ⟨q', rfl⟩ : ∃ q', q = q' + 1 := ⟨q - 1, by omega⟩
    rw [Nat.mul_succ, Nat.add_sub_assoc (by omega), Nat.mul_add_div hp, Nat.div_eq_of_lt (by omega)]
    omega
   rw [h2, Nat.pow_succ]
   have : 0 < 2 ^ i := Nat.two_pow_pos _
   have h3 : (2 ^ i * 2 - 1) % 2 = 1 := by omega
   rw [h3]; rfl
 · rw [List.getElem?_eq_none (by rw [bitsOf_len]; omega), List.getElem?_eq_none (by simp; omega)]
set_option maxHeartbeats 1000000 in
theorem bytes_any (W w : World) (rs rs' : List Res) (g : Nat) (bs : List Bool) (hS : St W w rs) (hp : Pull (wr g bs) rs rs') (hb : bs.length ≤ 1000000000000) :
 Calls Tryd.prog 42 #[.pointer (some ⟨g, 0, none⟩)] w (GivesSl 5 1 W rs' ((bs.length + 7) / 8) (bv (bytesOf bs))) := by
 obtain ⟨⟨ad, c⟩, hS⟩ := (hS.pull hp).open
 dsimp only [List.cons_append, List.nil_append] at hS
 generalize hM : bs.length % 8 = M at *
 by_cases h0 : M = 0
 · subst h0
   go_enter Tryd.func42, Tryd.ntmps42
   go_wp2_with (first
    | ((with_reducible refine gt9 _ (.load 3 _) ?_); first | (refine wpl rfl (wp_load1A hS 3 _ rfl _ _ rfl (one_of rfl) _ _ pl9 (by omega) ?_); refine wpl_put (by (simp only [Act.put, List.setIfInBounds_toArray, List.set_cons_zero, List.set_cons_succ]); exact rfl) ?_) | (refine wpl rfl (wp_load1 hS 3 _ rfl _ _ rfl (one_of rfl) _ pl9 _ (by rfl) ?_); refine wpl_put (by (simp only [Act.put, List.setIfInBounds_toArray, List.set_cons_zero, List.set_cons_succ]); exact rfl) ?_) | (refine wpl rfl (wp_load1O hS 3 _ rfl _ _ rfl (one_of rfl) _ _ _ _ _ pl9 _ (by with_reducible assumption) ?_); refine wpl_put (by (simp only [Act.put, List.setIfInBounds_toArray, List.set_cons_zero, List.set_cons_succ]); exact rfl) ?_) | (refine wpl rfl (wp_loadW hS 3 _ rfl _ rfl (one_of rfl) _ (by with_reducible assumption) ?_); refine wpl_put (by (simp only [Act.put, List.setIfInBounds_toArray, List.set_cons_zero, List.set_cons_succ]); exact rfl) ?_)) | ((with_reducible refine gt9 _ (.load 34 _) ?_); first | (refine wpl rfl (wp_load1 hS 34 _ rfl _ _ rfl (one_of rfl) _ pl9 _ (by rfl) ?_); refine wpl_put (by (simp only [Act.put, List.setIfInBounds_toArray, List.set_cons_zero, List.set_cons_succ]); exact rfl) ?_) | (refine wpl rfl (wp_load1O hS 34 _ rfl _ _ rfl (one_of rfl) _ _ _ _ _ pl9 _ (by with_reducible assumption) ?_); refine wpl_put (by (simp only [Act.put, List.setIfInBounds_toArray, List.set_cons_zero, List.set_cons_succ]); exact rfl) ?_) | (refine wpl rfl (wp_loadW hS 34 _ rfl _ rfl (one_of rfl) _ (by with_reducible assumption) ?_); refine wpl_put (by (simp only [Act.put, List.setIfInBounds_toArray, List.set_cons_zero, List.set_cons_succ]); exact rfl) ?_))
     | (first | refine stop_load ?_ | refine stop_store ?_ | refine stop_alloc ?_ | refine stop_box ?_))
   go_ret
   have h1 : (bs.length + 7) / 8 = bs.length / 8 := by omega
   have h2 : bytesOf bs = packs (bs.length / 8) bs := by
    unfold bytesOf padding
    rw [hM, h1]; simp
   rw [h1, h2]
   exact ⟨ad, c, rfl, hS.sub sb9⟩
 · have hM8 : M < 8 := by omega
   have hpos : (0 : Int) < (M : Int) := by omega
   have HM := hid hM
   clear hM h0
   obtain ⟨k, hk⟩ : ∃ k, k = 8 - M := ⟨_, rfl⟩
   have hk8 : k ≤ 7 := by omega
   have e1 : IntKind.i64.wrap (8 - (M : Int)) = (k : Int) := by simp [IntKind.wrap, IntKind.signed, IntKind.bits]; omega
   have e2 : (0 : Int) ≤ (k : Int) := by omega
   have hk64 : (k : Int) < 64 := by omega
   have HK := hid hk
   clear hk
   have HC := hid (fun (w : World) (hS : St W w (blk g [.slice ad (bs.length / 8) c, .int .u64 (num (bs.drop (8 * (bs.length / 8))) : Nat), .int .i64 (M : Nat)] :: own 5 1 ad (bs.length / 8) c (bv (packs (bs.length / 8) bs)) :: rs')) =>
    (St.close (ad, c) (by simp only [List.cons_append, List.nil_append]; rw [HM.out]; exact hS) : St W w (wr g bs :: rs')))
   have HV := hid (show 2 ^ k - 1 < 2 ^ k by have := Nat.two_pow_pos k; omega)
   have HP := hid (show bitsOf k (2 ^ k - 1) = padding bs by
    have := ones_pad bs (by rw [HM.out]; omega)
    rwa [HM.out, ← HK.out] at this)
   have HW := hid (show wrap64 (wrap64 ((2 : Int) ^ k) - 1) = ((2 ^ k - 1 : Nat) : Int) by
    have h1 : 2 ^ k ≤ 2 ^ 7 := Nat.pow_le_pow_right (by omega) hk8
    have h0 := Nat.two_pow_pos k
    rw [show (2 : Int) ^ k = ((2 ^ k : Nat) : Int) by push_cast; rfl]
    generalize 2 ^ k = x at h1 h0
    unfold wrap64
    omega)
   go_enter Tryd.func42, Tryd.ntmps42
   go_wp2_with (first
    | ((with_reducible refine gt9 _ (.load 3 _) ?_); first | (refine wpl rfl (wp_load1A hS 3 _ rfl _ _ rfl (one_of rfl) _ _ pl9 (by omega) ?_); refine wpl_put (by (simp only [Act.put, List.setIfInBounds_toArray, List.set_cons_zero, List.set_cons_succ]); exact rfl) ?_) | (refine wpl rfl (wp_load1 hS 3 _ rfl _ _ rfl (one_of rfl) _ pl9 _ (by rfl) ?_); refine wpl_put (by (simp only [Act.put, List.setIfInBounds_toArray, List.set_cons_zero, List.set_cons_succ]); exact rfl) ?_) | (refine wpl rfl (wp_load1O hS 3 _ rfl _ _ rfl (one_of rfl) _ _ _ _ _ pl9 _ (by with_reducible assumption) ?_); refine wpl_put (by (simp only [Act.put, List.setIfInBounds_toArray, List.set_cons_zero, List.set_cons_succ]); exact rfl) ?_) | (refine wpl rfl (wp_loadW hS 3 _ rfl _ rfl (one_of rfl) _ (by with_reducible assumption) ?_); refine wpl_put (by (simp only [Act.put, List.setIfInBounds_toArray, List.set_cons_zero, List.set_cons_succ]); exact rfl) ?_)) | ((with_reducible refine gt9 _ (.load 34 _) ?_); first | (refine wpl rfl (wp_load1 hS 34 _ rfl _ _ rfl (one_of rfl) _ pl9 _ (by rfl) ?_); refine wpl_put (by (simp only [Act.put, List.setIfInBounds_toArray, List.set_cons_zero, List.set_cons_succ]); exact rfl) ?_) | (refine wpl rfl (wp_load1O hS 34 _ rfl _ _ rfl (one_of rfl) _ _ _ _ _ pl9 _ (by with_reducible assumption) ?_); refine wpl_put (by (simp only [Act.put, List.setIfInBounds_toArray, List.set_cons_zero, List.set_cons_succ]); exact rfl) ?_) | (refine wpl rfl (wp_loadW hS 34 _ rfl _ rfl (one_of rfl) _ (by with_reducible assumption) ?_); refine wpl_put (by (simp only [Act.put, List.setIfInBounds_toArray, List.set_cons_zero, List.set_cons_succ]); exact rfl) ?_))
     | (first | refine stop_load ?_ | refine stop_store ?_ | refine stop_alloc ?_ | refine stop_box ?_))
   refine drawn_lit [13] (fun w => St W w [blk g [.slice ad (bs.length / 8) c, .int .u64 (num (bs.drop (8 * (bs.length / 8))) : Nat), .int .i64 (M : Nat)]]) kr9 ?_
   replace hS := hS.drew
   apply takeP 0 al9 kr9 kr9 kr9 (fun _ _ _ _ h => h)
   case hfr => intro w; go_wp2_with fail; exact ⟨rfl, rfl⟩
   case hd => rfl
   apply takeP 1 al9 kr9 kr9 kr9 (fun _ _ _ _ h => h)
   case hfr => intro w; go_wp2_with fail; exact ⟨rfl, rfl⟩
   case hd => rfl
   apply takeP 2 al9 kr9 kr9 kr9 (fun _ _ _ _ h => h)
   case hfr => intro w; go_wp2_with fail; exact ⟨rfl, rfl⟩
   case hd => rfl
   apply takeP 3 al9 kr9 kr9 kr9 (fun _ _ _ _ h => h)
   case hfr => intro w; go_wp2_with fail; exact ⟨rfl, rfl⟩
   case hd => rfl
   apply takeS 4 al9 kr9 kr9 kr9 (fun _ _ _ _ h => h) [5, 13] kr9 (hS.sub sb9)
   case hfr => intro w hS; go_wp2_with (first | (refine wpl rfl (wp_load1A hS 3 _ rfl _ _ rfl (one_of rfl) _ _ pl9 (by omega) ?_); refine wpl_put (by (simp only [Act.put, List.setIfInBounds_toArray, List.set_cons_zero, List.set_cons_succ]); exact rfl) ?_) | (refine wpl rfl (wp_load1 hS 3 _ rfl _ _ rfl (one_of rfl) _ pl9 _ (by rfl) ?_); refine wpl_put (by (simp only [Act.put, List.setIfInBounds_toArray, List.set_cons_zero, List.set_cons_succ]); exact rfl) ?_) | (refine wpl rfl (wp_load1O hS 3 _ rfl _ _ rfl (one_of rfl) _ _ _ _ _ pl9 _ (by with_reducible assumption) ?_); refine wpl_put (by (simp only [Act.put, List.setIfInBounds_toArray, List.set_cons_zero, List.set_cons_succ]); exact rfl) ?_) | (refine wpl rfl (wp_loadW hS 3 _ rfl _ rfl (one_of rfl) _ (by with_reducible assumption) ?_); refine wpl_put (by (simp only [Act.put, List.setIfInBounds_toArray, List.set_cons_zero, List.set_cons_succ]); exact rfl) ?_)); exact ⟨rfl, rfl⟩
   case hd => rfl
   apply takeP 5 al9 kr9 kr9 kr9 (fun _ _ _ _ h => h)
   case hfr => intro w; go_wp2_with fail; exact ⟨rfl, rfl⟩
   case hd => rfl
   apply takeP 6 al9 kr9 kr9 kr9 (fun _ _ _ _ h => h)
   case hfr => intro w; go_wp2_with fail; exact ⟨rfl, rfl⟩
   case hd => rfl
   apply takeP 7 al9 kr9 kr9 kr9 (fun _ _ _ _ h => h)
   case hfr => intro w; go_wp2_with fail; exact ⟨rfl, rfl⟩
   case hd => rfl
   apply takeP 8 al9 kr9 kr9 kr9 (fun _ _ _ _ h => h)
   case hfr => intro w; go_wp2_with fail; exact ⟨rfl, rfl⟩
   case hd => rfl
   apply takeS 9 al9 kr9 kr9 kr9 (fun _ _ _ _ h => h) [10, 11, 12, 13] kr9 (hS.sub sb9)
   case hfr => intro w hS; go_wp2_with (first | (refine wpl rfl (wp_load1A hS 3 _ rfl _ _ rfl (one_of rfl) _ _ pl9 (by omega) ?_); refine wpl_put (by (simp only [Act.put, List.setIfInBounds_toArray, List.set_cons_zero, List.set_cons_succ]); exact rfl) ?_) | (refine wpl rfl (wp_load1 hS 3 _ rfl _ _ rfl (one_of rfl) _ pl9 _ (by rfl) ?_); refine wpl_put (by (simp only [Act.put, List.setIfInBounds_toArray, List.set_cons_zero, List.set_cons_succ]); exact rfl) ?_) | (refine wpl rfl (wp_load1O hS 3 _ rfl _ _ rfl (one_of rfl) _ _ _ _ _ pl9 _ (by with_reducible assumption) ?_); refine wpl_put (by (simp only [Act.put, List.setIfInBounds_toArray, List.set_cons_zero, List.set_cons_succ]); exact rfl) ?_) | (refine wpl rfl (wp_loadW hS 3 _ rfl _ rfl (one_of rfl) _ (by with_reducible assumption) ?_); refine wpl_put (by (simp only [Act.put, List.setIfInBounds_toArray, List.set_cons_zero, List.set_cons_succ]); exact rfl) ?_)); exact ⟨rfl, rfl⟩
   case hd => rfl
   apply takeP 10 al9 kr9 kr9 kr9 (fun _ _ _ _ h => h)
   case hfr => intro w; go_wp2_with fail; exact ⟨rfl, rfl⟩
   case hd => rfl
   apply takeP 11 al9 kr9 kr9 kr9 (fun _ _ _ _ h => h)
   case hfr => intro w; go_wp2_with fail; exact ⟨rfl, rfl⟩
   case hd => rfl
   apply takeP 12 al9 kr9 kr9 kr9 (fun _ _ _ _ h => h)
   case hfr => intro w; go_wp2_with fail; exact ⟨rfl, rfl⟩
   case hd => rfl
   refine branch1 13 al9 rfl kr9 ?_
   rw [HW.out]; refine wp_callF (f := 41) rfl Tryd.call41 (put_any W _ _ _ g bs k (2 ^ k - 1) (HC.out _ hS) Pull.head (by omega) HV.out (by omega)) ?_; clear hS; rintro e w ⟨rfl, hS⟩; refine ⟨_, rfl, ?_⟩
   refine ⟨fun h => absurd (by decide) h, ?_⟩
   refine drawn_put (by (simp only [Act.put, List.setIfInBounds_toArray, List.set_cons_zero, List.set_cons_succ]); exact rfl) ?_
   refine drawn_done kr9 ?_ _
   obtain ⟨⟨ad2, c2⟩, hS⟩ := hS.open
   rw [HP.out] at hS
   have HL := hid (show (bs ++ padding bs).length / 8 = (bs.length + 7) / 8 by rw [padding_len]; omega)
   simp only [List.cons_append, List.nil_append, HL.out] at hS
   go_wp2_with (first
    | ((with_reducible refine gt9 _ (.load 3 _) ?_); first | (refine wpl rfl (wp_load1A hS 3 _ rfl _ _ rfl (one_of rfl) _ _ pl9 (by omega) ?_); refine wpl_put (by (simp only [Act.put, List.setIfInBounds_toArray, List.set_cons_zero, List.set_cons_succ]); exact rfl) ?_) | (refine wpl rfl (wp_load1 hS 3 _ rfl _ _ rfl (one_of rfl) _ pl9 _ (by rfl) ?_); refine wpl_put (by (simp only [Act.put, List.setIfInBounds_toArray, List.set_cons_zero, List.set_cons_succ]); exact rfl) ?_) | (refine wpl rfl (wp_load1O hS 3 _ rfl _ _ rfl (one_of rfl) _ _ _ _ _ pl9 _ (by with_reducible assumption) ?_); refine wpl_put (by (simp only [Act.put, List.setIfInBounds_toArray, List.set_cons_zero, List.set_cons_succ]); exact rfl) ?_) | (refine wpl rfl (wp_loadW hS 3 _ rfl _ rfl (one_of rfl) _ (by with_reducible assumption) ?_); refine wpl_put (by (simp only [Act.put, List.setIfInBounds_toArray, List.set_cons_zero, List.set_cons_succ]); exact rfl) ?_)) | ((with_reducible refine gt9 _ (.load 34 _) ?_); first | (refine wpl rfl (wp_load1 hS 34 _ rfl _ _ rfl (one_of rfl) _ pl9 _ (by rfl) ?_); refine wpl_put (by (simp only [Act.put, List.setIfInBounds_toArray, List.set_cons_zero, List.set_cons_succ]); exact rfl) ?_) | (refine wpl rfl (wp_load1O hS 34 _ rfl _ _ rfl (one_of rfl) _ _ _ _ _ pl9 _ (by with_reducible assumption) ?_); refine wpl_put (by (simp only [Act.put, List.setIfInBounds_toArray, List.set_cons_zero, List.set_cons_succ]); exact rfl) ?_) | (refine wpl rfl (wp_loadW hS 34 _ rfl _ rfl (one_of rfl) _ (by with_reducible assumption) ?_); refine wpl_put (by (simp only [Act.put, List.setIfInBounds_toArray, List.set_cons_zero, List.set_cons_succ]); exact rfl) ?_))
     | (first | refine stop_load ?_ | refine stop_store ?_ | refine stop_alloc ?_ | refine stop_box ?_))
   go_ret
   refine ⟨ad2, c2, rfl, ?_⟩
   unfold bytesOf
   exact hS.sub sb9
theorem wr_new {W w : World} {g : Nat} {rs : List Res} (h : St W w (blk g [.slice none 0 0, .int .u64 0, .int .i64 0] :: rs)) : St W w (wr g [] :: rs) :=
 St.close (none, 0) ((h.nil 5 1).pull (.tail .head))

set_option maxRecDepth 100000
open Go.RowKit
set_option linter.unusedVariables false
theorem symW_iff {C S : List Int} (h : tabE C S = 0) (s : Int) : (symW (wds C S) s).isSome = true ↔ s ∈ S := by
 constructor
 · intro hs
   obtain ⟨y, hy⟩ := Option.isSome_iff_exists.1 hs
   exact (wds_mem C S _ (symW_mem hy)).1
 · intro hs
   obtain ⟨i, hi, rfl⟩ := List.getElem_of_mem hs
   obtain ⟨y, _, e⟩ := wds_get C S (tabE_ok h).2.1 i hi
   have hm := List.mem_of_getElem? e
   have hn : nth S i = S[i] := by simp [nth, List.getD, hi]
   have := (wds_good h).symW hm
   dsimp only at this
   rw [← hn, this]; rfl
theorem wb_len {L : List (Int × Nat × Nat)} (h : Good L) (s : Int) : (wb L s).length ≤ 16 := by
 unfold wb
 cases hs : symW L s with
 | none => simp
 | some y =>
  have := h.long _ (symW_mem hs)
  dsimp only at this ⊢
  rw [bitsOf_len]; omega

end Go.Proofs.YtehbjhocgnfpmaaDoor
/- Things of the call's own, as one thing. -/
namespace Go.Proofs.YtehbjhocgnfpmaaDoor
open Go.RowKit
set_option linter.unusedVariables false
def star (rs : List Res) : Res := bag fun _ : Unit => rs
theorem St.star0 {W w : World} {rs : List Res} (h : St W w rs) : St W w (Go.Proofs.YtehbjhocgnfpmaaDoor.star [] :: rs) := St.close () h
theorem St.starPut {W w : World} {r : Res} {ss rs rs' : List Res} (h : St W w (Go.Proofs.YtehbjhocgnfpmaaDoor.star ss :: rs)) (p : Pull r rs rs') : St W w (Go.Proofs.YtehbjhocgnfpmaaDoor.star (ss ++ [r]) :: rs') := by
 have h1 : St W w (r :: Go.Proofs.YtehbjhocgnfpmaaDoor.star ss :: rs') := h.pull (.tail p)
 obtain ⟨_, h2⟩ := (h1.pull (.tail .head)).open
 refine St.close () ?_
 have h3 : St W w (ss ++ (r :: rs')) := h2
 simpa using h3
theorem Pull.mem {r : Res} : ∀ {ss : List Res} (rs : List Res), r ∈ ss → ∃ ss', Pull r (ss ++ rs) ss'
 | [], _, h => by cases h
 | x :: ss, rs, h => by
  by_cases hx : r = x
  · subst hx; exact ⟨_, .head⟩
  · obtain ⟨s, hs⟩ := Pull.mem (ss := ss) rs ((List.mem_cons.1 h).resolve_left hx); exact ⟨x :: s, .tail hs⟩
theorem St.starGet {W w : World} {ss rs rs' : List Res} (h : St W w rs) (p : Pull (Go.Proofs.YtehbjhocgnfpmaaDoor.star ss) rs rs') {r : Res} (hr : r ∈ ss) : ∃ rs'', St W w (r :: rs'') := by
 obtain ⟨_, h2⟩ := (h.pull p).open
 obtain ⟨s, hs⟩ := Pull.mem rs' hr
 exact ⟨s, h2.pull hs⟩
theorem own_nil {W w : World} {rs rs' : List Res} {e : TypeId} {s n c : Nat} {ad : Option Addr} {cs : List Value} (hS : St W w rs) (hp : Pull (own e s ad n c cs) rs rs') (h : ad = none) : c = 0 := by
 rcases (hS.own hp).2 with ⟨h1, _⟩ | ⟨g, cap, cur, h1, _⟩
 · cases h1; rfl
 · subst h; cases h1

section
variable {P : Program} {W w : World} {rs rs' : List Res} {Q : Exit → Act → World → Prop} {K : Act → World → Prop} {o : Oper} {a : Act}
theorem wp_copyO (hS : St W w rs) (d x : Operand) (tT : TypeId) (ho : o.op = .call { callee := .builtin .copy, args := #[d, x], argTypes := #[tT, tT] }) (e b : TypeId) (el : ElemT P tT e 1 b) (g q n c : Nat) (cs : List Value) (hd : a.eval d = .slice (cutAt (some ⟨g, 0, none⟩) c q 1) (n - q) (c - q)) (hp : Pull (own e 1 (some ⟨g, 0, none⟩) n c cs) rs rs')
 (v : Value) (hx : a.eval x = v) (m : Nat) (news : List Value) (hm : Sl w 1 v m news) (hq : q + m ≤ n) (h1 : ∀ u ∈ news, u.oneCell' = true)
 (h : ∀ w', St W w' (own e 1 (some ⟨g, 0, none⟩) n c (cs.take q ++ news ++ cs.drop (q + m)) :: rs') → K (a.put o.dst (.int .i64 m)) w') : o.wp P a w K Q := by
 obtain ⟨ht, ⟨i, z, hi, hz, hsz, hby, hzs⟩, hpos⟩ := el
 have hs1 : (P.info? e).map (·.size) = some 1 := by rw [hi]; simp [hsz]
 have hown := hS.own hp
 obtain ⟨hl, aa, cc, rfl, hmc, hcm, hor⟩ := hm
 have hlm : news.length = m := by simpa using hl
 by_cases hm0 : m = 0
 · subst hm0
   have hnil : news = [] := List.eq_nil_of_length_eq_zero hlm
   subst hnil
   have hr := run_copy_none (P := P) w tT tT o.type e (cutAt (some ⟨g, 0, none⟩) c q 1) aa (n - q) (c - q) 0 cc ht hs1 (Nat.zero_min _)
   have hk := h w (by
    have e1 : cs.take q ++ [] ++ cs.drop (q + 0) = cs := by simp
    rw [e1]; exact hS.pull hp)
   unfold Oper.wp execOp
   simp only [ho, resolve, invoke, builtin, Sem.run_bind, Sem.run_pure, Result.andThen_ok, List.map_toArray, List.map_cons, List.map_nil, hd, hx, hr]
   exact hk
 · rcases hor with h0 | ⟨bb, off, rfl, hcells⟩
   · exact absurd h0 hm0
   · rcases hown.2 with ⟨h2, _⟩ | ⟨g', cap, cur, h2, _, hg, hnc, hcm2, hcs, htake⟩
     · cases h2
     · cases h2
       have hcq : ¬ (c = q) := by omega
       have hd2 : a.eval d = .slice (some ⟨g, q, none⟩) (n - q) (c - q) := by
        rw [hd, cutAt, if_neg hcq]
        simp only [Option.map_some, Addr.add_mid, Nat.zero_add, Nat.mul_one]
       have hsrc : ∀ j u, news[j]? = some u → w.cell? ((⟨bb, off, none⟩ : Addr).add j) = some u := fun j u hu => by
        have hj : j < m * 1 := by rw [← hl]; exact (List.getElem?_eq_some_iff.1 hu).1
        rw [Addr.add_mid, hcells j hj, hu]
       have hr := run_copy_row (P := P) w tT tT o.type e g q (n - q) (c - q) ⟨bb, off, none⟩ m cc cur e news ht hs1 hg (by rw [hlm]; exact (Nat.min_eq_left (by omega)).symm) hsrc (by rw [hlm, hcs]; omega) h1
       have hxl : cs.length = n := by have := hown.1; simpa using this
       have htl : cur.toList.take n = cs := by have := htake; rwa [Nat.mul_one] at this
       have hcl : cur.toList.length = c := by rw [Array.length_toList, hcs, Nat.mul_one]
       have hnew : (cur.toList.take q ++ news ++ cur.toList.drop (q + m)).take n = cs.take q ++ news ++ cs.drop (q + m) := by
        have a1 : cur.toList.take q = cs.take q := by rw [← htl, List.take_take, Nat.min_eq_left (by omega)]
        have a2 : (cur.toList.drop (q + m)).take (n - (q + m)) = cs.drop (q + m) := by rw [← htl, List.drop_take]
        have a3 : (cur.toList.take q ++ news).length = q + m := by rw [List.length_append, hlm, List.length_take, hcl]; omega
        rw [List.take_append, List.take_of_length_le (by omega), a3, a2, a1]
       have hst : St W (w.setRow g (cur.toList.take q ++ news ++ cur.toList.drop (q + news.length)).toArray) ([own e 1 (some ⟨g, 0, none⟩) n c (cs.take q ++ news ++ cs.drop (q + m))] ++ rs') := by
        refine St.change (hS.pull hp) fun f1 k1 hf1 hn1 => ?_
        obtain ⟨rfl, k1⟩ := k1
        refine ⟨[g], ⟨[g], [], by simp, ⟨rfl, ?_, .inr ⟨g, c, _, rfl, Nat.zero_le _, setRow_heap w g cur _ e _ hg, hnc, hcm2, ?_, ?_⟩⟩, rfl⟩, by simp, fun b hb => .inl hb, Only.setRow w g _⟩
        · simp only [List.length_append, List.length_take, List.length_drop, hlm, hxl]; omega
        · simp only [List.size_toArray, List.length_append, List.length_take, List.length_drop, hlm, hcl]; omega
        · rw [hlm, Nat.mul_one]; simpa using hnew
       have hk := h _ hst
       unfold Oper.wp execOp
       simp only [ho, resolve, invoke, builtin, Sem.run_bind, Sem.run_pure, Result.andThen_ok, List.map_toArray, List.map_cons, List.map_nil, hd2, hx, hr, hlm]
       rw [hlm] at hk
       exact hk
end

end Go.Proofs.YtehbjhocgnfpmaaDoor