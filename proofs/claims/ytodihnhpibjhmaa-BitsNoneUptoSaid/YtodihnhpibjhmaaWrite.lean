/- The walks of the writer's Bytes and of bits.Write. -/
import Derived.Test.YtodihnhpibjhmaaWr
namespace Go.Proofs.Ytodihnhpibjhmaa
open Go.RowKit
/-- The call hands out a slice of its own. -/
def GivesSl (T : TypeId) (s : Nat) (W : World) (rs : List Res) (n : Nat) (xs : List Value) (e : Ending) (w' : World) : Prop := ∃ ad c, e = .returned (.slice ad n c) ∧ St W w' (own T s ad n c xs :: rs)
theorem ones_pad (bs : List Bool) (h : 0 < bs.length % 8) : bitsOf (8 - bs.length % 8) (2 ^ (8 - bs.length % 8) - 1) = padding bs := by
  unfold padding
  rw [Nat.mod_eq_of_lt (show 8 - bs.length % 8 < 8 by omega)]
  generalize 8 - bs.length % 8 = k
  apply List.ext_getElem?
  intro i
  by_cases hi : i < k
  · rw [bitsOf_get _ _ _ hi, List.getElem?_replicate, if_pos hi]
    congr 1
    have h1 : 2 ^ k = 2 ^ (k - 1 - i) * 2 ^ (i + 1) := by rw [← Nat.pow_add]; congr 1; omega
    have h2 : (2 ^ k - 1) / 2 ^ (k - 1 - i) = 2 ^ (i + 1) - 1 := by
      rw [h1]
      have hp : 0 < 2 ^ (k - 1 - i) := Nat.two_pow_pos _
      have hq : 0 < 2 ^ (i + 1) := Nat.two_pow_pos _
      generalize 2 ^ (k - 1 - i) = p at hp
      generalize 2 ^ (i + 1) = q at hq
      obtain ⟨q', rfl⟩ : ∃ q', q = q' + 1 := ⟨q - 1, by omega⟩
      rw [Nat.mul_succ, Nat.add_sub_assoc (by omega), Nat.mul_add_div hp, Nat.div_eq_of_lt (by omega)]
      omega
    rw [h2, Nat.pow_succ]
    have : 0 < 2 ^ i := Nat.two_pow_pos _
    have h3 : (2 ^ i * 2 - 1) % 2 = 1 := by omega
    rw [h3]; rfl
  · rw [List.getElem?_eq_none (by rw [bitsOf_len]; omega), List.getElem?_eq_none (by simp; omega)]
set_option maxHeartbeats 1000000 in
theorem bytes_any (W w : World) (rs rs' : List Res) (g : Nat) (bs : List Bool) (hS : St W w rs) (hp : Pull (wr g bs) rs rs') (hb : bs.length ≤ 1000000000000) :
    Calls Try.prog 35 #[.pointer (some ⟨g, 0, none⟩)] w (GivesSl 5 1 W rs' ((bs.length + 7) / 8) (bv (bytesOf bs))) := by
  obtain ⟨⟨ad, c⟩, hS⟩ := (hS.pull hp).open
  dsimp only [List.cons_append, List.nil_append] at hS
  generalize hM : bs.length % 8 = M at *
  by_cases h0 : M = 0
  · subst h0
    go_enter Try.func35, Try.ntmps35
    go_wp2_with (first
      | ((with_reducible show wpList _ _ _ (⟨_, .load 3 _, _, _, _, _⟩ :: _) _ _); first | (refine wpl rfl (wp_load1A hS 3 _ rfl _ _ rfl (one_of rfl) _ _ (by (repeat (first | with_reducible exact Pull.head | apply Pull.tail))) (by omega) ?_); refine wpl_put (by (simp only [Act.put, List.setIfInBounds_toArray, List.set_cons_zero, List.set_cons_succ]); exact rfl) ?_) | (refine wpl rfl (wp_load1 hS 3 _ rfl _ _ rfl (one_of rfl) _ (by (repeat (first | with_reducible exact Pull.head | apply Pull.tail))) _ (by rfl) ?_); refine wpl_put (by (simp only [Act.put, List.setIfInBounds_toArray, List.set_cons_zero, List.set_cons_succ]); exact rfl) ?_) | (refine wpl rfl (wp_load1O hS 3 _ rfl _ _ rfl (one_of rfl) _ _ _ _ _ (by (repeat (first | with_reducible exact Pull.head | apply Pull.tail))) _ (by with_reducible assumption) ?_); refine wpl_put (by (simp only [Act.put, List.setIfInBounds_toArray, List.set_cons_zero, List.set_cons_succ]); exact rfl) ?_) | (refine wpl rfl (wp_loadW hS 3 _ rfl _ rfl (one_of rfl) _ (by with_reducible assumption) ?_); refine wpl_put (by (simp only [Act.put, List.setIfInBounds_toArray, List.set_cons_zero, List.set_cons_succ]); exact rfl) ?_))
      | ((with_reducible show wpList _ _ _ (⟨_, .load 35 _, _, _, _, _⟩ :: _) _ _); first | (refine wpl rfl (wp_load1 hS 35 _ rfl _ _ rfl (one_of rfl) _ (by (repeat (first | with_reducible exact Pull.head | apply Pull.tail))) _ (by rfl) ?_); refine wpl_put (by (simp only [Act.put, List.setIfInBounds_toArray, List.set_cons_zero, List.set_cons_succ]); exact rfl) ?_) | (refine wpl rfl (wp_load1O hS 35 _ rfl _ _ rfl (one_of rfl) _ _ _ _ _ (by (repeat (first | with_reducible exact Pull.head | apply Pull.tail))) _ (by with_reducible assumption) ?_); refine wpl_put (by (simp only [Act.put, List.setIfInBounds_toArray, List.set_cons_zero, List.set_cons_succ]); exact rfl) ?_) | (refine wpl rfl (wp_loadW hS 35 _ rfl _ rfl (one_of rfl) _ (by with_reducible assumption) ?_); refine wpl_put (by (simp only [Act.put, List.setIfInBounds_toArray, List.set_cons_zero, List.set_cons_succ]); exact rfl) ?_))
                                                            | (first | refine stop_load ?_ | refine stop_store ?_ | refine stop_alloc ?_ | refine stop_box ?_))
    go_ret
    have h1 : (bs.length + 7) / 8 = bs.length / 8 := by omega
    have h2 : bytesOf bs = packs (bs.length / 8) bs := by
      unfold bytesOf padding
      rw [hM, h1]; simp
    rw [h1, h2]
    exact ⟨ad, c, rfl, hS.sub (by (repeat (first | exact Sub.nil | with_reducible exact Sub.refl | (refine Sub.cons (by (repeat (first | with_reducible exact Pull.head | apply Pull.tail))) ?_) | apply Sub.skip)))⟩
  · have hM8 : M < 8 := by omega
    have hpos : (0 : Int) < (M : Int) := by omega
    have HM := hid hM
    clear hM h0
    obtain ⟨k, hk⟩ : ∃ k, k = 8 - M := ⟨_, rfl⟩
    have hk8 : k ≤ 7 := by omega
    have e1 : IntKind.i64.wrap (8 - (M : Int)) = (k : Int) := by simp [IntKind.wrap, IntKind.signed, IntKind.bits]; omega
    have e2 : (0 : Int) ≤ (k : Int) := by omega
    have hk64 : (k : Int) < 64 := by omega
    have HK := hid hk
    clear hk
    have HC := hid (fun (w : World) (hS : St W w (blk g [.slice ad (bs.length / 8) c, .int .u64 (num (bs.drop (8 * (bs.length / 8))) : Nat), .int .i64 (M : Nat)] :: own 5 1 ad (bs.length / 8) c (bv (packs (bs.length / 8) bs)) :: rs')) =>
      (St.close (ad, c) (by simp only [List.cons_append, List.nil_append]; rw [HM.out]; exact hS) : St W w (wr g bs :: rs')))
    have HV := hid (show 2 ^ k - 1 < 2 ^ k by have := Nat.two_pow_pos k; omega)
    have HP := hid (show bitsOf k (2 ^ k - 1) = padding bs by
      have := ones_pad bs (by rw [HM.out]; omega)
      rwa [HM.out, ← HK.out] at this)
    have HW := hid (show wrap64 (wrap64 ((2 : Int) ^ k) - 1) = ((2 ^ k - 1 : Nat) : Int) by
      have h1 : 2 ^ k ≤ 2 ^ 7 := Nat.pow_le_pow_right (by omega) hk8
      have h0 := Nat.two_pow_pos k
      rw [show (2 : Int) ^ k = ((2 ^ k : Nat) : Int) by push_cast; rfl]
      generalize 2 ^ k = x at h1 h0
      unfold wrap64
      omega)
    go_enter Try.func35, Try.ntmps35
    go_wp2_with (first
      | ((with_reducible show wpList _ _ _ (⟨_, .load 3 _, _, _, _, _⟩ :: _) _ _); first | (refine wpl rfl (wp_load1A hS 3 _ rfl _ _ rfl (one_of rfl) _ _ (by (repeat (first | with_reducible exact Pull.head | apply Pull.tail))) (by omega) ?_); refine wpl_put (by (simp only [Act.put, List.setIfInBounds_toArray, List.set_cons_zero, List.set_cons_succ]); exact rfl) ?_) | (refine wpl rfl (wp_load1 hS 3 _ rfl _ _ rfl (one_of rfl) _ (by (repeat (first | with_reducible exact Pull.head | apply Pull.tail))) _ (by rfl) ?_); refine wpl_put (by (simp only [Act.put, List.setIfInBounds_toArray, List.set_cons_zero, List.set_cons_succ]); exact rfl) ?_) | (refine wpl rfl (wp_load1O hS 3 _ rfl _ _ rfl (one_of rfl) _ _ _ _ _ (by (repeat (first | with_reducible exact Pull.head | apply Pull.tail))) _ (by with_reducible assumption) ?_); refine wpl_put (by (simp only [Act.put, List.setIfInBounds_toArray, List.set_cons_zero, List.set_cons_succ]); exact rfl) ?_) | (refine wpl rfl (wp_loadW hS 3 _ rfl _ rfl (one_of rfl) _ (by with_reducible assumption) ?_); refine wpl_put (by (simp only [Act.put, List.setIfInBounds_toArray, List.set_cons_zero, List.set_cons_succ]); exact rfl) ?_))
      | ((with_reducible show wpList _ _ _ (⟨_, .load 35 _, _, _, _, _⟩ :: _) _ _); first | (refine wpl rfl (wp_load1 hS 35 _ rfl _ _ rfl (one_of rfl) _ (by (repeat (first | with_reducible exact Pull.head | apply Pull.tail))) _ (by rfl) ?_); refine wpl_put (by (simp only [Act.put, List.setIfInBounds_toArray, List.set_cons_zero, List.set_cons_succ]); exact rfl) ?_) | (refine wpl rfl (wp_load1O hS 35 _ rfl _ _ rfl (one_of rfl) _ _ _ _ _ (by (repeat (first | with_reducible exact Pull.head | apply Pull.tail))) _ (by with_reducible assumption) ?_); refine wpl_put (by (simp only [Act.put, List.setIfInBounds_toArray, List.set_cons_zero, List.set_cons_succ]); exact rfl) ?_) | (refine wpl rfl (wp_loadW hS 35 _ rfl _ rfl (one_of rfl) _ (by with_reducible assumption) ?_); refine wpl_put (by (simp only [Act.put, List.setIfInBounds_toArray, List.set_cons_zero, List.set_cons_succ]); exact rfl) ?_))
                                                            | (first | refine stop_load ?_ | refine stop_store ?_ | refine stop_alloc ?_ | refine stop_box ?_))
    refine drawn_lit [13] (fun w => St W w [blk g [.slice ad (bs.length / 8) c, .int .u64 (num (bs.drop (8 * (bs.length / 8))) : Nat), .int .i64 (M : Nat)]]) (by kernel_rfl) ?_
    replace hS := hS.drew
    apply takeP 0 (by (repeat (first | with_reducible exact AtL.head | apply AtL.tail))) (by kernel_rfl) (by kernel_rfl) (by kernel_rfl) (fun _ _ _ _ h => h)
    case hfr => intro w; go_wp2_with fail; exact ⟨rfl, rfl⟩
    case hd => rfl
    apply takeP 1 (by (repeat (first | with_reducible exact AtL.head | apply AtL.tail))) (by kernel_rfl) (by kernel_rfl) (by kernel_rfl) (fun _ _ _ _ h => h)
    case hfr => intro w; go_wp2_with fail; exact ⟨rfl, rfl⟩
    case hd => rfl
    apply takeP 2 (by (repeat (first | with_reducible exact AtL.head | apply AtL.tail))) (by kernel_rfl) (by kernel_rfl) (by kernel_rfl) (fun _ _ _ _ h => h)
    case hfr => intro w; go_wp2_with fail; exact ⟨rfl, rfl⟩
    case hd => rfl
    apply takeP 3 (by (repeat (first | with_reducible exact AtL.head | apply AtL.tail))) (by kernel_rfl) (by kernel_rfl) (by kernel_rfl) (fun _ _ _ _ h => h)
    case hfr => intro w; go_wp2_with fail; exact ⟨rfl, rfl⟩
    case hd => rfl
    apply takeS 4 (by (repeat (first | with_reducible exact AtL.head | apply AtL.tail))) (by kernel_rfl) (by kernel_rfl) (by kernel_rfl) (fun _ _ _ _ h => h) [5, 13] (by kernel_rfl) (hS.sub (by (repeat (first | exact Sub.nil | with_reducible exact Sub.refl | (refine Sub.cons (by (repeat (first | with_reducible exact Pull.head | apply Pull.tail))) ?_) | apply Sub.skip))))
    case hfr => intro w hS; go_wp2_with (first | (refine wpl rfl (wp_load1A hS 3 _ rfl _ _ rfl (one_of rfl) _ _ (by (repeat (first | with_reducible exact Pull.head | apply Pull.tail))) (by omega) ?_); refine wpl_put (by (simp only [Act.put, List.setIfInBounds_toArray, List.set_cons_zero, List.set_cons_succ]); exact rfl) ?_) | (refine wpl rfl (wp_load1 hS 3 _ rfl _ _ rfl (one_of rfl) _ (by (repeat (first | with_reducible exact Pull.head | apply Pull.tail))) _ (by rfl) ?_); refine wpl_put (by (simp only [Act.put, List.setIfInBounds_toArray, List.set_cons_zero, List.set_cons_succ]); exact rfl) ?_) | (refine wpl rfl (wp_load1O hS 3 _ rfl _ _ rfl (one_of rfl) _ _ _ _ _ (by (repeat (first | with_reducible exact Pull.head | apply Pull.tail))) _ (by with_reducible assumption) ?_); refine wpl_put (by (simp only [Act.put, List.setIfInBounds_toArray, List.set_cons_zero, List.set_cons_succ]); exact rfl) ?_) | (refine wpl rfl (wp_loadW hS 3 _ rfl _ rfl (one_of rfl) _ (by with_reducible assumption) ?_); refine wpl_put (by (simp only [Act.put, List.setIfInBounds_toArray, List.set_cons_zero, List.set_cons_succ]); exact rfl) ?_)); exact ⟨rfl, rfl⟩
    case hd => rfl
    apply takeP 5 (by (repeat (first | with_reducible exact AtL.head | apply AtL.tail))) (by kernel_rfl) (by kernel_rfl) (by kernel_rfl) (fun _ _ _ _ h => h)
    case hfr => intro w; go_wp2_with fail; exact ⟨rfl, rfl⟩
    case hd => rfl
    apply takeP 6 (by (repeat (first | with_reducible exact AtL.head | apply AtL.tail))) (by kernel_rfl) (by kernel_rfl) (by kernel_rfl) (fun _ _ _ _ h => h)
    case hfr => intro w; go_wp2_with fail; exact ⟨rfl, rfl⟩
    case hd => rfl
    apply takeP 7 (by (repeat (first | with_reducible exact AtL.head | apply AtL.tail))) (by kernel_rfl) (by kernel_rfl) (by kernel_rfl) (fun _ _ _ _ h => h)
    case hfr => intro w; go_wp2_with fail; exact ⟨rfl, rfl⟩
    case hd => rfl
    apply takeP 8 (by (repeat (first | with_reducible exact AtL.head | apply AtL.tail))) (by kernel_rfl) (by kernel_rfl) (by kernel_rfl) (fun _ _ _ _ h => h)
    case hfr => intro w; go_wp2_with fail; exact ⟨rfl, rfl⟩
    case hd => rfl
    apply takeS 9 (by (repeat (first | with_reducible exact AtL.head | apply AtL.tail))) (by kernel_rfl) (by kernel_rfl) (by kernel_rfl) (fun _ _ _ _ h => h) [10, 11, 12, 13] (by kernel_rfl) (hS.sub (by (repeat (first | exact Sub.nil | with_reducible exact Sub.refl | (refine Sub.cons (by (repeat (first | with_reducible exact Pull.head | apply Pull.tail))) ?_) | apply Sub.skip))))
    case hfr => intro w hS; go_wp2_with (first | (refine wpl rfl (wp_load1A hS 3 _ rfl _ _ rfl (one_of rfl) _ _ (by (repeat (first | with_reducible exact Pull.head | apply Pull.tail))) (by omega) ?_); refine wpl_put (by (simp only [Act.put, List.setIfInBounds_toArray, List.set_cons_zero, List.set_cons_succ]); exact rfl) ?_) | (refine wpl rfl (wp_load1 hS 3 _ rfl _ _ rfl (one_of rfl) _ (by (repeat (first | with_reducible exact Pull.head | apply Pull.tail))) _ (by rfl) ?_); refine wpl_put (by (simp only [Act.put, List.setIfInBounds_toArray, List.set_cons_zero, List.set_cons_succ]); exact rfl) ?_) | (refine wpl rfl (wp_load1O hS 3 _ rfl _ _ rfl (one_of rfl) _ _ _ _ _ (by (repeat (first | with_reducible exact Pull.head | apply Pull.tail))) _ (by with_reducible assumption) ?_); refine wpl_put (by (simp only [Act.put, List.setIfInBounds_toArray, List.set_cons_zero, List.set_cons_succ]); exact rfl) ?_) | (refine wpl rfl (wp_loadW hS 3 _ rfl _ rfl (one_of rfl) _ (by with_reducible assumption) ?_); refine wpl_put (by (simp only [Act.put, List.setIfInBounds_toArray, List.set_cons_zero, List.set_cons_succ]); exact rfl) ?_)); exact ⟨rfl, rfl⟩
    case hd => rfl
    apply takeP 10 (by (repeat (first | with_reducible exact AtL.head | apply AtL.tail))) (by kernel_rfl) (by kernel_rfl) (by kernel_rfl) (fun _ _ _ _ h => h)
    case hfr => intro w; go_wp2_with fail; exact ⟨rfl, rfl⟩
    case hd => rfl
    apply takeP 11 (by (repeat (first | with_reducible exact AtL.head | apply AtL.tail))) (by kernel_rfl) (by kernel_rfl) (by kernel_rfl) (fun _ _ _ _ h => h)
    case hfr => intro w; go_wp2_with fail; exact ⟨rfl, rfl⟩
    case hd => rfl
    apply takeP 12 (by (repeat (first | with_reducible exact AtL.head | apply AtL.tail))) (by kernel_rfl) (by kernel_rfl) (by kernel_rfl) (fun _ _ _ _ h => h)
    case hfr => intro w; go_wp2_with fail; exact ⟨rfl, rfl⟩
    case hd => rfl
    refine branch1 13 (by (repeat (first | with_reducible exact AtL.head | apply AtL.tail))) rfl (by kernel_rfl) ?_
    rw [HW.out]; refine wp_callF (f := 34) rfl Try.call34 (put_any W _ _ _ g bs k (2 ^ k - 1) (HC.out _ hS) Pull.head (by omega) HV.out (by omega)) ?_; clear hS; rintro e w ⟨rfl, hS⟩; refine ⟨_, rfl, ?_⟩
    refine ⟨fun h => absurd (by decide) h, ?_⟩
    refine drawn_put (by (simp only [Act.put, List.setIfInBounds_toArray, List.set_cons_zero, List.set_cons_succ]); exact rfl) ?_
    refine drawn_done (by kernel_rfl) ?_ _
    obtain ⟨⟨ad2, c2⟩, hS⟩ := hS.open
    rw [HP.out] at hS
    have HL := hid (show (bs ++ padding bs).length / 8 = (bs.length + 7) / 8 by rw [padding_len]; omega)
    simp only [List.cons_append, List.nil_append, HL.out] at hS
    go_wp2_with (first
      | ((with_reducible show wpList _ _ _ (⟨_, .load 3 _, _, _, _, _⟩ :: _) _ _); first | (refine wpl rfl (wp_load1A hS 3 _ rfl _ _ rfl (one_of rfl) _ _ (by (repeat (first | with_reducible exact Pull.head | apply Pull.tail))) (by omega) ?_); refine wpl_put (by (simp only [Act.put, List.setIfInBounds_toArray, List.set_cons_zero, List.set_cons_succ]); exact rfl) ?_) | (refine wpl rfl (wp_load1 hS 3 _ rfl _ _ rfl (one_of rfl) _ (by (repeat (first | with_reducible exact Pull.head | apply Pull.tail))) _ (by rfl) ?_); refine wpl_put (by (simp only [Act.put, List.setIfInBounds_toArray, List.set_cons_zero, List.set_cons_succ]); exact rfl) ?_) | (refine wpl rfl (wp_load1O hS 3 _ rfl _ _ rfl (one_of rfl) _ _ _ _ _ (by (repeat (first | with_reducible exact Pull.head | apply Pull.tail))) _ (by with_reducible assumption) ?_); refine wpl_put (by (simp only [Act.put, List.setIfInBounds_toArray, List.set_cons_zero, List.set_cons_succ]); exact rfl) ?_) | (refine wpl rfl (wp_loadW hS 3 _ rfl _ rfl (one_of rfl) _ (by with_reducible assumption) ?_); refine wpl_put (by (simp only [Act.put, List.setIfInBounds_toArray, List.set_cons_zero, List.set_cons_succ]); exact rfl) ?_))
      | ((with_reducible show wpList _ _ _ (⟨_, .load 35 _, _, _, _, _⟩ :: _) _ _); first | (refine wpl rfl (wp_load1 hS 35 _ rfl _ _ rfl (one_of rfl) _ (by (repeat (first | with_reducible exact Pull.head | apply Pull.tail))) _ (by rfl) ?_); refine wpl_put (by (simp only [Act.put, List.setIfInBounds_toArray, List.set_cons_zero, List.set_cons_succ]); exact rfl) ?_) | (refine wpl rfl (wp_load1O hS 35 _ rfl _ _ rfl (one_of rfl) _ _ _ _ _ (by (repeat (first | with_reducible exact Pull.head | apply Pull.tail))) _ (by with_reducible assumption) ?_); refine wpl_put (by (simp only [Act.put, List.setIfInBounds_toArray, List.set_cons_zero, List.set_cons_succ]); exact rfl) ?_) | (refine wpl rfl (wp_loadW hS 35 _ rfl _ rfl (one_of rfl) _ (by with_reducible assumption) ?_); refine wpl_put (by (simp only [Act.put, List.setIfInBounds_toArray, List.set_cons_zero, List.set_cons_succ]); exact rfl) ?_))
                                                            | (first | refine stop_load ?_ | refine stop_store ?_ | refine stop_alloc ?_ | refine stop_box ?_))
    go_ret
    refine ⟨ad2, c2, rfl, ?_⟩
    unfold bytesOf
    exact hS.sub (by (repeat (first | exact Sub.nil | with_reducible exact Sub.refl | (refine Sub.cons (by (repeat (first | with_reducible exact Pull.head | apply Pull.tail))) ?_) | apply Sub.skip)))
theorem wr_new {W w : World} {g : Nat} {rs : List Res} (h : St W w (blk g [.slice none 0 0, .int .u64 0, .int .i64 0] :: rs)) : St W w (wr g [] :: rs) :=
  St.close (none, 0) ((h.nil 5 1).pull (.tail .head))
/-- Fields, as a row of numbers: width, value, width, value, .. -/
def fOk (ns : List Int) (i : Nat) : Bool := decide (0 ≤ nth ns (2 * i)) && decide (nth ns (2 * i) ≤ 24) && decide (0 ≤ nth ns (2 * i + 1)) && decide (nth ns (2 * i + 1) < 2 ^ (nth ns (2 * i)).toNat)
def fsOk (ns : List Int) (n : Nat) : Bool := (List.range n).all (fOk ns)
def fBits (ns : List Int) : Nat → List Bool
  | 0 => []
  | i + 1 => fBits ns i ++ bitsOf (nth ns (2 * i)).toNat (nth ns (2 * i + 1)).toNat
theorem fBits_len (ns : List Int) (n : Nat) (h : ∀ i, i < n → fOk ns i = true) : (fBits ns n).length ≤ 24 * n := by
  induction n with
  | zero => simp [fBits]
  | succ n ih =>
    have h1 := ih fun i hi => h i (by omega)
    have h2 := h n (by omega)
    simp only [fOk, Bool.and_eq_true, decide_eq_true_eq] at h2
    rw [fBits, List.length_append, bitsOf_len]
    omega
def wErr (ns : List Int) (n : Nat) : Int := if 20000 < n then 2 else if fsOk ns n then 0 else 1
def wBytes (ns : List Int) (n : Nat) : List Nat := if wErr ns n = 0 then bytesOf (fBits ns n) else []
/-- What bits.Write gives. -/
def WriteGives (w : World) (ns : List Int) (n : Nat) (e : Ending) (w' : World) : Prop :=
  ∃ ad c, e = .returned (.tuple #[.slice ad (wBytes ns n).length c, .int .i64 (wErr ns n)]) ∧ St w w' [own 5 1 ad (wBytes ns n).length c (bv (wBytes ns n))]
theorem isWidth_yes (n : Int) (w : World) (h : 0 ≤ n ∧ n ≤ 24) : Calls Try.prog 33 #[.int .i64 n] w fun e w' => e = .returned (.bool true) ∧ w = w' := by
  obtain ⟨h0, h1⟩ := h
  go_enter Try.func33, Try.ntmps33
  go_wp2_with fail
  go_ret
  exact ⟨rfl, rfl⟩
theorem isWidth_no (n : Int) (w : World) (h : n < 0 ∨ 24 < n) : Calls Try.prog 33 #[.int .i64 n] w fun e w' => e = .returned (.bool false) ∧ w = w' := by
  rcases h with h | h
  · go_enter Try.func33, Try.ntmps33
    go_wp2_with fail
    go_ret
    exact ⟨rfl, rfl⟩
  · have h0 : 0 ≤ n := by omega
    go_enter Try.func33, Try.ntmps33
    go_wp2_with fail
    go_ret
    exact ⟨ret_bool (by simp; omega), rfl⟩
theorem writes_nil (w w' : World) (ns : List Int) (n : Nat) (e : Int) (he : wErr ns n = e) (h0 : e ≠ 0) (hE : Ext w w') : WriteGives w ns n (.returned (.tuple #[.slice none 0 0, .int .i64 e])) w' := by
  have hb : wBytes ns n = [] := by rw [wBytes, if_neg (by rw [he]; exact h0)]
  refine ⟨none, 0, by rw [hb, he]; rfl, ?_⟩
  rw [hb]
  exact (St.of_ext hE).nil _ _
set_option maxHeartbeats 2000000 in
theorem write_any (w0 : World) (v : Value) (n : Nat) (ns : List Int) (hv : Sl w0 2 v n (ns.map (Value.int .i64))) (hw : ∀ i, i < ns.length → -9223372036854775808 ≤ nth ns i ∧ nth ns i ≤ 9223372036854775807) :
    Calls Try.prog 22 #[v] w0 (WriteGives w0 ns n) := by
  obtain ⟨hl, ad, c, rfl, hnc, hcm, hor⟩ := hv
  rw [List.length_map] at hl
  have hcm' : c ≤ 9223372036854775807 := by unfold maxLen at hcm; exact hcm
  have HL := hid hl
  clear hcm hl
  have hS := St.start w0
  by_cases hbig : 20000 < n
  · go_enter Try.func22, Try.ntmps22
    go_wp2_with (first
      | ((with_reducible show wpList _ _ _ (⟨some 11, .box 61 _, _, _, _, _⟩ :: _) _ _); first | (refine wpl rfl (wp_boxG (o := ⟨some 11, _, _, _, _, _⟩) hS 61 _ rfl _ rfl ?_); clear hS; intro g11 w hS; refine wpl_put (by (simp only [Act.put, List.setIfInBounds_toArray, List.set_cons_zero, List.set_cons_succ]); exact rfl) ?_))
      | ((with_reducible show wpList _ _ _ (⟨_, .load 39 _, _, _, _, _⟩ :: _) _ _); first | (refine wpl rfl (wp_loadA hS 39 _ rfl _ rfl 2 (row_of rfl) _ (by (repeat (first | with_reducible exact Pull.head | apply Pull.tail))) ?_); refine wpl_put (by (simp only [Act.put, List.setIfInBounds_toArray, List.set_cons_zero, List.set_cons_succ]); exact rfl) ?_) | (refine wpl rfl (wp_loadG hS 39 _ rfl _ rfl 2 (row_of rfl) _ (by (repeat (first | with_reducible exact Pull.head | apply Pull.tail))) (by rfl) ?_); refine wpl_put (by (simp only [Act.put, List.setIfInBounds_toArray, List.set_cons_zero, List.set_cons_succ]); exact rfl) ?_) | (refine wpl rfl (wp_loadRW hS 39 _ rfl _ _ rfl 2 (row_of rfl) _ (by with_reducible assumption) (by rfl) ?_); refine wpl_put (by (simp only [Act.put, List.setIfInBounds_toArray, List.set_cons_zero, List.set_cons_succ]); exact rfl) ?_))
      | ((with_reducible show wpList _ _ _ (⟨some 6, .alloc 39, _, _, _, _⟩ :: _) _ _); first | (refine wpl rfl (wp_alloc (o := ⟨some 6, _, _, _, _, _⟩) hS 39 rfl (.agg #[.int .i64 0, .int .i64 0]) [.int .i64 0, .int .i64 0] (fun w => Try.zeroValue39 w) rfl ?_); clear hS; intro g6 w hS; refine wpl_put (by (simp only [Act.put, List.setIfInBounds_toArray, List.set_cons_zero, List.set_cons_succ]); exact rfl) ?_))
      | ((with_reducible show wpList _ _ _ (⟨_, .store 39 _ _, _, _, _, _⟩ :: _) _ _); first | (refine wpl rfl (wp_storeA hS 39 _ _ rfl _ rfl 2 (row_of rfl) _ _ (by (repeat (first | with_reducible exact Pull.head | apply Pull.tail))) (by rfl) (by (repeat (first | assumption | exact Len.rep | apply Len.set))) rfl ?_); clear hS; intro w hS) | (refine wpl rfl (wp_storeG hS 39 _ _ rfl _ rfl 2 (row_of rfl) _ _ (by (repeat (first | with_reducible exact Pull.head | apply Pull.tail))) (by rfl) (by rfl) (by rfl) (by rfl) rfl ?_); clear hS; intro w hS))
      | ((with_reducible show wpList _ _ _ (⟨_, .load 3 _, _, _, _, _⟩ :: _) _ _); first | (refine wpl rfl (wp_load1A hS 3 _ rfl _ _ rfl (one_of rfl) _ _ (by (repeat (first | with_reducible exact Pull.head | apply Pull.tail))) (by omega) ?_); refine wpl_put (by (simp only [Act.put, List.setIfInBounds_toArray, List.set_cons_zero, List.set_cons_succ]); exact rfl) ?_) | (refine wpl rfl (wp_load1 hS 3 _ rfl _ _ rfl (one_of rfl) _ (by (repeat (first | with_reducible exact Pull.head | apply Pull.tail))) _ (by rfl) ?_); refine wpl_put (by (simp only [Act.put, List.setIfInBounds_toArray, List.set_cons_zero, List.set_cons_succ]); exact rfl) ?_) | (refine wpl rfl (wp_load1O hS 3 _ rfl _ _ rfl (one_of rfl) _ _ _ _ _ (by (repeat (first | with_reducible exact Pull.head | apply Pull.tail))) _ (by with_reducible assumption) ?_); refine wpl_put (by (simp only [Act.put, List.setIfInBounds_toArray, List.set_cons_zero, List.set_cons_succ]); exact rfl) ?_) | (refine wpl rfl (wp_loadW hS 3 _ rfl _ rfl (one_of rfl) _ (by with_reducible assumption) ?_); refine wpl_put (by (simp only [Act.put, List.setIfInBounds_toArray, List.set_cons_zero, List.set_cons_succ]); exact rfl) ?_))
                                                            | (first | refine stop_load ?_ | refine stop_store ?_ | refine stop_alloc ?_ | refine stop_box ?_))
    go_ret2
    exact writes_nil _ _ ns n 2 (by rw [wErr, if_pos hbig]) (by decide) hS.1
  · have hn : n ≤ 20000 := by omega
    go_enter Try.func22, Try.ntmps22
    go_wp2_with (first
      | ((with_reducible show wpList _ _ _ (⟨some 11, .box 61 _, _, _, _, _⟩ :: _) _ _); first | (refine wpl rfl (wp_boxG (o := ⟨some 11, _, _, _, _, _⟩) hS 61 _ rfl _ rfl ?_); clear hS; intro g11 w hS; refine wpl_put (by (simp only [Act.put, List.setIfInBounds_toArray, List.set_cons_zero, List.set_cons_succ]); exact rfl) ?_))
      | ((with_reducible show wpList _ _ _ (⟨_, .load 39 _, _, _, _, _⟩ :: _) _ _); first | (refine wpl rfl (wp_loadA hS 39 _ rfl _ rfl 2 (row_of rfl) _ (by (repeat (first | with_reducible exact Pull.head | apply Pull.tail))) ?_); refine wpl_put (by (simp only [Act.put, List.setIfInBounds_toArray, List.set_cons_zero, List.set_cons_succ]); exact rfl) ?_) | (refine wpl rfl (wp_loadG hS 39 _ rfl _ rfl 2 (row_of rfl) _ (by (repeat (first | with_reducible exact Pull.head | apply Pull.tail))) (by rfl) ?_); refine wpl_put (by (simp only [Act.put, List.setIfInBounds_toArray, List.set_cons_zero, List.set_cons_succ]); exact rfl) ?_) | (refine wpl rfl (wp_loadRW hS 39 _ rfl _ _ rfl 2 (row_of rfl) _ (by with_reducible assumption) (by rfl) ?_); refine wpl_put (by (simp only [Act.put, List.setIfInBounds_toArray, List.set_cons_zero, List.set_cons_succ]); exact rfl) ?_))
      | ((with_reducible show wpList _ _ _ (⟨some 6, .alloc 39, _, _, _, _⟩ :: _) _ _); first | (refine wpl rfl (wp_alloc (o := ⟨some 6, _, _, _, _, _⟩) hS 39 rfl (.agg #[.int .i64 0, .int .i64 0]) [.int .i64 0, .int .i64 0] (fun w => Try.zeroValue39 w) rfl ?_); clear hS; intro g6 w hS; refine wpl_put (by (simp only [Act.put, List.setIfInBounds_toArray, List.set_cons_zero, List.set_cons_succ]); exact rfl) ?_))
      | ((with_reducible show wpList _ _ _ (⟨_, .store 39 _ _, _, _, _, _⟩ :: _) _ _); first | (refine wpl rfl (wp_storeA hS 39 _ _ rfl _ rfl 2 (row_of rfl) _ _ (by (repeat (first | with_reducible exact Pull.head | apply Pull.tail))) (by rfl) (by (repeat (first | assumption | exact Len.rep | apply Len.set))) rfl ?_); clear hS; intro w hS) | (refine wpl rfl (wp_storeG hS 39 _ _ rfl _ rfl 2 (row_of rfl) _ _ (by (repeat (first | with_reducible exact Pull.head | apply Pull.tail))) (by rfl) (by rfl) (by rfl) (by rfl) rfl ?_); clear hS; intro w hS))
      | ((with_reducible show wpList _ _ _ (⟨_, .load 3 _, _, _, _, _⟩ :: _) _ _); first | (refine wpl rfl (wp_load1A hS 3 _ rfl _ _ rfl (one_of rfl) _ _ (by (repeat (first | with_reducible exact Pull.head | apply Pull.tail))) (by omega) ?_); refine wpl_put (by (simp only [Act.put, List.setIfInBounds_toArray, List.set_cons_zero, List.set_cons_succ]); exact rfl) ?_) | (refine wpl rfl (wp_load1 hS 3 _ rfl _ _ rfl (one_of rfl) _ (by (repeat (first | with_reducible exact Pull.head | apply Pull.tail))) _ (by rfl) ?_); refine wpl_put (by (simp only [Act.put, List.setIfInBounds_toArray, List.set_cons_zero, List.set_cons_succ]); exact rfl) ?_) | (refine wpl rfl (wp_load1O hS 3 _ rfl _ _ rfl (one_of rfl) _ _ _ _ _ (by (repeat (first | with_reducible exact Pull.head | apply Pull.tail))) _ (by with_reducible assumption) ?_); refine wpl_put (by (simp only [Act.put, List.setIfInBounds_toArray, List.set_cons_zero, List.set_cons_succ]); exact rfl) ?_) | (refine wpl rfl (wp_loadW hS 3 _ rfl _ rfl (one_of rfl) _ (by with_reducible assumption) ?_); refine wpl_put (by (simp only [Act.put, List.setIfInBounds_toArray, List.set_cons_zero, List.set_cons_succ]); exact rfl) ?_))
                                                            | (first | refine stop_load ?_ | refine stop_store ?_ | refine stop_alloc ?_ | refine stop_box ?_))
    replace hS : St w0 w [wr g11 (fBits ns 0)] := wr_new hS
    go_loopg [14] n (fun gk kv w => ∃ (i : Nat), gk + i = n ∧ kv = .int .i64 i ∧ (∀ j, j < i → fOk ns j = true) ∧ St w0 w [wr g11 (fBits ns i)])
    case atStart => exact ⟨0, rfl, rfl, fun j hj => absurd hj (by omega), hS⟩
    case round =>
      clear hS
      obtain ⟨i, hi, rfl, hok, hS⟩ := hrel
      by_cases hlt : i < n
      · obtain ⟨b, off, rfl, hcell⟩ : ∃ b off, ad = some ⟨b, off, none⟩ ∧ ∀ k, k < n * 2 → w0.cell? ⟨b, off + k, none⟩ = (ns.map (Value.int .i64))[k]? := by
          rcases hor with h | h
          · omega
          · exact h
        have hx := hw (2 * i) (by rw [HL.out]; omega)
        have hy := hw (2 * i + 1) (by rw [HL.out]; omega)
        have hr : w0.rangeAt b (off + i * 2) [.int .i64 (nth ns (2 * i)), .int .i64 (nth ns (2 * i + 1))] := by
          intro j u hu
          have hj : j < 2 := (List.getElem?_eq_some_iff.1 hu).1
          have h1 := hcell (i * 2 + j) (by omega)
          rw [List.getElem?_map, List.getElem?_eq_getElem (by rw [HL.out]; omega)] at h1
          rw [Nat.add_assoc, h1, ← hu]
          rcases (show j = 0 ∨ j = 1 by omega) with rfl | rfl <;> simp [nth, List.getD, Nat.mul_comm i 2, HL.out, show 2 * i < n * 2 by omega, show 2 * i + 1 < n * 2 by omega]
        clear hcell hor hw
        have HBit := hid (show fBits ns (i + 1) = fBits ns i ++ bitsOf (nth ns (2 * i)).toNat (nth ns (2 * i + 1)).toNat from rfl)
        have HFb : Hid (fOk ns i = true ∨ wErr ns n = 1) := by
          by_cases h : fOk ns i = true
          · exact .inl h
          · right
            rw [wErr, if_neg (by omega), if_neg]
            rw [fsOk, List.all_eq_true]
            exact fun h2 => h (h2 i (by simpa using hlt))
        have HLen := hid (fBits_len ns i hok)
        have HOk := hid hok
        have hFo : fOk ns i = (decide (0 ≤ nth ns (2 * i)) && decide (nth ns (2 * i) ≤ 24) && decide (0 ≤ nth ns (2 * i + 1)) && decide (nth ns (2 * i + 1) < 2 ^ (nth ns (2 * i)).toNat)) := rfl
        clear hok
        generalize nth ns (2 * i) = x at *
        generalize nth ns (2 * i + 1) = y at *
        have HFo := hid hFo
        clear hFo
        by_cases hx0 : x < 0 ∨ 24 < x
        · have HBad : Hid (wErr ns n = 1) := by
            rcases HFb.out with h | h
            · rw [HFo.out] at h; simp at h; omega
            · exact h
          clear HFb HFo HBit HLen HOk
          go_wp2_with (first
            | ((with_reducible show wpList _ _ _ (⟨some 11, .box 61 _, _, _, _, _⟩ :: _) _ _); first | (refine wpl rfl (wp_boxG (o := ⟨some 11, _, _, _, _, _⟩) hS 61 _ rfl _ rfl ?_); clear hS; intro g11 w hS; refine wpl_put (by (simp only [Act.put, List.setIfInBounds_toArray, List.set_cons_zero, List.set_cons_succ]); exact rfl) ?_))
            | ((with_reducible show wpList _ _ _ (⟨_, .load 39 _, _, _, _, _⟩ :: _) _ _); first | (refine wpl rfl (wp_loadA hS 39 _ rfl _ rfl 2 (row_of rfl) _ (by (repeat (first | with_reducible exact Pull.head | apply Pull.tail))) ?_); refine wpl_put (by (simp only [Act.put, List.setIfInBounds_toArray, List.set_cons_zero, List.set_cons_succ]); exact rfl) ?_) | (refine wpl rfl (wp_loadG hS 39 _ rfl _ rfl 2 (row_of rfl) _ (by (repeat (first | with_reducible exact Pull.head | apply Pull.tail))) (by rfl) ?_); refine wpl_put (by (simp only [Act.put, List.setIfInBounds_toArray, List.set_cons_zero, List.set_cons_succ]); exact rfl) ?_) | (refine wpl rfl (wp_loadRW hS 39 _ rfl _ _ rfl 2 (row_of rfl) _ (by with_reducible assumption) (by rfl) ?_); refine wpl_put (by (simp only [Act.put, List.setIfInBounds_toArray, List.set_cons_zero, List.set_cons_succ]); exact rfl) ?_))
            | ((with_reducible show wpList _ _ _ (⟨some 6, .alloc 39, _, _, _, _⟩ :: _) _ _); first | (refine wpl rfl (wp_alloc (o := ⟨some 6, _, _, _, _, _⟩) hS 39 rfl (.agg #[.int .i64 0, .int .i64 0]) [.int .i64 0, .int .i64 0] (fun w => Try.zeroValue39 w) rfl ?_); clear hS; intro g6 w hS; refine wpl_put (by (simp only [Act.put, List.setIfInBounds_toArray, List.set_cons_zero, List.set_cons_succ]); exact rfl) ?_))
            | ((with_reducible show wpList _ _ _ (⟨_, .store 39 _ _, _, _, _, _⟩ :: _) _ _); first | (refine wpl rfl (wp_storeA hS 39 _ _ rfl _ rfl 2 (row_of rfl) _ _ (by (repeat (first | with_reducible exact Pull.head | apply Pull.tail))) (by rfl) (by (repeat (first | assumption | exact Len.rep | apply Len.set))) rfl ?_); clear hS; intro w hS) | (refine wpl rfl (wp_storeG hS 39 _ _ rfl _ rfl 2 (row_of rfl) _ _ (by (repeat (first | with_reducible exact Pull.head | apply Pull.tail))) (by rfl) (by rfl) (by rfl) (by rfl) rfl ?_); clear hS; intro w hS))
            | ((with_reducible show wpList _ _ _ (⟨_, .load 3 _, _, _, _, _⟩ :: _) _ _); first | (refine wpl rfl (wp_load1A hS 3 _ rfl _ _ rfl (one_of rfl) _ _ (by (repeat (first | with_reducible exact Pull.head | apply Pull.tail))) (by omega) ?_); refine wpl_put (by (simp only [Act.put, List.setIfInBounds_toArray, List.set_cons_zero, List.set_cons_succ]); exact rfl) ?_) | (refine wpl rfl (wp_load1 hS 3 _ rfl _ _ rfl (one_of rfl) _ (by (repeat (first | with_reducible exact Pull.head | apply Pull.tail))) _ (by rfl) ?_); refine wpl_put (by (simp only [Act.put, List.setIfInBounds_toArray, List.set_cons_zero, List.set_cons_succ]); exact rfl) ?_) | (refine wpl rfl (wp_load1O hS 3 _ rfl _ _ rfl (one_of rfl) _ _ _ _ _ (by (repeat (first | with_reducible exact Pull.head | apply Pull.tail))) _ (by with_reducible assumption) ?_); refine wpl_put (by (simp only [Act.put, List.setIfInBounds_toArray, List.set_cons_zero, List.set_cons_succ]); exact rfl) ?_) | (refine wpl rfl (wp_loadW hS 3 _ rfl _ rfl (one_of rfl) _ (by with_reducible assumption) ?_); refine wpl_put (by (simp only [Act.put, List.setIfInBounds_toArray, List.set_cons_zero, List.set_cons_succ]); exact rfl) ?_))
                                                            | (first | refine stop_load ?_ | refine stop_store ?_ | refine stop_alloc ?_ | refine stop_box ?_))
          refine drawn_lit [] (fun w => St w0 w [blk g6 [.int .i64 x, .int .i64 y]]) (by kernel_rfl) ?_
          replace hS := hS.drew
          apply takeP 0 (by (repeat (first | with_reducible exact AtL.head | apply AtL.tail))) (by kernel_rfl) (by kernel_rfl) (by kernel_rfl) (fun _ _ _ _ h => h)
          case hfr => intro w; go_wp2_with fail; exact ⟨rfl, rfl⟩
          case hd => rfl
          apply takeS 1 (by (repeat (first | with_reducible exact AtL.head | apply AtL.tail))) (by kernel_rfl) (by kernel_rfl) (by kernel_rfl) (fun _ _ _ _ h => h) [2, 3, 4, 5, 6, 7, 8, 9, 10, 11, 12, 13, 14, 15, 16] (by kernel_rfl) (hS.sub (by (repeat (first | exact Sub.nil | with_reducible exact Sub.refl | (refine Sub.cons (by (repeat (first | with_reducible exact Pull.head | apply Pull.tail))) ?_) | apply Sub.skip))))
          case hfr => intro w hS; go_wp2_with (first | (refine wpl rfl (wp_load1A hS 3 _ rfl _ _ rfl (one_of rfl) _ _ (by (repeat (first | with_reducible exact Pull.head | apply Pull.tail))) (by omega) ?_); refine wpl_put (by (simp only [Act.put, List.setIfInBounds_toArray, List.set_cons_zero, List.set_cons_succ]); exact rfl) ?_) | (refine wpl rfl (wp_load1 hS 3 _ rfl _ _ rfl (one_of rfl) _ (by (repeat (first | with_reducible exact Pull.head | apply Pull.tail))) _ (by rfl) ?_); refine wpl_put (by (simp only [Act.put, List.setIfInBounds_toArray, List.set_cons_zero, List.set_cons_succ]); exact rfl) ?_) | (refine wpl rfl (wp_load1O hS 3 _ rfl _ _ rfl (one_of rfl) _ _ _ _ _ (by (repeat (first | with_reducible exact Pull.head | apply Pull.tail))) _ (by with_reducible assumption) ?_); refine wpl_put (by (simp only [Act.put, List.setIfInBounds_toArray, List.set_cons_zero, List.set_cons_succ]); exact rfl) ?_) | (refine wpl rfl (wp_loadW hS 3 _ rfl _ rfl (one_of rfl) _ (by with_reducible assumption) ?_); refine wpl_put (by (simp only [Act.put, List.setIfInBounds_toArray, List.set_cons_zero, List.set_cons_succ]); exact rfl) ?_)); exact ⟨rfl, rfl⟩
          case hd => rfl
          refine branch1 2 (by (repeat (first | with_reducible exact AtL.head | apply AtL.tail))) rfl (by kernel_rfl) ?_
          refine wp_callF (f := 33) rfl Try.call33 (isWidth_no x _ hx0) ?_; rintro e w' ⟨rfl, rfl⟩; refine ⟨_, rfl, ?_⟩
          refine ⟨fun _ _ => hS.sub (by (repeat (first | exact Sub.nil | with_reducible exact Sub.refl | (refine Sub.cons (by (repeat (first | with_reducible exact Pull.head | apply Pull.tail))) ?_) | apply Sub.skip))), ?_⟩
          refine drawn_put (by (simp only [Act.put, List.setIfInBounds_toArray, List.set_cons_zero, List.set_cons_succ]); exact rfl) ?_
          apply takeP 3 (by (repeat (first | with_reducible exact AtL.head | apply AtL.tail))) (by kernel_rfl) (by kernel_rfl) (by kernel_rfl) (fun _ _ _ _ h => h)
          case hfr => intro w; go_wp2_with fail; exact ⟨rfl, rfl⟩
          case hd => rfl
          apply takeP 4 (by (repeat (first | with_reducible exact AtL.head | apply AtL.tail))) (by kernel_rfl) (by kernel_rfl) (by kernel_rfl) (fun _ _ _ _ h => h)
          case hfr => intro w; go_wp2_with fail; exact ⟨rfl, rfl⟩
          case hd => rfl
          apply takeP 5 (by (repeat (first | with_reducible exact AtL.head | apply AtL.tail))) (by kernel_rfl) (by kernel_rfl) (by kernel_rfl) (fun _ _ _ _ h => h)
          case hfr => intro w; go_wp2_with fail; exact ⟨rfl, rfl⟩
          case hd => rfl
          apply takeS 6 (by (repeat (first | with_reducible exact AtL.head | apply AtL.tail))) (by kernel_rfl) (by kernel_rfl) (by kernel_rfl) (fun _ _ _ _ h => h) [7, 8, 9, 10, 11, 12, 13, 14, 15, 16] (by kernel_rfl) (hS.sub (by (repeat (first | exact Sub.nil | with_reducible exact Sub.refl | (refine Sub.cons (by (repeat (first | with_reducible exact Pull.head | apply Pull.tail))) ?_) | apply Sub.skip))))
          case hfr => intro w hS; go_wp2_with (first | (refine wpl rfl (wp_load1A hS 3 _ rfl _ _ rfl (one_of rfl) _ _ (by (repeat (first | with_reducible exact Pull.head | apply Pull.tail))) (by omega) ?_); refine wpl_put (by (simp only [Act.put, List.setIfInBounds_toArray, List.set_cons_zero, List.set_cons_succ]); exact rfl) ?_) | (refine wpl rfl (wp_load1 hS 3 _ rfl _ _ rfl (one_of rfl) _ (by (repeat (first | with_reducible exact Pull.head | apply Pull.tail))) _ (by rfl) ?_); refine wpl_put (by (simp only [Act.put, List.setIfInBounds_toArray, List.set_cons_zero, List.set_cons_succ]); exact rfl) ?_) | (refine wpl rfl (wp_load1O hS 3 _ rfl _ _ rfl (one_of rfl) _ _ _ _ _ (by (repeat (first | with_reducible exact Pull.head | apply Pull.tail))) _ (by with_reducible assumption) ?_); refine wpl_put (by (simp only [Act.put, List.setIfInBounds_toArray, List.set_cons_zero, List.set_cons_succ]); exact rfl) ?_) | (refine wpl rfl (wp_loadW hS 3 _ rfl _ rfl (one_of rfl) _ (by with_reducible assumption) ?_); refine wpl_put (by (simp only [Act.put, List.setIfInBounds_toArray, List.set_cons_zero, List.set_cons_succ]); exact rfl) ?_)); exact ⟨rfl, rfl⟩
          case hd => rfl
          apply takeP 7 (by (repeat (first | with_reducible exact AtL.head | apply AtL.tail))) (by kernel_rfl) (by kernel_rfl) (by kernel_rfl) (fun _ _ _ _ h => h)
          case hfr => intro w; go_wp2_with fail; exact ⟨rfl, rfl⟩
          case hd => rfl
          apply takeP 8 (by (repeat (first | with_reducible exact AtL.head | apply AtL.tail))) (by kernel_rfl) (by kernel_rfl) (by kernel_rfl) (fun _ _ _ _ h => h)
          case hfr => intro w; go_wp2_with fail; exact ⟨rfl, rfl⟩
          case hd => rfl
          apply takeP 9 (by (repeat (first | with_reducible exact AtL.head | apply AtL.tail))) (by kernel_rfl) (by kernel_rfl) (by kernel_rfl) (fun _ _ _ _ h => h)
          case hfr => intro w; go_wp2_with fail; exact ⟨rfl, rfl⟩
          case hd => rfl
          apply takeP 10 (by (repeat (first | with_reducible exact AtL.head | apply AtL.tail))) (by kernel_rfl) (by kernel_rfl) (by kernel_rfl) (fun _ _ _ _ h => h)
          case hfr => intro w; go_wp2_with fail; exact ⟨rfl, rfl⟩
          case hd => rfl
          apply takeS 11 (by (repeat (first | with_reducible exact AtL.head | apply AtL.tail))) (by kernel_rfl) (by kernel_rfl) (by kernel_rfl) (fun _ _ _ _ h => h) [15, 16] (by kernel_rfl) (hS.sub (by (repeat (first | exact Sub.nil | with_reducible exact Sub.refl | (refine Sub.cons (by (repeat (first | with_reducible exact Pull.head | apply Pull.tail))) ?_) | apply Sub.skip))))
          case hfr => intro w hS; go_wp2_with (first | (refine wpl rfl (wp_load1A hS 3 _ rfl _ _ rfl (one_of rfl) _ _ (by (repeat (first | with_reducible exact Pull.head | apply Pull.tail))) (by omega) ?_); refine wpl_put (by (simp only [Act.put, List.setIfInBounds_toArray, List.set_cons_zero, List.set_cons_succ]); exact rfl) ?_) | (refine wpl rfl (wp_load1 hS 3 _ rfl _ _ rfl (one_of rfl) _ (by (repeat (first | with_reducible exact Pull.head | apply Pull.tail))) _ (by rfl) ?_); refine wpl_put (by (simp only [Act.put, List.setIfInBounds_toArray, List.set_cons_zero, List.set_cons_succ]); exact rfl) ?_) | (refine wpl rfl (wp_load1O hS 3 _ rfl _ _ rfl (one_of rfl) _ _ _ _ _ (by (repeat (first | with_reducible exact Pull.head | apply Pull.tail))) _ (by with_reducible assumption) ?_); refine wpl_put (by (simp only [Act.put, List.setIfInBounds_toArray, List.set_cons_zero, List.set_cons_succ]); exact rfl) ?_) | (refine wpl rfl (wp_loadW hS 3 _ rfl _ rfl (one_of rfl) _ (by with_reducible assumption) ?_); refine wpl_put (by (simp only [Act.put, List.setIfInBounds_toArray, List.set_cons_zero, List.set_cons_succ]); exact rfl) ?_)); exact ⟨rfl, rfl⟩
          case hd => rfl
          apply takeP 12 (by (repeat (first | with_reducible exact AtL.head | apply AtL.tail))) (by kernel_rfl) (by kernel_rfl) (by kernel_rfl) (fun _ _ _ _ h => h)
          case hfr => intro w; go_wp2_with fail; exact ⟨rfl, rfl⟩
          case hd => rfl
          apply takeS 13 (by (repeat (first | with_reducible exact AtL.head | apply AtL.tail))) (by kernel_rfl) (by kernel_rfl) (by kernel_rfl) (fun _ _ _ _ h => h) [14, 15, 16] (by kernel_rfl) (hS.sub (by (repeat (first | exact Sub.nil | with_reducible exact Sub.refl | (refine Sub.cons (by (repeat (first | with_reducible exact Pull.head | apply Pull.tail))) ?_) | apply Sub.skip))))
          case hfr => intro w hS; go_wp2_with (first | (refine wpl rfl (wp_load1A hS 3 _ rfl _ _ rfl (one_of rfl) _ _ (by (repeat (first | with_reducible exact Pull.head | apply Pull.tail))) (by omega) ?_); refine wpl_put (by (simp only [Act.put, List.setIfInBounds_toArray, List.set_cons_zero, List.set_cons_succ]); exact rfl) ?_) | (refine wpl rfl (wp_load1 hS 3 _ rfl _ _ rfl (one_of rfl) _ (by (repeat (first | with_reducible exact Pull.head | apply Pull.tail))) _ (by rfl) ?_); refine wpl_put (by (simp only [Act.put, List.setIfInBounds_toArray, List.set_cons_zero, List.set_cons_succ]); exact rfl) ?_) | (refine wpl rfl (wp_load1O hS 3 _ rfl _ _ rfl (one_of rfl) _ _ _ _ _ (by (repeat (first | with_reducible exact Pull.head | apply Pull.tail))) _ (by with_reducible assumption) ?_); refine wpl_put (by (simp only [Act.put, List.setIfInBounds_toArray, List.set_cons_zero, List.set_cons_succ]); exact rfl) ?_) | (refine wpl rfl (wp_loadW hS 3 _ rfl _ rfl (one_of rfl) _ (by with_reducible assumption) ?_); refine wpl_put (by (simp only [Act.put, List.setIfInBounds_toArray, List.set_cons_zero, List.set_cons_succ]); exact rfl) ?_)); exact ⟨rfl, rfl⟩
          case hd => rfl
          apply takeP 14 (by (repeat (first | with_reducible exact AtL.head | apply AtL.tail))) (by kernel_rfl) (by kernel_rfl) (by kernel_rfl) (fun _ _ _ _ h => h)
          case hfr => intro w; go_wp2_with fail; exact ⟨rfl, rfl⟩
          case hd => rfl
          apply takeP 15 (by (repeat (first | with_reducible exact AtL.head | apply AtL.tail))) (by kernel_rfl) (by kernel_rfl) (by kernel_rfl) (fun _ _ _ _ h => h)
          case hfr => intro w; go_wp2_with fail; exact ⟨rfl, rfl⟩
          case hd => rfl
          apply takeP 16 (by (repeat (first | with_reducible exact AtL.head | apply AtL.tail))) (by kernel_rfl) (by kernel_rfl) (by kernel_rfl) (fun _ _ _ _ h => h)
          case hfr => intro w; go_wp2_with fail; exact ⟨rfl, rfl⟩
          case hd => rfl
          refine drawn_done (by kernel_rfl) ?_ _
          go_wp2_with (first
            | ((with_reducible show wpList _ _ _ (⟨some 11, .box 61 _, _, _, _, _⟩ :: _) _ _); first | (refine wpl rfl (wp_boxG (o := ⟨some 11, _, _, _, _, _⟩) hS 61 _ rfl _ rfl ?_); clear hS; intro g11 w hS; refine wpl_put (by (simp only [Act.put, List.setIfInBounds_toArray, List.set_cons_zero, List.set_cons_succ]); exact rfl) ?_))
            | ((with_reducible show wpList _ _ _ (⟨_, .load 39 _, _, _, _, _⟩ :: _) _ _); first | (refine wpl rfl (wp_loadA hS 39 _ rfl _ rfl 2 (row_of rfl) _ (by (repeat (first | with_reducible exact Pull.head | apply Pull.tail))) ?_); refine wpl_put (by (simp only [Act.put, List.setIfInBounds_toArray, List.set_cons_zero, List.set_cons_succ]); exact rfl) ?_) | (refine wpl rfl (wp_loadG hS 39 _ rfl _ rfl 2 (row_of rfl) _ (by (repeat (first | with_reducible exact Pull.head | apply Pull.tail))) (by rfl) ?_); refine wpl_put (by (simp only [Act.put, List.setIfInBounds_toArray, List.set_cons_zero, List.set_cons_succ]); exact rfl) ?_) | (refine wpl rfl (wp_loadRW hS 39 _ rfl _ _ rfl 2 (row_of rfl) _ (by with_reducible assumption) (by rfl) ?_); refine wpl_put (by (simp only [Act.put, List.setIfInBounds_toArray, List.set_cons_zero, List.set_cons_succ]); exact rfl) ?_))
            | ((with_reducible show wpList _ _ _ (⟨some 6, .alloc 39, _, _, _, _⟩ :: _) _ _); first | (refine wpl rfl (wp_alloc (o := ⟨some 6, _, _, _, _, _⟩) hS 39 rfl (.agg #[.int .i64 0, .int .i64 0]) [.int .i64 0, .int .i64 0] (fun w => Try.zeroValue39 w) rfl ?_); clear hS; intro g6 w hS; refine wpl_put (by (simp only [Act.put, List.setIfInBounds_toArray, List.set_cons_zero, List.set_cons_succ]); exact rfl) ?_))
            | ((with_reducible show wpList _ _ _ (⟨_, .store 39 _ _, _, _, _, _⟩ :: _) _ _); first | (refine wpl rfl (wp_storeA hS 39 _ _ rfl _ rfl 2 (row_of rfl) _ _ (by (repeat (first | with_reducible exact Pull.head | apply Pull.tail))) (by rfl) (by (repeat (first | assumption | exact Len.rep | apply Len.set))) rfl ?_); clear hS; intro w hS) | (refine wpl rfl (wp_storeG hS 39 _ _ rfl _ rfl 2 (row_of rfl) _ _ (by (repeat (first | with_reducible exact Pull.head | apply Pull.tail))) (by rfl) (by rfl) (by rfl) (by rfl) rfl ?_); clear hS; intro w hS))
            | ((with_reducible show wpList _ _ _ (⟨_, .load 3 _, _, _, _, _⟩ :: _) _ _); first | (refine wpl rfl (wp_load1A hS 3 _ rfl _ _ rfl (one_of rfl) _ _ (by (repeat (first | with_reducible exact Pull.head | apply Pull.tail))) (by omega) ?_); refine wpl_put (by (simp only [Act.put, List.setIfInBounds_toArray, List.set_cons_zero, List.set_cons_succ]); exact rfl) ?_) | (refine wpl rfl (wp_load1 hS 3 _ rfl _ _ rfl (one_of rfl) _ (by (repeat (first | with_reducible exact Pull.head | apply Pull.tail))) _ (by rfl) ?_); refine wpl_put (by (simp only [Act.put, List.setIfInBounds_toArray, List.set_cons_zero, List.set_cons_succ]); exact rfl) ?_) | (refine wpl rfl (wp_load1O hS 3 _ rfl _ _ rfl (one_of rfl) _ _ _ _ _ (by (repeat (first | with_reducible exact Pull.head | apply Pull.tail))) _ (by with_reducible assumption) ?_); refine wpl_put (by (simp only [Act.put, List.setIfInBounds_toArray, List.set_cons_zero, List.set_cons_succ]); exact rfl) ?_) | (refine wpl rfl (wp_loadW hS 3 _ rfl _ rfl (one_of rfl) _ (by with_reducible assumption) ?_); refine wpl_put (by (simp only [Act.put, List.setIfInBounds_toArray, List.set_cons_zero, List.set_cons_succ]); exact rfl) ?_))
                                                            | (first | refine stop_load ?_ | refine stop_store ?_ | refine stop_alloc ?_ | refine stop_box ?_))
          go_ret2
          exact writes_nil _ _ ns n 1 (HBad.out) (by decide) hS.1
        · obtain ⟨xd, rfl⟩ : ∃ xd : Nat, x = (xd : Int) := ⟨x.toNat, by omega⟩
          have hx24 : xd ≤ 24 := by omega
          have hx1 : 0 ≤ (xd : Int) ∧ (xd : Int) ≤ 24 := by omega
          obtain ⟨p, hp⟩ : ∃ p, p = 2 ^ xd := ⟨_, rfl⟩
          have hp1 : p ≤ 16777216 := by rw [hp]; exact Nat.pow_le_pow_right (n := 2) (by omega) hx24
          have hpi : ((2 : Int) ^ xd) = (p : Int) := by rw [hp]; push_cast; rfl
          have hpow : wrap64 ((2 : Int) ^ xd) = (p : Int) := by rw [hpi]; unfold wrap64; omega
          have HP := hid hp
          rw [Int.toNat_natCast] at HFo HBit
          rw [hpi] at HFo
          clear hp hpi hx hx0
          by_cases hy0 : y < 0
          · have HBad : Hid (wErr ns n = 1) := by
              rcases HFb.out with h | h
              · rw [HFo.out] at h; simp at h; omega
              · exact h
            clear HFb HFo HBit HLen HOk
            go_wp2_with (first
              | ((with_reducible show wpList _ _ _ (⟨some 11, .box 61 _, _, _, _, _⟩ :: _) _ _); first | (refine wpl rfl (wp_boxG (o := ⟨some 11, _, _, _, _, _⟩) hS 61 _ rfl _ rfl ?_); clear hS; intro g11 w hS; refine wpl_put (by (simp only [Act.put, List.setIfInBounds_toArray, List.set_cons_zero, List.set_cons_succ]); exact rfl) ?_))
              | ((with_reducible show wpList _ _ _ (⟨_, .load 39 _, _, _, _, _⟩ :: _) _ _); first | (refine wpl rfl (wp_loadA hS 39 _ rfl _ rfl 2 (row_of rfl) _ (by (repeat (first | with_reducible exact Pull.head | apply Pull.tail))) ?_); refine wpl_put (by (simp only [Act.put, List.setIfInBounds_toArray, List.set_cons_zero, List.set_cons_succ]); exact rfl) ?_) | (refine wpl rfl (wp_loadG hS 39 _ rfl _ rfl 2 (row_of rfl) _ (by (repeat (first | with_reducible exact Pull.head | apply Pull.tail))) (by rfl) ?_); refine wpl_put (by (simp only [Act.put, List.setIfInBounds_toArray, List.set_cons_zero, List.set_cons_succ]); exact rfl) ?_) | (refine wpl rfl (wp_loadRW hS 39 _ rfl _ _ rfl 2 (row_of rfl) _ (by with_reducible assumption) (by rfl) ?_); refine wpl_put (by (simp only [Act.put, List.setIfInBounds_toArray, List.set_cons_zero, List.set_cons_succ]); exact rfl) ?_))
              | ((with_reducible show wpList _ _ _ (⟨some 6, .alloc 39, _, _, _, _⟩ :: _) _ _); first | (refine wpl rfl (wp_alloc (o := ⟨some 6, _, _, _, _, _⟩) hS 39 rfl (.agg #[.int .i64 0, .int .i64 0]) [.int .i64 0, .int .i64 0] (fun w => Try.zeroValue39 w) rfl ?_); clear hS; intro g6 w hS; refine wpl_put (by (simp only [Act.put, List.setIfInBounds_toArray, List.set_cons_zero, List.set_cons_succ]); exact rfl) ?_))
              | ((with_reducible show wpList _ _ _ (⟨_, .store 39 _ _, _, _, _, _⟩ :: _) _ _); first | (refine wpl rfl (wp_storeA hS 39 _ _ rfl _ rfl 2 (row_of rfl) _ _ (by (repeat (first | with_reducible exact Pull.head | apply Pull.tail))) (by rfl) (by (repeat (first | assumption | exact Len.rep | apply Len.set))) rfl ?_); clear hS; intro w hS) | (refine wpl rfl (wp_storeG hS 39 _ _ rfl _ rfl 2 (row_of rfl) _ _ (by (repeat (first | with_reducible exact Pull.head | apply Pull.tail))) (by rfl) (by rfl) (by rfl) (by rfl) rfl ?_); clear hS; intro w hS))
              | ((with_reducible show wpList _ _ _ (⟨_, .load 3 _, _, _, _, _⟩ :: _) _ _); first | (refine wpl rfl (wp_load1A hS 3 _ rfl _ _ rfl (one_of rfl) _ _ (by (repeat (first | with_reducible exact Pull.head | apply Pull.tail))) (by omega) ?_); refine wpl_put (by (simp only [Act.put, List.setIfInBounds_toArray, List.set_cons_zero, List.set_cons_succ]); exact rfl) ?_) | (refine wpl rfl (wp_load1 hS 3 _ rfl _ _ rfl (one_of rfl) _ (by (repeat (first | with_reducible exact Pull.head | apply Pull.tail))) _ (by rfl) ?_); refine wpl_put (by (simp only [Act.put, List.setIfInBounds_toArray, List.set_cons_zero, List.set_cons_succ]); exact rfl) ?_) | (refine wpl rfl (wp_load1O hS 3 _ rfl _ _ rfl (one_of rfl) _ _ _ _ _ (by (repeat (first | with_reducible exact Pull.head | apply Pull.tail))) _ (by with_reducible assumption) ?_); refine wpl_put (by (simp only [Act.put, List.setIfInBounds_toArray, List.set_cons_zero, List.set_cons_succ]); exact rfl) ?_) | (refine wpl rfl (wp_loadW hS 3 _ rfl _ rfl (one_of rfl) _ (by with_reducible assumption) ?_); refine wpl_put (by (simp only [Act.put, List.setIfInBounds_toArray, List.set_cons_zero, List.set_cons_succ]); exact rfl) ?_))
                                                            | (first | refine stop_load ?_ | refine stop_store ?_ | refine stop_alloc ?_ | refine stop_box ?_))
            refine drawn_lit [] (fun w => St w0 w [blk g6 [.int .i64 (xd : Int), .int .i64 y]]) (by kernel_rfl) ?_
            replace hS := hS.drew
            apply takeP 0 (by (repeat (first | with_reducible exact AtL.head | apply AtL.tail))) (by kernel_rfl) (by kernel_rfl) (by kernel_rfl) (fun _ _ _ _ h => h)
            case hfr => intro w; go_wp2_with fail; exact ⟨rfl, rfl⟩
            case hd => rfl
            apply takeS 1 (by (repeat (first | with_reducible exact AtL.head | apply AtL.tail))) (by kernel_rfl) (by kernel_rfl) (by kernel_rfl) (fun _ _ _ _ h => h) [2, 3, 4, 5, 6, 7, 8, 9, 10, 11, 12, 13, 14, 15, 16] (by kernel_rfl) (hS.sub (by (repeat (first | exact Sub.nil | with_reducible exact Sub.refl | (refine Sub.cons (by (repeat (first | with_reducible exact Pull.head | apply Pull.tail))) ?_) | apply Sub.skip))))
            case hfr => intro w hS; go_wp2_with (first | (refine wpl rfl (wp_load1A hS 3 _ rfl _ _ rfl (one_of rfl) _ _ (by (repeat (first | with_reducible exact Pull.head | apply Pull.tail))) (by omega) ?_); refine wpl_put (by (simp only [Act.put, List.setIfInBounds_toArray, List.set_cons_zero, List.set_cons_succ]); exact rfl) ?_) | (refine wpl rfl (wp_load1 hS 3 _ rfl _ _ rfl (one_of rfl) _ (by (repeat (first | with_reducible exact Pull.head | apply Pull.tail))) _ (by rfl) ?_); refine wpl_put (by (simp only [Act.put, List.setIfInBounds_toArray, List.set_cons_zero, List.set_cons_succ]); exact rfl) ?_) | (refine wpl rfl (wp_load1O hS 3 _ rfl _ _ rfl (one_of rfl) _ _ _ _ _ (by (repeat (first | with_reducible exact Pull.head | apply Pull.tail))) _ (by with_reducible assumption) ?_); refine wpl_put (by (simp only [Act.put, List.setIfInBounds_toArray, List.set_cons_zero, List.set_cons_succ]); exact rfl) ?_) | (refine wpl rfl (wp_loadW hS 3 _ rfl _ rfl (one_of rfl) _ (by with_reducible assumption) ?_); refine wpl_put (by (simp only [Act.put, List.setIfInBounds_toArray, List.set_cons_zero, List.set_cons_succ]); exact rfl) ?_)); exact ⟨rfl, rfl⟩
            case hd => rfl
            refine branch1 2 (by (repeat (first | with_reducible exact AtL.head | apply AtL.tail))) rfl (by kernel_rfl) ?_
            refine wp_callF (f := 33) rfl Try.call33 (isWidth_yes xd _ hx1) ?_; rintro e w' ⟨rfl, rfl⟩; refine ⟨_, rfl, ?_⟩
            refine ⟨fun _ _ => hS.sub (by (repeat (first | exact Sub.nil | with_reducible exact Sub.refl | (refine Sub.cons (by (repeat (first | with_reducible exact Pull.head | apply Pull.tail))) ?_) | apply Sub.skip))), ?_⟩
            refine drawn_put (by (simp only [Act.put, List.setIfInBounds_toArray, List.set_cons_zero, List.set_cons_succ]); exact rfl) ?_
            apply takeP 3 (by (repeat (first | with_reducible exact AtL.head | apply AtL.tail))) (by kernel_rfl) (by kernel_rfl) (by kernel_rfl) (fun _ _ _ _ h => h)
            case hfr => intro w; go_wp2_with fail; exact ⟨rfl, rfl⟩
            case hd => rfl
            apply takeP 4 (by (repeat (first | with_reducible exact AtL.head | apply AtL.tail))) (by kernel_rfl) (by kernel_rfl) (by kernel_rfl) (fun _ _ _ _ h => h)
            case hfr => intro w; go_wp2_with fail; exact ⟨rfl, rfl⟩
            case hd => rfl
            apply takeP 5 (by (repeat (first | with_reducible exact AtL.head | apply AtL.tail))) (by kernel_rfl) (by kernel_rfl) (by kernel_rfl) (fun _ _ _ _ h => h)
            case hfr => intro w; go_wp2_with fail; exact ⟨rfl, rfl⟩
            case hd => rfl
            apply takeS 6 (by (repeat (first | with_reducible exact AtL.head | apply AtL.tail))) (by kernel_rfl) (by kernel_rfl) (by kernel_rfl) (fun _ _ _ _ h => h) [7, 8, 9, 10, 11, 12, 13, 14, 15, 16] (by kernel_rfl) (hS.sub (by (repeat (first | exact Sub.nil | with_reducible exact Sub.refl | (refine Sub.cons (by (repeat (first | with_reducible exact Pull.head | apply Pull.tail))) ?_) | apply Sub.skip))))
            case hfr => intro w hS; go_wp2_with (first | (refine wpl rfl (wp_load1A hS 3 _ rfl _ _ rfl (one_of rfl) _ _ (by (repeat (first | with_reducible exact Pull.head | apply Pull.tail))) (by omega) ?_); refine wpl_put (by (simp only [Act.put, List.setIfInBounds_toArray, List.set_cons_zero, List.set_cons_succ]); exact rfl) ?_) | (refine wpl rfl (wp_load1 hS 3 _ rfl _ _ rfl (one_of rfl) _ (by (repeat (first | with_reducible exact Pull.head | apply Pull.tail))) _ (by rfl) ?_); refine wpl_put (by (simp only [Act.put, List.setIfInBounds_toArray, List.set_cons_zero, List.set_cons_succ]); exact rfl) ?_) | (refine wpl rfl (wp_load1O hS 3 _ rfl _ _ rfl (one_of rfl) _ _ _ _ _ (by (repeat (first | with_reducible exact Pull.head | apply Pull.tail))) _ (by with_reducible assumption) ?_); refine wpl_put (by (simp only [Act.put, List.setIfInBounds_toArray, List.set_cons_zero, List.set_cons_succ]); exact rfl) ?_) | (refine wpl rfl (wp_loadW hS 3 _ rfl _ rfl (one_of rfl) _ (by with_reducible assumption) ?_); refine wpl_put (by (simp only [Act.put, List.setIfInBounds_toArray, List.set_cons_zero, List.set_cons_succ]); exact rfl) ?_)); exact ⟨rfl, rfl⟩
            case hd => rfl
            apply takeP 7 (by (repeat (first | with_reducible exact AtL.head | apply AtL.tail))) (by kernel_rfl) (by kernel_rfl) (by kernel_rfl) (fun _ _ _ _ h => h)
            case hfr => intro w; go_wp2_with fail; exact ⟨rfl, rfl⟩
            case hd => rfl
            apply takeP 8 (by (repeat (first | with_reducible exact AtL.head | apply AtL.tail))) (by kernel_rfl) (by kernel_rfl) (by kernel_rfl) (fun _ _ _ _ h => h)
            case hfr => intro w; go_wp2_with fail; exact ⟨rfl, rfl⟩
            case hd => rfl
            apply takeP 9 (by (repeat (first | with_reducible exact AtL.head | apply AtL.tail))) (by kernel_rfl) (by kernel_rfl) (by kernel_rfl) (fun _ _ _ _ h => h)
            case hfr => intro w; go_wp2_with fail; exact ⟨rfl, rfl⟩
            case hd => rfl
            apply takeP 10 (by (repeat (first | with_reducible exact AtL.head | apply AtL.tail))) (by kernel_rfl) (by kernel_rfl) (by kernel_rfl) (fun _ _ _ _ h => h)
            case hfr => intro w; go_wp2_with fail; exact ⟨rfl, rfl⟩
            case hd => rfl
            apply takeS 11 (by (repeat (first | with_reducible exact AtL.head | apply AtL.tail))) (by kernel_rfl) (by kernel_rfl) (by kernel_rfl) (fun _ _ _ _ h => h) [15, 16] (by kernel_rfl) (hS.sub (by (repeat (first | exact Sub.nil | with_reducible exact Sub.refl | (refine Sub.cons (by (repeat (first | with_reducible exact Pull.head | apply Pull.tail))) ?_) | apply Sub.skip))))
            case hfr => intro w hS; go_wp2_with (first | (refine wpl rfl (wp_load1A hS 3 _ rfl _ _ rfl (one_of rfl) _ _ (by (repeat (first | with_reducible exact Pull.head | apply Pull.tail))) (by omega) ?_); refine wpl_put (by (simp only [Act.put, List.setIfInBounds_toArray, List.set_cons_zero, List.set_cons_succ]); exact rfl) ?_) | (refine wpl rfl (wp_load1 hS 3 _ rfl _ _ rfl (one_of rfl) _ (by (repeat (first | with_reducible exact Pull.head | apply Pull.tail))) _ (by rfl) ?_); refine wpl_put (by (simp only [Act.put, List.setIfInBounds_toArray, List.set_cons_zero, List.set_cons_succ]); exact rfl) ?_) | (refine wpl rfl (wp_load1O hS 3 _ rfl _ _ rfl (one_of rfl) _ _ _ _ _ (by (repeat (first | with_reducible exact Pull.head | apply Pull.tail))) _ (by with_reducible assumption) ?_); refine wpl_put (by (simp only [Act.put, List.setIfInBounds_toArray, List.set_cons_zero, List.set_cons_succ]); exact rfl) ?_) | (refine wpl rfl (wp_loadW hS 3 _ rfl _ rfl (one_of rfl) _ (by with_reducible assumption) ?_); refine wpl_put (by (simp only [Act.put, List.setIfInBounds_toArray, List.set_cons_zero, List.set_cons_succ]); exact rfl) ?_)); exact ⟨rfl, rfl⟩
            case hd => rfl
            apply takeP 12 (by (repeat (first | with_reducible exact AtL.head | apply AtL.tail))) (by kernel_rfl) (by kernel_rfl) (by kernel_rfl) (fun _ _ _ _ h => h)
            case hfr => intro w; go_wp2_with fail; exact ⟨rfl, rfl⟩
            case hd => rfl
            apply takeS 13 (by (repeat (first | with_reducible exact AtL.head | apply AtL.tail))) (by kernel_rfl) (by kernel_rfl) (by kernel_rfl) (fun _ _ _ _ h => h) [14, 15, 16] (by kernel_rfl) (hS.sub (by (repeat (first | exact Sub.nil | with_reducible exact Sub.refl | (refine Sub.cons (by (repeat (first | with_reducible exact Pull.head | apply Pull.tail))) ?_) | apply Sub.skip))))
            case hfr => intro w hS; go_wp2_with (first | (refine wpl rfl (wp_load1A hS 3 _ rfl _ _ rfl (one_of rfl) _ _ (by (repeat (first | with_reducible exact Pull.head | apply Pull.tail))) (by omega) ?_); refine wpl_put (by (simp only [Act.put, List.setIfInBounds_toArray, List.set_cons_zero, List.set_cons_succ]); exact rfl) ?_) | (refine wpl rfl (wp_load1 hS 3 _ rfl _ _ rfl (one_of rfl) _ (by (repeat (first | with_reducible exact Pull.head | apply Pull.tail))) _ (by rfl) ?_); refine wpl_put (by (simp only [Act.put, List.setIfInBounds_toArray, List.set_cons_zero, List.set_cons_succ]); exact rfl) ?_) | (refine wpl rfl (wp_load1O hS 3 _ rfl _ _ rfl (one_of rfl) _ _ _ _ _ (by (repeat (first | with_reducible exact Pull.head | apply Pull.tail))) _ (by with_reducible assumption) ?_); refine wpl_put (by (simp only [Act.put, List.setIfInBounds_toArray, List.set_cons_zero, List.set_cons_succ]); exact rfl) ?_) | (refine wpl rfl (wp_loadW hS 3 _ rfl _ rfl (one_of rfl) _ (by with_reducible assumption) ?_); refine wpl_put (by (simp only [Act.put, List.setIfInBounds_toArray, List.set_cons_zero, List.set_cons_succ]); exact rfl) ?_)); exact ⟨rfl, rfl⟩
            case hd => rfl
            apply takeP 14 (by (repeat (first | with_reducible exact AtL.head | apply AtL.tail))) (by kernel_rfl) (by kernel_rfl) (by kernel_rfl) (fun _ _ _ _ h => h)
            case hfr => intro w; go_wp2_with fail; exact ⟨rfl, rfl⟩
            case hd => rfl
            apply takeP 15 (by (repeat (first | with_reducible exact AtL.head | apply AtL.tail))) (by kernel_rfl) (by kernel_rfl) (by kernel_rfl) (fun _ _ _ _ h => h)
            case hfr => intro w; go_wp2_with fail; exact ⟨rfl, rfl⟩
            case hd => rfl
            apply takeP 16 (by (repeat (first | with_reducible exact AtL.head | apply AtL.tail))) (by kernel_rfl) (by kernel_rfl) (by kernel_rfl) (fun _ _ _ _ h => h)
            case hfr => intro w; go_wp2_with fail; exact ⟨rfl, rfl⟩
            case hd => rfl
            refine drawn_done (by kernel_rfl) ?_ _
            go_wp2_with (first
              | ((with_reducible show wpList _ _ _ (⟨some 11, .box 61 _, _, _, _, _⟩ :: _) _ _); first | (refine wpl rfl (wp_boxG (o := ⟨some 11, _, _, _, _, _⟩) hS 61 _ rfl _ rfl ?_); clear hS; intro g11 w hS; refine wpl_put (by (simp only [Act.put, List.setIfInBounds_toArray, List.set_cons_zero, List.set_cons_succ]); exact rfl) ?_))
              | ((with_reducible show wpList _ _ _ (⟨_, .load 39 _, _, _, _, _⟩ :: _) _ _); first | (refine wpl rfl (wp_loadA hS 39 _ rfl _ rfl 2 (row_of rfl) _ (by (repeat (first | with_reducible exact Pull.head | apply Pull.tail))) ?_); refine wpl_put (by (simp only [Act.put, List.setIfInBounds_toArray, List.set_cons_zero, List.set_cons_succ]); exact rfl) ?_) | (refine wpl rfl (wp_loadG hS 39 _ rfl _ rfl 2 (row_of rfl) _ (by (repeat (first | with_reducible exact Pull.head | apply Pull.tail))) (by rfl) ?_); refine wpl_put (by (simp only [Act.put, List.setIfInBounds_toArray, List.set_cons_zero, List.set_cons_succ]); exact rfl) ?_) | (refine wpl rfl (wp_loadRW hS 39 _ rfl _ _ rfl 2 (row_of rfl) _ (by with_reducible assumption) (by rfl) ?_); refine wpl_put (by (simp only [Act.put, List.setIfInBounds_toArray, List.set_cons_zero, List.set_cons_succ]); exact rfl) ?_))
              | ((with_reducible show wpList _ _ _ (⟨some 6, .alloc 39, _, _, _, _⟩ :: _) _ _); first | (refine wpl rfl (wp_alloc (o := ⟨some 6, _, _, _, _, _⟩) hS 39 rfl (.agg #[.int .i64 0, .int .i64 0]) [.int .i64 0, .int .i64 0] (fun w => Try.zeroValue39 w) rfl ?_); clear hS; intro g6 w hS; refine wpl_put (by (simp only [Act.put, List.setIfInBounds_toArray, List.set_cons_zero, List.set_cons_succ]); exact rfl) ?_))
              | ((with_reducible show wpList _ _ _ (⟨_, .store 39 _ _, _, _, _, _⟩ :: _) _ _); first | (refine wpl rfl (wp_storeA hS 39 _ _ rfl _ rfl 2 (row_of rfl) _ _ (by (repeat (first | with_reducible exact Pull.head | apply Pull.tail))) (by rfl) (by (repeat (first | assumption | exact Len.rep | apply Len.set))) rfl ?_); clear hS; intro w hS) | (refine wpl rfl (wp_storeG hS 39 _ _ rfl _ rfl 2 (row_of rfl) _ _ (by (repeat (first | with_reducible exact Pull.head | apply Pull.tail))) (by rfl) (by rfl) (by rfl) (by rfl) rfl ?_); clear hS; intro w hS))
              | ((with_reducible show wpList _ _ _ (⟨_, .load 3 _, _, _, _, _⟩ :: _) _ _); first | (refine wpl rfl (wp_load1A hS 3 _ rfl _ _ rfl (one_of rfl) _ _ (by (repeat (first | with_reducible exact Pull.head | apply Pull.tail))) (by omega) ?_); refine wpl_put (by (simp only [Act.put, List.setIfInBounds_toArray, List.set_cons_zero, List.set_cons_succ]); exact rfl) ?_) | (refine wpl rfl (wp_load1 hS 3 _ rfl _ _ rfl (one_of rfl) _ (by (repeat (first | with_reducible exact Pull.head | apply Pull.tail))) _ (by rfl) ?_); refine wpl_put (by (simp only [Act.put, List.setIfInBounds_toArray, List.set_cons_zero, List.set_cons_succ]); exact rfl) ?_) | (refine wpl rfl (wp_load1O hS 3 _ rfl _ _ rfl (one_of rfl) _ _ _ _ _ (by (repeat (first | with_reducible exact Pull.head | apply Pull.tail))) _ (by with_reducible assumption) ?_); refine wpl_put (by (simp only [Act.put, List.setIfInBounds_toArray, List.set_cons_zero, List.set_cons_succ]); exact rfl) ?_) | (refine wpl rfl (wp_loadW hS 3 _ rfl _ rfl (one_of rfl) _ (by with_reducible assumption) ?_); refine wpl_put (by (simp only [Act.put, List.setIfInBounds_toArray, List.set_cons_zero, List.set_cons_succ]); exact rfl) ?_))
                                                            | (first | refine stop_load ?_ | refine stop_store ?_ | refine stop_alloc ?_ | refine stop_box ?_))
            go_ret2
            exact writes_nil _ _ ns n 1 (HBad.out) (by decide) hS.1
          · have hy2 : 0 ≤ y := by omega
            have hy4 : decide (y < 0) = false := by simp; omega
            clear hy0
            by_cases hyp : (p : Int) ≤ y
            · have HBad : Hid (wErr ns n = 1) := by
                rcases HFb.out with h | h
                · rw [HFo.out] at h; simp at h; omega
                · exact h
              clear HFb HFo HBit HLen HOk
              go_wp2_with (first
                | ((with_reducible show wpList _ _ _ (⟨some 11, .box 61 _, _, _, _, _⟩ :: _) _ _); first | (refine wpl rfl (wp_boxG (o := ⟨some 11, _, _, _, _, _⟩) hS 61 _ rfl _ rfl ?_); clear hS; intro g11 w hS; refine wpl_put (by (simp only [Act.put, List.setIfInBounds_toArray, List.set_cons_zero, List.set_cons_succ]); exact rfl) ?_))
                | ((with_reducible show wpList _ _ _ (⟨_, .load 39 _, _, _, _, _⟩ :: _) _ _); first | (refine wpl rfl (wp_loadA hS 39 _ rfl _ rfl 2 (row_of rfl) _ (by (repeat (first | with_reducible exact Pull.head | apply Pull.tail))) ?_); refine wpl_put (by (simp only [Act.put, List.setIfInBounds_toArray, List.set_cons_zero, List.set_cons_succ]); exact rfl) ?_) | (refine wpl rfl (wp_loadG hS 39 _ rfl _ rfl 2 (row_of rfl) _ (by (repeat (first | with_reducible exact Pull.head | apply Pull.tail))) (by rfl) ?_); refine wpl_put (by (simp only [Act.put, List.setIfInBounds_toArray, List.set_cons_zero, List.set_cons_succ]); exact rfl) ?_) | (refine wpl rfl (wp_loadRW hS 39 _ rfl _ _ rfl 2 (row_of rfl) _ (by with_reducible assumption) (by rfl) ?_); refine wpl_put (by (simp only [Act.put, List.setIfInBounds_toArray, List.set_cons_zero, List.set_cons_succ]); exact rfl) ?_))
                | ((with_reducible show wpList _ _ _ (⟨some 6, .alloc 39, _, _, _, _⟩ :: _) _ _); first | (refine wpl rfl (wp_alloc (o := ⟨some 6, _, _, _, _, _⟩) hS 39 rfl (.agg #[.int .i64 0, .int .i64 0]) [.int .i64 0, .int .i64 0] (fun w => Try.zeroValue39 w) rfl ?_); clear hS; intro g6 w hS; refine wpl_put (by (simp only [Act.put, List.setIfInBounds_toArray, List.set_cons_zero, List.set_cons_succ]); exact rfl) ?_))
                | ((with_reducible show wpList _ _ _ (⟨_, .store 39 _ _, _, _, _, _⟩ :: _) _ _); first | (refine wpl rfl (wp_storeA hS 39 _ _ rfl _ rfl 2 (row_of rfl) _ _ (by (repeat (first | with_reducible exact Pull.head | apply Pull.tail))) (by rfl) (by (repeat (first | assumption | exact Len.rep | apply Len.set))) rfl ?_); clear hS; intro w hS) | (refine wpl rfl (wp_storeG hS 39 _ _ rfl _ rfl 2 (row_of rfl) _ _ (by (repeat (first | with_reducible exact Pull.head | apply Pull.tail))) (by rfl) (by rfl) (by rfl) (by rfl) rfl ?_); clear hS; intro w hS))
                | ((with_reducible show wpList _ _ _ (⟨_, .load 3 _, _, _, _, _⟩ :: _) _ _); first | (refine wpl rfl (wp_load1A hS 3 _ rfl _ _ rfl (one_of rfl) _ _ (by (repeat (first | with_reducible exact Pull.head | apply Pull.tail))) (by omega) ?_); refine wpl_put (by (simp only [Act.put, List.setIfInBounds_toArray, List.set_cons_zero, List.set_cons_succ]); exact rfl) ?_) | (refine wpl rfl (wp_load1 hS 3 _ rfl _ _ rfl (one_of rfl) _ (by (repeat (first | with_reducible exact Pull.head | apply Pull.tail))) _ (by rfl) ?_); refine wpl_put (by (simp only [Act.put, List.setIfInBounds_toArray, List.set_cons_zero, List.set_cons_succ]); exact rfl) ?_) | (refine wpl rfl (wp_load1O hS 3 _ rfl _ _ rfl (one_of rfl) _ _ _ _ _ (by (repeat (first | with_reducible exact Pull.head | apply Pull.tail))) _ (by with_reducible assumption) ?_); refine wpl_put (by (simp only [Act.put, List.setIfInBounds_toArray, List.set_cons_zero, List.set_cons_succ]); exact rfl) ?_) | (refine wpl rfl (wp_loadW hS 3 _ rfl _ rfl (one_of rfl) _ (by with_reducible assumption) ?_); refine wpl_put (by (simp only [Act.put, List.setIfInBounds_toArray, List.set_cons_zero, List.set_cons_succ]); exact rfl) ?_))
                                                            | (first | refine stop_load ?_ | refine stop_store ?_ | refine stop_alloc ?_ | refine stop_box ?_))
              refine drawn_lit [] (fun w => St w0 w [blk g6 [.int .i64 (xd : Int), .int .i64 y]]) (by kernel_rfl) ?_
              replace hS := hS.drew
              apply takeP 0 (by (repeat (first | with_reducible exact AtL.head | apply AtL.tail))) (by kernel_rfl) (by kernel_rfl) (by kernel_rfl) (fun _ _ _ _ h => h)
              case hfr => intro w; go_wp2_with fail; exact ⟨rfl, rfl⟩
              case hd => rfl
              apply takeS 1 (by (repeat (first | with_reducible exact AtL.head | apply AtL.tail))) (by kernel_rfl) (by kernel_rfl) (by kernel_rfl) (fun _ _ _ _ h => h) [2, 3, 4, 5, 6, 7, 8, 9, 10, 11, 12, 13, 14, 15, 16] (by kernel_rfl) (hS.sub (by (repeat (first | exact Sub.nil | with_reducible exact Sub.refl | (refine Sub.cons (by (repeat (first | with_reducible exact Pull.head | apply Pull.tail))) ?_) | apply Sub.skip))))
              case hfr => intro w hS; go_wp2_with (first | (refine wpl rfl (wp_load1A hS 3 _ rfl _ _ rfl (one_of rfl) _ _ (by (repeat (first | with_reducible exact Pull.head | apply Pull.tail))) (by omega) ?_); refine wpl_put (by (simp only [Act.put, List.setIfInBounds_toArray, List.set_cons_zero, List.set_cons_succ]); exact rfl) ?_) | (refine wpl rfl (wp_load1 hS 3 _ rfl _ _ rfl (one_of rfl) _ (by (repeat (first | with_reducible exact Pull.head | apply Pull.tail))) _ (by rfl) ?_); refine wpl_put (by (simp only [Act.put, List.setIfInBounds_toArray, List.set_cons_zero, List.set_cons_succ]); exact rfl) ?_) | (refine wpl rfl (wp_load1O hS 3 _ rfl _ _ rfl (one_of rfl) _ _ _ _ _ (by (repeat (first | with_reducible exact Pull.head | apply Pull.tail))) _ (by with_reducible assumption) ?_); refine wpl_put (by (simp only [Act.put, List.setIfInBounds_toArray, List.set_cons_zero, List.set_cons_succ]); exact rfl) ?_) | (refine wpl rfl (wp_loadW hS 3 _ rfl _ rfl (one_of rfl) _ (by with_reducible assumption) ?_); refine wpl_put (by (simp only [Act.put, List.setIfInBounds_toArray, List.set_cons_zero, List.set_cons_succ]); exact rfl) ?_)); exact ⟨rfl, rfl⟩
              case hd => rfl
              refine branch1 2 (by (repeat (first | with_reducible exact AtL.head | apply AtL.tail))) rfl (by kernel_rfl) ?_
              refine wp_callF (f := 33) rfl Try.call33 (isWidth_yes xd _ hx1) ?_; rintro e w' ⟨rfl, rfl⟩; refine ⟨_, rfl, ?_⟩
              refine ⟨fun _ _ => hS.sub (by (repeat (first | exact Sub.nil | with_reducible exact Sub.refl | (refine Sub.cons (by (repeat (first | with_reducible exact Pull.head | apply Pull.tail))) ?_) | apply Sub.skip))), ?_⟩
              refine drawn_put (by (simp only [Act.put, List.setIfInBounds_toArray, List.set_cons_zero, List.set_cons_succ]); exact rfl) ?_
              apply takeP 3 (by (repeat (first | with_reducible exact AtL.head | apply AtL.tail))) (by kernel_rfl) (by kernel_rfl) (by kernel_rfl) (fun _ _ _ _ h => h)
              case hfr => intro w; go_wp2_with fail; exact ⟨rfl, rfl⟩
              case hd => rfl
              apply takeP 4 (by (repeat (first | with_reducible exact AtL.head | apply AtL.tail))) (by kernel_rfl) (by kernel_rfl) (by kernel_rfl) (fun _ _ _ _ h => h)
              case hfr => intro w; go_wp2_with fail; exact ⟨rfl, rfl⟩
              case hd => rfl
              apply takeP 5 (by (repeat (first | with_reducible exact AtL.head | apply AtL.tail))) (by kernel_rfl) (by kernel_rfl) (by kernel_rfl) (fun _ _ _ _ h => h)
              case hfr => intro w; go_wp2_with fail; exact ⟨rfl, rfl⟩
              case hd => rfl
              apply takeS 6 (by (repeat (first | with_reducible exact AtL.head | apply AtL.tail))) (by kernel_rfl) (by kernel_rfl) (by kernel_rfl) (fun _ _ _ _ h => h) [7, 8, 9, 10, 11, 12, 13, 14, 15, 16] (by kernel_rfl) (hS.sub (by (repeat (first | exact Sub.nil | with_reducible exact Sub.refl | (refine Sub.cons (by (repeat (first | with_reducible exact Pull.head | apply Pull.tail))) ?_) | apply Sub.skip))))
              case hfr => intro w hS; go_wp2_with (first | (refine wpl rfl (wp_load1A hS 3 _ rfl _ _ rfl (one_of rfl) _ _ (by (repeat (first | with_reducible exact Pull.head | apply Pull.tail))) (by omega) ?_); refine wpl_put (by (simp only [Act.put, List.setIfInBounds_toArray, List.set_cons_zero, List.set_cons_succ]); exact rfl) ?_) | (refine wpl rfl (wp_load1 hS 3 _ rfl _ _ rfl (one_of rfl) _ (by (repeat (first | with_reducible exact Pull.head | apply Pull.tail))) _ (by rfl) ?_); refine wpl_put (by (simp only [Act.put, List.setIfInBounds_toArray, List.set_cons_zero, List.set_cons_succ]); exact rfl) ?_) | (refine wpl rfl (wp_load1O hS 3 _ rfl _ _ rfl (one_of rfl) _ _ _ _ _ (by (repeat (first | with_reducible exact Pull.head | apply Pull.tail))) _ (by with_reducible assumption) ?_); refine wpl_put (by (simp only [Act.put, List.setIfInBounds_toArray, List.set_cons_zero, List.set_cons_succ]); exact rfl) ?_) | (refine wpl rfl (wp_loadW hS 3 _ rfl _ rfl (one_of rfl) _ (by with_reducible assumption) ?_); refine wpl_put (by (simp only [Act.put, List.setIfInBounds_toArray, List.set_cons_zero, List.set_cons_succ]); exact rfl) ?_)); exact ⟨rfl, rfl⟩
              case hd => rfl
              apply takeP 7 (by (repeat (first | with_reducible exact AtL.head | apply AtL.tail))) (by kernel_rfl) (by kernel_rfl) (by kernel_rfl) (fun _ _ _ _ h => h)
              case hfr => intro w; go_wp2_with fail; exact ⟨rfl, rfl⟩
              case hd => rfl
              apply takeP 8 (by (repeat (first | with_reducible exact AtL.head | apply AtL.tail))) (by kernel_rfl) (by kernel_rfl) (by kernel_rfl) (fun _ _ _ _ h => h)
              case hfr => intro w; go_wp2_with fail; exact ⟨rfl, rfl⟩
              case hd => rfl
              apply takeP 9 (by (repeat (first | with_reducible exact AtL.head | apply AtL.tail))) (by kernel_rfl) (by kernel_rfl) (by kernel_rfl) (fun _ _ _ _ h => h)
              case hfr => intro w; go_wp2_with fail; exact ⟨rfl, rfl⟩
              case hd => rfl
              apply takeP 10 (by (repeat (first | with_reducible exact AtL.head | apply AtL.tail))) (by kernel_rfl) (by kernel_rfl) (by kernel_rfl) (fun _ _ _ _ h => h)
              case hfr => intro w; go_wp2_with fail; exact ⟨rfl, rfl⟩
              case hd => rfl
              apply takeS 11 (by (repeat (first | with_reducible exact AtL.head | apply AtL.tail))) (by kernel_rfl) (by kernel_rfl) (by kernel_rfl) (fun _ _ _ _ h => h) [15, 16] (by kernel_rfl) (hS.sub (by (repeat (first | exact Sub.nil | with_reducible exact Sub.refl | (refine Sub.cons (by (repeat (first | with_reducible exact Pull.head | apply Pull.tail))) ?_) | apply Sub.skip))))
              case hfr => intro w hS; go_wp2_with (first | (refine wpl rfl (wp_load1A hS 3 _ rfl _ _ rfl (one_of rfl) _ _ (by (repeat (first | with_reducible exact Pull.head | apply Pull.tail))) (by omega) ?_); refine wpl_put (by (simp only [Act.put, List.setIfInBounds_toArray, List.set_cons_zero, List.set_cons_succ]); exact rfl) ?_) | (refine wpl rfl (wp_load1 hS 3 _ rfl _ _ rfl (one_of rfl) _ (by (repeat (first | with_reducible exact Pull.head | apply Pull.tail))) _ (by rfl) ?_); refine wpl_put (by (simp only [Act.put, List.setIfInBounds_toArray, List.set_cons_zero, List.set_cons_succ]); exact rfl) ?_) | (refine wpl rfl (wp_load1O hS 3 _ rfl _ _ rfl (one_of rfl) _ _ _ _ _ (by (repeat (first | with_reducible exact Pull.head | apply Pull.tail))) _ (by with_reducible assumption) ?_); refine wpl_put (by (simp only [Act.put, List.setIfInBounds_toArray, List.set_cons_zero, List.set_cons_succ]); exact rfl) ?_) | (refine wpl rfl (wp_loadW hS 3 _ rfl _ rfl (one_of rfl) _ (by with_reducible assumption) ?_); refine wpl_put (by (simp only [Act.put, List.setIfInBounds_toArray, List.set_cons_zero, List.set_cons_succ]); exact rfl) ?_)); exact ⟨rfl, rfl⟩
              case hd => rfl
              apply takeP 12 (by (repeat (first | with_reducible exact AtL.head | apply AtL.tail))) (by kernel_rfl) (by kernel_rfl) (by kernel_rfl) (fun _ _ _ _ h => h)
              case hfr => intro w; go_wp2_with fail; exact ⟨rfl, rfl⟩
              case hd => rfl
              apply takeS 13 (by (repeat (first | with_reducible exact AtL.head | apply AtL.tail))) (by kernel_rfl) (by kernel_rfl) (by kernel_rfl) (fun _ _ _ _ h => h) [14, 15, 16] (by kernel_rfl) (hS.sub (by (repeat (first | exact Sub.nil | with_reducible exact Sub.refl | (refine Sub.cons (by (repeat (first | with_reducible exact Pull.head | apply Pull.tail))) ?_) | apply Sub.skip))))
              case hfr => intro w hS; go_wp2_with (first | (refine wpl rfl (wp_load1A hS 3 _ rfl _ _ rfl (one_of rfl) _ _ (by (repeat (first | with_reducible exact Pull.head | apply Pull.tail))) (by omega) ?_); refine wpl_put (by (simp only [Act.put, List.setIfInBounds_toArray, List.set_cons_zero, List.set_cons_succ]); exact rfl) ?_) | (refine wpl rfl (wp_load1 hS 3 _ rfl _ _ rfl (one_of rfl) _ (by (repeat (first | with_reducible exact Pull.head | apply Pull.tail))) _ (by rfl) ?_); refine wpl_put (by (simp only [Act.put, List.setIfInBounds_toArray, List.set_cons_zero, List.set_cons_succ]); exact rfl) ?_) | (refine wpl rfl (wp_load1O hS 3 _ rfl _ _ rfl (one_of rfl) _ _ _ _ _ (by (repeat (first | with_reducible exact Pull.head | apply Pull.tail))) _ (by with_reducible assumption) ?_); refine wpl_put (by (simp only [Act.put, List.setIfInBounds_toArray, List.set_cons_zero, List.set_cons_succ]); exact rfl) ?_) | (refine wpl rfl (wp_loadW hS 3 _ rfl _ rfl (one_of rfl) _ (by with_reducible assumption) ?_); refine wpl_put (by (simp only [Act.put, List.setIfInBounds_toArray, List.set_cons_zero, List.set_cons_succ]); exact rfl) ?_)); exact ⟨rfl, rfl⟩
              case hd => rfl
              apply takeP 14 (by (repeat (first | with_reducible exact AtL.head | apply AtL.tail))) (by kernel_rfl) (by kernel_rfl) (by kernel_rfl) (fun _ _ _ _ h => h)
              case hfr => intro w; go_wp2_with fail; exact ⟨rfl, rfl⟩
              case hd => rfl
              apply takeP 15 (by (repeat (first | with_reducible exact AtL.head | apply AtL.tail))) (by kernel_rfl) (by kernel_rfl) (by kernel_rfl) (fun _ _ _ _ h => h)
              case hfr => intro w; go_wp2_with fail; exact ⟨rfl, rfl⟩
              case hd => rfl
              apply takeP 16 (by (repeat (first | with_reducible exact AtL.head | apply AtL.tail))) (by kernel_rfl) (by kernel_rfl) (by kernel_rfl) (fun _ _ _ _ h => h)
              case hfr => intro w; go_wp2_with fail; exact ⟨rfl, rfl⟩
              case hd => rfl
              refine drawn_done (by kernel_rfl) ?_ _
              go_wp2_with (first
                | ((with_reducible show wpList _ _ _ (⟨some 11, .box 61 _, _, _, _, _⟩ :: _) _ _); first | (refine wpl rfl (wp_boxG (o := ⟨some 11, _, _, _, _, _⟩) hS 61 _ rfl _ rfl ?_); clear hS; intro g11 w hS; refine wpl_put (by (simp only [Act.put, List.setIfInBounds_toArray, List.set_cons_zero, List.set_cons_succ]); exact rfl) ?_))
                | ((with_reducible show wpList _ _ _ (⟨_, .load 39 _, _, _, _, _⟩ :: _) _ _); first | (refine wpl rfl (wp_loadA hS 39 _ rfl _ rfl 2 (row_of rfl) _ (by (repeat (first | with_reducible exact Pull.head | apply Pull.tail))) ?_); refine wpl_put (by (simp only [Act.put, List.setIfInBounds_toArray, List.set_cons_zero, List.set_cons_succ]); exact rfl) ?_) | (refine wpl rfl (wp_loadG hS 39 _ rfl _ rfl 2 (row_of rfl) _ (by (repeat (first | with_reducible exact Pull.head | apply Pull.tail))) (by rfl) ?_); refine wpl_put (by (simp only [Act.put, List.setIfInBounds_toArray, List.set_cons_zero, List.set_cons_succ]); exact rfl) ?_) | (refine wpl rfl (wp_loadRW hS 39 _ rfl _ _ rfl 2 (row_of rfl) _ (by with_reducible assumption) (by rfl) ?_); refine wpl_put (by (simp only [Act.put, List.setIfInBounds_toArray, List.set_cons_zero, List.set_cons_succ]); exact rfl) ?_))
                | ((with_reducible show wpList _ _ _ (⟨some 6, .alloc 39, _, _, _, _⟩ :: _) _ _); first | (refine wpl rfl (wp_alloc (o := ⟨some 6, _, _, _, _, _⟩) hS 39 rfl (.agg #[.int .i64 0, .int .i64 0]) [.int .i64 0, .int .i64 0] (fun w => Try.zeroValue39 w) rfl ?_); clear hS; intro g6 w hS; refine wpl_put (by (simp only [Act.put, List.setIfInBounds_toArray, List.set_cons_zero, List.set_cons_succ]); exact rfl) ?_))
                | ((with_reducible show wpList _ _ _ (⟨_, .store 39 _ _, _, _, _, _⟩ :: _) _ _); first | (refine wpl rfl (wp_storeA hS 39 _ _ rfl _ rfl 2 (row_of rfl) _ _ (by (repeat (first | with_reducible exact Pull.head | apply Pull.tail))) (by rfl) (by (repeat (first | assumption | exact Len.rep | apply Len.set))) rfl ?_); clear hS; intro w hS) | (refine wpl rfl (wp_storeG hS 39 _ _ rfl _ rfl 2 (row_of rfl) _ _ (by (repeat (first | with_reducible exact Pull.head | apply Pull.tail))) (by rfl) (by rfl) (by rfl) (by rfl) rfl ?_); clear hS; intro w hS))
                | ((with_reducible show wpList _ _ _ (⟨_, .load 3 _, _, _, _, _⟩ :: _) _ _); first | (refine wpl rfl (wp_load1A hS 3 _ rfl _ _ rfl (one_of rfl) _ _ (by (repeat (first | with_reducible exact Pull.head | apply Pull.tail))) (by omega) ?_); refine wpl_put (by (simp only [Act.put, List.setIfInBounds_toArray, List.set_cons_zero, List.set_cons_succ]); exact rfl) ?_) | (refine wpl rfl (wp_load1 hS 3 _ rfl _ _ rfl (one_of rfl) _ (by (repeat (first | with_reducible exact Pull.head | apply Pull.tail))) _ (by rfl) ?_); refine wpl_put (by (simp only [Act.put, List.setIfInBounds_toArray, List.set_cons_zero, List.set_cons_succ]); exact rfl) ?_) | (refine wpl rfl (wp_load1O hS 3 _ rfl _ _ rfl (one_of rfl) _ _ _ _ _ (by (repeat (first | with_reducible exact Pull.head | apply Pull.tail))) _ (by with_reducible assumption) ?_); refine wpl_put (by (simp only [Act.put, List.setIfInBounds_toArray, List.set_cons_zero, List.set_cons_succ]); exact rfl) ?_) | (refine wpl rfl (wp_loadW hS 3 _ rfl _ rfl (one_of rfl) _ (by with_reducible assumption) ?_); refine wpl_put (by (simp only [Act.put, List.setIfInBounds_toArray, List.set_cons_zero, List.set_cons_succ]); exact rfl) ?_))
                                                            | (first | refine stop_load ?_ | refine stop_store ?_ | refine stop_alloc ?_ | refine stop_box ?_))
              go_ret2
              exact writes_nil _ _ ns n 1 (HBad.out) (by decide) hS.1
            · obtain ⟨yd, rfl⟩ : ∃ yd : Nat, y = (yd : Int) := ⟨y.toNat, by omega⟩
              have hyp2 : (yd : Int) < (p : Int) := by omega
              have hy3 : (0 : Int) ≤ (yd : Int) := by omega
              have HOk2 : Hid (∀ j, j < i + 1 → fOk ns j = true) := fun j hj => by
                by_cases hji : j < i
                · exact HOk.out j hji
                · obtain rfl : j = i := by omega
                  rw [HFo.out]; simp; omega
              have HYP := hid (show yd < 2 ^ xd by rw [← HP.out]; omega)
              rw [Int.toNat_natCast] at HBit
              clear HFb HFo HOk hyp hy2 hy4
              go_wp2_with (first
                | ((with_reducible show wpList _ _ _ (⟨some 11, .box 61 _, _, _, _, _⟩ :: _) _ _); first | (refine wpl rfl (wp_boxG (o := ⟨some 11, _, _, _, _, _⟩) hS 61 _ rfl _ rfl ?_); clear hS; intro g11 w hS; refine wpl_put (by (simp only [Act.put, List.setIfInBounds_toArray, List.set_cons_zero, List.set_cons_succ]); exact rfl) ?_))
                | ((with_reducible show wpList _ _ _ (⟨_, .load 39 _, _, _, _, _⟩ :: _) _ _); first | (refine wpl rfl (wp_loadA hS 39 _ rfl _ rfl 2 (row_of rfl) _ (by (repeat (first | with_reducible exact Pull.head | apply Pull.tail))) ?_); refine wpl_put (by (simp only [Act.put, List.setIfInBounds_toArray, List.set_cons_zero, List.set_cons_succ]); exact rfl) ?_) | (refine wpl rfl (wp_loadG hS 39 _ rfl _ rfl 2 (row_of rfl) _ (by (repeat (first | with_reducible exact Pull.head | apply Pull.tail))) (by rfl) ?_); refine wpl_put (by (simp only [Act.put, List.setIfInBounds_toArray, List.set_cons_zero, List.set_cons_succ]); exact rfl) ?_) | (refine wpl rfl (wp_loadRW hS 39 _ rfl _ _ rfl 2 (row_of rfl) _ (by with_reducible assumption) (by rfl) ?_); refine wpl_put (by (simp only [Act.put, List.setIfInBounds_toArray, List.set_cons_zero, List.set_cons_succ]); exact rfl) ?_))
                | ((with_reducible show wpList _ _ _ (⟨some 6, .alloc 39, _, _, _, _⟩ :: _) _ _); first | (refine wpl rfl (wp_alloc (o := ⟨some 6, _, _, _, _, _⟩) hS 39 rfl (.agg #[.int .i64 0, .int .i64 0]) [.int .i64 0, .int .i64 0] (fun w => Try.zeroValue39 w) rfl ?_); clear hS; intro g6 w hS; refine wpl_put (by (simp only [Act.put, List.setIfInBounds_toArray, List.set_cons_zero, List.set_cons_succ]); exact rfl) ?_))
                | ((with_reducible show wpList _ _ _ (⟨_, .store 39 _ _, _, _, _, _⟩ :: _) _ _); first | (refine wpl rfl (wp_storeA hS 39 _ _ rfl _ rfl 2 (row_of rfl) _ _ (by (repeat (first | with_reducible exact Pull.head | apply Pull.tail))) (by rfl) (by (repeat (first | assumption | exact Len.rep | apply Len.set))) rfl ?_); clear hS; intro w hS) | (refine wpl rfl (wp_storeG hS 39 _ _ rfl _ rfl 2 (row_of rfl) _ _ (by (repeat (first | with_reducible exact Pull.head | apply Pull.tail))) (by rfl) (by rfl) (by rfl) (by rfl) rfl ?_); clear hS; intro w hS))
                | ((with_reducible show wpList _ _ _ (⟨_, .load 3 _, _, _, _, _⟩ :: _) _ _); first | (refine wpl rfl (wp_load1A hS 3 _ rfl _ _ rfl (one_of rfl) _ _ (by (repeat (first | with_reducible exact Pull.head | apply Pull.tail))) (by omega) ?_); refine wpl_put (by (simp only [Act.put, List.setIfInBounds_toArray, List.set_cons_zero, List.set_cons_succ]); exact rfl) ?_) | (refine wpl rfl (wp_load1 hS 3 _ rfl _ _ rfl (one_of rfl) _ (by (repeat (first | with_reducible exact Pull.head | apply Pull.tail))) _ (by rfl) ?_); refine wpl_put (by (simp only [Act.put, List.setIfInBounds_toArray, List.set_cons_zero, List.set_cons_succ]); exact rfl) ?_) | (refine wpl rfl (wp_load1O hS 3 _ rfl _ _ rfl (one_of rfl) _ _ _ _ _ (by (repeat (first | with_reducible exact Pull.head | apply Pull.tail))) _ (by with_reducible assumption) ?_); refine wpl_put (by (simp only [Act.put, List.setIfInBounds_toArray, List.set_cons_zero, List.set_cons_succ]); exact rfl) ?_) | (refine wpl rfl (wp_loadW hS 3 _ rfl _ rfl (one_of rfl) _ (by with_reducible assumption) ?_); refine wpl_put (by (simp only [Act.put, List.setIfInBounds_toArray, List.set_cons_zero, List.set_cons_succ]); exact rfl) ?_))
                                                            | (first | refine stop_load ?_ | refine stop_store ?_ | refine stop_alloc ?_ | refine stop_box ?_))
              refine drawn_lit [] (fun w => St w0 w [blk g6 [.int .i64 (xd : Int), .int .i64 (yd : Int)]]) (by kernel_rfl) ?_
              replace hS := hS.drew
              apply takeP 0 (by (repeat (first | with_reducible exact AtL.head | apply AtL.tail))) (by kernel_rfl) (by kernel_rfl) (by kernel_rfl) (fun _ _ _ _ h => h)
              case hfr => intro w; go_wp2_with fail; exact ⟨rfl, rfl⟩
              case hd => rfl
              apply takeS 1 (by (repeat (first | with_reducible exact AtL.head | apply AtL.tail))) (by kernel_rfl) (by kernel_rfl) (by kernel_rfl) (fun _ _ _ _ h => h) [2, 3, 4, 5, 6, 7, 8, 9, 10, 11, 12, 13, 14, 15, 16] (by kernel_rfl) (hS.sub (by (repeat (first | exact Sub.nil | with_reducible exact Sub.refl | (refine Sub.cons (by (repeat (first | with_reducible exact Pull.head | apply Pull.tail))) ?_) | apply Sub.skip))))
              case hfr => intro w hS; go_wp2_with (first | (refine wpl rfl (wp_load1A hS 3 _ rfl _ _ rfl (one_of rfl) _ _ (by (repeat (first | with_reducible exact Pull.head | apply Pull.tail))) (by omega) ?_); refine wpl_put (by (simp only [Act.put, List.setIfInBounds_toArray, List.set_cons_zero, List.set_cons_succ]); exact rfl) ?_) | (refine wpl rfl (wp_load1 hS 3 _ rfl _ _ rfl (one_of rfl) _ (by (repeat (first | with_reducible exact Pull.head | apply Pull.tail))) _ (by rfl) ?_); refine wpl_put (by (simp only [Act.put, List.setIfInBounds_toArray, List.set_cons_zero, List.set_cons_succ]); exact rfl) ?_) | (refine wpl rfl (wp_load1O hS 3 _ rfl _ _ rfl (one_of rfl) _ _ _ _ _ (by (repeat (first | with_reducible exact Pull.head | apply Pull.tail))) _ (by with_reducible assumption) ?_); refine wpl_put (by (simp only [Act.put, List.setIfInBounds_toArray, List.set_cons_zero, List.set_cons_succ]); exact rfl) ?_) | (refine wpl rfl (wp_loadW hS 3 _ rfl _ rfl (one_of rfl) _ (by with_reducible assumption) ?_); refine wpl_put (by (simp only [Act.put, List.setIfInBounds_toArray, List.set_cons_zero, List.set_cons_succ]); exact rfl) ?_)); exact ⟨rfl, rfl⟩
              case hd => rfl
              refine branch1 2 (by (repeat (first | with_reducible exact AtL.head | apply AtL.tail))) rfl (by kernel_rfl) ?_
              refine wp_callF (f := 33) rfl Try.call33 (isWidth_yes xd _ hx1) ?_; rintro e w' ⟨rfl, rfl⟩; refine ⟨_, rfl, ?_⟩
              refine ⟨fun _ _ => hS.sub (by (repeat (first | exact Sub.nil | with_reducible exact Sub.refl | (refine Sub.cons (by (repeat (first | with_reducible exact Pull.head | apply Pull.tail))) ?_) | apply Sub.skip))), ?_⟩
              refine drawn_put (by (simp only [Act.put, List.setIfInBounds_toArray, List.set_cons_zero, List.set_cons_succ]); exact rfl) ?_
              apply takeP 3 (by (repeat (first | with_reducible exact AtL.head | apply AtL.tail))) (by kernel_rfl) (by kernel_rfl) (by kernel_rfl) (fun _ _ _ _ h => h)
              case hfr => intro w; go_wp2_with fail; exact ⟨rfl, rfl⟩
              case hd => rfl
              apply takeP 4 (by (repeat (first | with_reducible exact AtL.head | apply AtL.tail))) (by kernel_rfl) (by kernel_rfl) (by kernel_rfl) (fun _ _ _ _ h => h)
              case hfr => intro w; go_wp2_with fail; exact ⟨rfl, rfl⟩
              case hd => rfl
              apply takeP 5 (by (repeat (first | with_reducible exact AtL.head | apply AtL.tail))) (by kernel_rfl) (by kernel_rfl) (by kernel_rfl) (fun _ _ _ _ h => h)
              case hfr => intro w; go_wp2_with fail; exact ⟨rfl, rfl⟩
              case hd => rfl
              apply takeS 6 (by (repeat (first | with_reducible exact AtL.head | apply AtL.tail))) (by kernel_rfl) (by kernel_rfl) (by kernel_rfl) (fun _ _ _ _ h => h) [7, 8, 9, 10, 11, 12, 13, 14, 15, 16] (by kernel_rfl) (hS.sub (by (repeat (first | exact Sub.nil | with_reducible exact Sub.refl | (refine Sub.cons (by (repeat (first | with_reducible exact Pull.head | apply Pull.tail))) ?_) | apply Sub.skip))))
              case hfr => intro w hS; go_wp2_with (first | (refine wpl rfl (wp_load1A hS 3 _ rfl _ _ rfl (one_of rfl) _ _ (by (repeat (first | with_reducible exact Pull.head | apply Pull.tail))) (by omega) ?_); refine wpl_put (by (simp only [Act.put, List.setIfInBounds_toArray, List.set_cons_zero, List.set_cons_succ]); exact rfl) ?_) | (refine wpl rfl (wp_load1 hS 3 _ rfl _ _ rfl (one_of rfl) _ (by (repeat (first | with_reducible exact Pull.head | apply Pull.tail))) _ (by rfl) ?_); refine wpl_put (by (simp only [Act.put, List.setIfInBounds_toArray, List.set_cons_zero, List.set_cons_succ]); exact rfl) ?_) | (refine wpl rfl (wp_load1O hS 3 _ rfl _ _ rfl (one_of rfl) _ _ _ _ _ (by (repeat (first | with_reducible exact Pull.head | apply Pull.tail))) _ (by with_reducible assumption) ?_); refine wpl_put (by (simp only [Act.put, List.setIfInBounds_toArray, List.set_cons_zero, List.set_cons_succ]); exact rfl) ?_) | (refine wpl rfl (wp_loadW hS 3 _ rfl _ rfl (one_of rfl) _ (by with_reducible assumption) ?_); refine wpl_put (by (simp only [Act.put, List.setIfInBounds_toArray, List.set_cons_zero, List.set_cons_succ]); exact rfl) ?_)); exact ⟨rfl, rfl⟩
              case hd => rfl
              apply takeP 7 (by (repeat (first | with_reducible exact AtL.head | apply AtL.tail))) (by kernel_rfl) (by kernel_rfl) (by kernel_rfl) (fun _ _ _ _ h => h)
              case hfr => intro w; go_wp2_with fail; exact ⟨rfl, rfl⟩
              case hd => rfl
              apply takeP 8 (by (repeat (first | with_reducible exact AtL.head | apply AtL.tail))) (by kernel_rfl) (by kernel_rfl) (by kernel_rfl) (fun _ _ _ _ h => h)
              case hfr => intro w; go_wp2_with fail; exact ⟨rfl, rfl⟩
              case hd => rfl
              apply takeP 9 (by (repeat (first | with_reducible exact AtL.head | apply AtL.tail))) (by kernel_rfl) (by kernel_rfl) (by kernel_rfl) (fun _ _ _ _ h => h)
              case hfr => intro w; go_wp2_with fail; exact ⟨rfl, rfl⟩
              case hd => rfl
              apply takeP 10 (by (repeat (first | with_reducible exact AtL.head | apply AtL.tail))) (by kernel_rfl) (by kernel_rfl) (by kernel_rfl) (fun _ _ _ _ h => h)
              case hfr => intro w; go_wp2_with fail; exact ⟨rfl, rfl⟩
              case hd => rfl
              apply takeS 11 (by (repeat (first | with_reducible exact AtL.head | apply AtL.tail))) (by kernel_rfl) (by kernel_rfl) (by kernel_rfl) (fun _ _ _ _ h => h) [15, 16] (by kernel_rfl) (hS.sub (by (repeat (first | exact Sub.nil | with_reducible exact Sub.refl | (refine Sub.cons (by (repeat (first | with_reducible exact Pull.head | apply Pull.tail))) ?_) | apply Sub.skip))))
              case hfr => intro w hS; go_wp2_with (first | (refine wpl rfl (wp_load1A hS 3 _ rfl _ _ rfl (one_of rfl) _ _ (by (repeat (first | with_reducible exact Pull.head | apply Pull.tail))) (by omega) ?_); refine wpl_put (by (simp only [Act.put, List.setIfInBounds_toArray, List.set_cons_zero, List.set_cons_succ]); exact rfl) ?_) | (refine wpl rfl (wp_load1 hS 3 _ rfl _ _ rfl (one_of rfl) _ (by (repeat (first | with_reducible exact Pull.head | apply Pull.tail))) _ (by rfl) ?_); refine wpl_put (by (simp only [Act.put, List.setIfInBounds_toArray, List.set_cons_zero, List.set_cons_succ]); exact rfl) ?_) | (refine wpl rfl (wp_load1O hS 3 _ rfl _ _ rfl (one_of rfl) _ _ _ _ _ (by (repeat (first | with_reducible exact Pull.head | apply Pull.tail))) _ (by with_reducible assumption) ?_); refine wpl_put (by (simp only [Act.put, List.setIfInBounds_toArray, List.set_cons_zero, List.set_cons_succ]); exact rfl) ?_) | (refine wpl rfl (wp_loadW hS 3 _ rfl _ rfl (one_of rfl) _ (by with_reducible assumption) ?_); refine wpl_put (by (simp only [Act.put, List.setIfInBounds_toArray, List.set_cons_zero, List.set_cons_succ]); exact rfl) ?_)); exact ⟨rfl, rfl⟩
              case hd => rfl
              apply takeP 12 (by (repeat (first | with_reducible exact AtL.head | apply AtL.tail))) (by kernel_rfl) (by kernel_rfl) (by kernel_rfl) (fun _ _ _ _ h => h)
              case hfr => intro w; go_wp2_with fail; exact ⟨rfl, rfl⟩
              case hd => rfl
              apply takeS 13 (by (repeat (first | with_reducible exact AtL.head | apply AtL.tail))) (by kernel_rfl) (by kernel_rfl) (by kernel_rfl) (fun _ _ _ _ h => h) [14, 15, 16] (by kernel_rfl) (hS.sub (by (repeat (first | exact Sub.nil | with_reducible exact Sub.refl | (refine Sub.cons (by (repeat (first | with_reducible exact Pull.head | apply Pull.tail))) ?_) | apply Sub.skip))))
              case hfr => intro w hS; go_wp2_with (first | (refine wpl rfl (wp_load1A hS 3 _ rfl _ _ rfl (one_of rfl) _ _ (by (repeat (first | with_reducible exact Pull.head | apply Pull.tail))) (by omega) ?_); refine wpl_put (by (simp only [Act.put, List.setIfInBounds_toArray, List.set_cons_zero, List.set_cons_succ]); exact rfl) ?_) | (refine wpl rfl (wp_load1 hS 3 _ rfl _ _ rfl (one_of rfl) _ (by (repeat (first | with_reducible exact Pull.head | apply Pull.tail))) _ (by rfl) ?_); refine wpl_put (by (simp only [Act.put, List.setIfInBounds_toArray, List.set_cons_zero, List.set_cons_succ]); exact rfl) ?_) | (refine wpl rfl (wp_load1O hS 3 _ rfl _ _ rfl (one_of rfl) _ _ _ _ _ (by (repeat (first | with_reducible exact Pull.head | apply Pull.tail))) _ (by with_reducible assumption) ?_); refine wpl_put (by (simp only [Act.put, List.setIfInBounds_toArray, List.set_cons_zero, List.set_cons_succ]); exact rfl) ?_) | (refine wpl rfl (wp_loadW hS 3 _ rfl _ rfl (one_of rfl) _ (by with_reducible assumption) ?_); refine wpl_put (by (simp only [Act.put, List.setIfInBounds_toArray, List.set_cons_zero, List.set_cons_succ]); exact rfl) ?_)); exact ⟨rfl, rfl⟩
              case hd => rfl
              apply takeP 14 (by (repeat (first | with_reducible exact AtL.head | apply AtL.tail))) (by kernel_rfl) (by kernel_rfl) (by kernel_rfl) (fun _ _ _ _ h => h)
              case hfr => intro w; go_wp2_with fail; exact ⟨rfl, rfl⟩
              case hd => rfl
              apply takeP 15 (by (repeat (first | with_reducible exact AtL.head | apply AtL.tail))) (by kernel_rfl) (by kernel_rfl) (by kernel_rfl) (fun _ _ _ _ h => h)
              case hfr => intro w; go_wp2_with fail; exact ⟨rfl, rfl⟩
              case hd => rfl
              apply takeP 16 (by (repeat (first | with_reducible exact AtL.head | apply AtL.tail))) (by kernel_rfl) (by kernel_rfl) (by kernel_rfl) (fun _ _ _ _ h => h)
              case hfr => intro w; go_wp2_with fail; exact ⟨rfl, rfl⟩
              case hd => rfl
              refine drawn_done (by kernel_rfl) ?_ _
              go_wp2_with (first
                | ((with_reducible show wpList _ _ _ (⟨some 11, .box 61 _, _, _, _, _⟩ :: _) _ _); first | (refine wpl rfl (wp_boxG (o := ⟨some 11, _, _, _, _, _⟩) hS 61 _ rfl _ rfl ?_); clear hS; intro g11 w hS; refine wpl_put (by (simp only [Act.put, List.setIfInBounds_toArray, List.set_cons_zero, List.set_cons_succ]); exact rfl) ?_))
                | ((with_reducible show wpList _ _ _ (⟨_, .load 39 _, _, _, _, _⟩ :: _) _ _); first | (refine wpl rfl (wp_loadA hS 39 _ rfl _ rfl 2 (row_of rfl) _ (by (repeat (first | with_reducible exact Pull.head | apply Pull.tail))) ?_); refine wpl_put (by (simp only [Act.put, List.setIfInBounds_toArray, List.set_cons_zero, List.set_cons_succ]); exact rfl) ?_) | (refine wpl rfl (wp_loadG hS 39 _ rfl _ rfl 2 (row_of rfl) _ (by (repeat (first | with_reducible exact Pull.head | apply Pull.tail))) (by rfl) ?_); refine wpl_put (by (simp only [Act.put, List.setIfInBounds_toArray, List.set_cons_zero, List.set_cons_succ]); exact rfl) ?_) | (refine wpl rfl (wp_loadRW hS 39 _ rfl _ _ rfl 2 (row_of rfl) _ (by with_reducible assumption) (by rfl) ?_); refine wpl_put (by (simp only [Act.put, List.setIfInBounds_toArray, List.set_cons_zero, List.set_cons_succ]); exact rfl) ?_))
                | ((with_reducible show wpList _ _ _ (⟨some 6, .alloc 39, _, _, _, _⟩ :: _) _ _); first | (refine wpl rfl (wp_alloc (o := ⟨some 6, _, _, _, _, _⟩) hS 39 rfl (.agg #[.int .i64 0, .int .i64 0]) [.int .i64 0, .int .i64 0] (fun w => Try.zeroValue39 w) rfl ?_); clear hS; intro g6 w hS; refine wpl_put (by (simp only [Act.put, List.setIfInBounds_toArray, List.set_cons_zero, List.set_cons_succ]); exact rfl) ?_))
                | ((with_reducible show wpList _ _ _ (⟨_, .store 39 _ _, _, _, _, _⟩ :: _) _ _); first | (refine wpl rfl (wp_storeA hS 39 _ _ rfl _ rfl 2 (row_of rfl) _ _ (by (repeat (first | with_reducible exact Pull.head | apply Pull.tail))) (by rfl) (by (repeat (first | assumption | exact Len.rep | apply Len.set))) rfl ?_); clear hS; intro w hS) | (refine wpl rfl (wp_storeG hS 39 _ _ rfl _ rfl 2 (row_of rfl) _ _ (by (repeat (first | with_reducible exact Pull.head | apply Pull.tail))) (by rfl) (by rfl) (by rfl) (by rfl) rfl ?_); clear hS; intro w hS))
                | ((with_reducible show wpList _ _ _ (⟨_, .load 3 _, _, _, _, _⟩ :: _) _ _); first | (refine wpl rfl (wp_load1A hS 3 _ rfl _ _ rfl (one_of rfl) _ _ (by (repeat (first | with_reducible exact Pull.head | apply Pull.tail))) (by omega) ?_); refine wpl_put (by (simp only [Act.put, List.setIfInBounds_toArray, List.set_cons_zero, List.set_cons_succ]); exact rfl) ?_) | (refine wpl rfl (wp_load1 hS 3 _ rfl _ _ rfl (one_of rfl) _ (by (repeat (first | with_reducible exact Pull.head | apply Pull.tail))) _ (by rfl) ?_); refine wpl_put (by (simp only [Act.put, List.setIfInBounds_toArray, List.set_cons_zero, List.set_cons_succ]); exact rfl) ?_) | (refine wpl rfl (wp_load1O hS 3 _ rfl _ _ rfl (one_of rfl) _ _ _ _ _ (by (repeat (first | with_reducible exact Pull.head | apply Pull.tail))) _ (by with_reducible assumption) ?_); refine wpl_put (by (simp only [Act.put, List.setIfInBounds_toArray, List.set_cons_zero, List.set_cons_succ]); exact rfl) ?_) | (refine wpl rfl (wp_loadW hS 3 _ rfl _ rfl (one_of rfl) _ (by with_reducible assumption) ?_); refine wpl_put (by (simp only [Act.put, List.setIfInBounds_toArray, List.set_cons_zero, List.set_cons_succ]); exact rfl) ?_))
                                                            | ((with_reducible show wpList _ _ _ (⟨_, .call ⟨.value (.func 34), _, _⟩, _, _, _, _⟩ :: _) _ _); refine wpl_call (f := 34) Try.call34 rfl ?_; refine ⟨_, (put_any w0 _ _ _ g11 (fBits ns i) xd yd hS (by (repeat (first | with_reducible exact Pull.head | apply Pull.tail))) hx24 HYP.out (by have := HLen.out; omega)), ?_⟩; clear hS; rintro e w ⟨rfl, hS⟩; refine ⟨_, rfl, ?_⟩; refine wpl_put (by (simp only [Act.put, List.setIfInBounds_toArray, List.set_cons_zero, List.set_cons_succ]); exact rfl) ?_)
                                                            | (first | refine stop_load ?_ | refine stop_store ?_ | refine stop_alloc ?_ | refine stop_box ?_))
              go_roundg (gk - 1)
              case measure => omega
              case rel => exact ⟨i + 1, by omega, by go_num, HOk2.out, by rw [HBit.out]; exact hS.sub (by (repeat (first | exact Sub.nil | with_reducible exact Sub.refl | (refine Sub.cons (by (repeat (first | with_reducible exact Pull.head | apply Pull.tail))) ?_) | apply Sub.skip)))⟩
      · obtain rfl : i = n := by omega
        have HLen := hid (fBits_len ns i hok)
        have HE := hid (show wErr ns i = 0 by rw [wErr, if_neg (by omega), if_pos (by rw [fsOk, List.all_eq_true]; intro j hj; exact hok j (by simpa using hj))])
        have HB : Hid (wBytes ns i = bytesOf (fBits ns i)) := by unfold Hid; rw [wBytes, if_pos HE.out]
        clear hok hor hw
        go_wp2_with (first
          | ((with_reducible show wpList _ _ _ (⟨some 11, .box 61 _, _, _, _, _⟩ :: _) _ _); first | (refine wpl rfl (wp_boxG (o := ⟨some 11, _, _, _, _, _⟩) hS 61 _ rfl _ rfl ?_); clear hS; intro g11 w hS; refine wpl_put (by (simp only [Act.put, List.setIfInBounds_toArray, List.set_cons_zero, List.set_cons_succ]); exact rfl) ?_))
          | ((with_reducible show wpList _ _ _ (⟨_, .load 39 _, _, _, _, _⟩ :: _) _ _); first | (refine wpl rfl (wp_loadA hS 39 _ rfl _ rfl 2 (row_of rfl) _ (by (repeat (first | with_reducible exact Pull.head | apply Pull.tail))) ?_); refine wpl_put (by (simp only [Act.put, List.setIfInBounds_toArray, List.set_cons_zero, List.set_cons_succ]); exact rfl) ?_) | (refine wpl rfl (wp_loadG hS 39 _ rfl _ rfl 2 (row_of rfl) _ (by (repeat (first | with_reducible exact Pull.head | apply Pull.tail))) (by rfl) ?_); refine wpl_put (by (simp only [Act.put, List.setIfInBounds_toArray, List.set_cons_zero, List.set_cons_succ]); exact rfl) ?_) | (refine wpl rfl (wp_loadRW hS 39 _ rfl _ _ rfl 2 (row_of rfl) _ (by with_reducible assumption) (by rfl) ?_); refine wpl_put (by (simp only [Act.put, List.setIfInBounds_toArray, List.set_cons_zero, List.set_cons_succ]); exact rfl) ?_))
          | ((with_reducible show wpList _ _ _ (⟨some 6, .alloc 39, _, _, _, _⟩ :: _) _ _); first | (refine wpl rfl (wp_alloc (o := ⟨some 6, _, _, _, _, _⟩) hS 39 rfl (.agg #[.int .i64 0, .int .i64 0]) [.int .i64 0, .int .i64 0] (fun w => Try.zeroValue39 w) rfl ?_); clear hS; intro g6 w hS; refine wpl_put (by (simp only [Act.put, List.setIfInBounds_toArray, List.set_cons_zero, List.set_cons_succ]); exact rfl) ?_))
          | ((with_reducible show wpList _ _ _ (⟨_, .store 39 _ _, _, _, _, _⟩ :: _) _ _); first | (refine wpl rfl (wp_storeA hS 39 _ _ rfl _ rfl 2 (row_of rfl) _ _ (by (repeat (first | with_reducible exact Pull.head | apply Pull.tail))) (by rfl) (by (repeat (first | assumption | exact Len.rep | apply Len.set))) rfl ?_); clear hS; intro w hS) | (refine wpl rfl (wp_storeG hS 39 _ _ rfl _ rfl 2 (row_of rfl) _ _ (by (repeat (first | with_reducible exact Pull.head | apply Pull.tail))) (by rfl) (by rfl) (by rfl) (by rfl) rfl ?_); clear hS; intro w hS))
          | ((with_reducible show wpList _ _ _ (⟨_, .load 3 _, _, _, _, _⟩ :: _) _ _); first | (refine wpl rfl (wp_load1A hS 3 _ rfl _ _ rfl (one_of rfl) _ _ (by (repeat (first | with_reducible exact Pull.head | apply Pull.tail))) (by omega) ?_); refine wpl_put (by (simp only [Act.put, List.setIfInBounds_toArray, List.set_cons_zero, List.set_cons_succ]); exact rfl) ?_) | (refine wpl rfl (wp_load1 hS 3 _ rfl _ _ rfl (one_of rfl) _ (by (repeat (first | with_reducible exact Pull.head | apply Pull.tail))) _ (by rfl) ?_); refine wpl_put (by (simp only [Act.put, List.setIfInBounds_toArray, List.set_cons_zero, List.set_cons_succ]); exact rfl) ?_) | (refine wpl rfl (wp_load1O hS 3 _ rfl _ _ rfl (one_of rfl) _ _ _ _ _ (by (repeat (first | with_reducible exact Pull.head | apply Pull.tail))) _ (by with_reducible assumption) ?_); refine wpl_put (by (simp only [Act.put, List.setIfInBounds_toArray, List.set_cons_zero, List.set_cons_succ]); exact rfl) ?_) | (refine wpl rfl (wp_loadW hS 3 _ rfl _ rfl (one_of rfl) _ (by with_reducible assumption) ?_); refine wpl_put (by (simp only [Act.put, List.setIfInBounds_toArray, List.set_cons_zero, List.set_cons_succ]); exact rfl) ?_))
                                                            | ((with_reducible show wpList _ _ _ (⟨_, .call ⟨.value (.func 35), _, _⟩, _, _, _, _⟩ :: _) _ _); refine wpl_call (f := 35) Try.call35 rfl ?_; refine ⟨_, (bytes_any w0 _ _ _ g11 (fBits ns i) hS (by (repeat (first | with_reducible exact Pull.head | apply Pull.tail))) (by have := HLen.out; omega)), ?_⟩; clear hS; rintro e w ⟨ad2, c2, rfl, hS⟩; refine ⟨_, rfl, ?_⟩; refine wpl_put (by (simp only [Act.put, List.setIfInBounds_toArray, List.set_cons_zero, List.set_cons_succ]); exact rfl) ?_)
                                                            | (first | refine stop_load ?_ | refine stop_store ?_ | refine stop_alloc ?_ | refine stop_box ?_))
        go_ret2
        refine ⟨ad2, c2, ?_, ?_⟩
        · rw [HB.out, HE.out, bytesOf_len]; first | done | rfl
        · rw [HB.out, bytesOf_len]; exact hS
end Go.Proofs.Ytodihnhpibjhmaa
