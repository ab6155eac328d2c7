/- The walks of the writer's Bytes and of bits.Write. -/
import Derived.Test.YtccgcefeenloiaaWr
namespace Go.Proofs.Ytccgcefeenloiaa
set_option maxRecDepth 100000
open Go.RowKit
/-- The call hands out a slice of its own. -/
def GivesSl (T : TypeId) (s : Nat) (W : World) (rs : List Res) (n : Nat) (xs : List Value) (e : Ending) (w' : World) : Prop := ∃ ad c, e = .returned (.slice ad n c) ∧ St W w' (own T s ad n c xs :: rs)
theorem ones_pad (bs : List Bool) (h : 0 < bs.length % 8) : bitsOf (8 - bs.length % 8) (2 ^ (8 - bs.length % 8) - 1) = padding bs := by
  unfold padding
  rw [Nat.mod_eq_of_lt (show 8 - bs.length % 8 < 8 by omega)]
  generalize 8 - bs.length % 8 = k
  apply List.ext_getElem?
  intro i
  by_cases hi : i < k
  · rw [bitsOf_get _ _ _ hi, List.getElem?_replicate, if_pos hi]
    congr 1
    have h1 : 2 ^ k = 2 ^ (k - 1 - i) * 2 ^ (i + 1) := by rw [← Nat.pow_add]; congr 1; omega
    have h2 : (2 ^ k - 1) / 2 ^ (k - 1 - i) = 2 ^ (i + 1) - 1 := by
      rw [h1]
      have hp : 0 < 2 ^ (k - 1 - i) := Nat.two_pow_pos _
      have hq : 0 < 2 ^ (i + 1) := Nat.two_pow_pos _
      generalize 2 ^ (k - 1 - i) = p at hp
      generalize 2 ^ (i + 1) = q at hq
      obtain ⟨q', rfl⟩ : ∃ q', q = q' + 1 := ⟨q - 1, by omega⟩
      rw [Nat.mul_succ, Nat.add_sub_assoc (by omega), Nat.mul_add_div hp, Nat.div_eq_of_lt (by omega)]
      omega
    rw [h2, Nat.pow_succ]
    have : 0 < 2 ^ i := Nat.two_pow_pos _
    have h3 : (2 ^ i * 2 - 1) % 2 = 1 := by omega
    rw [h3]; rfl
  · rw [List.getElem?_eq_none (by rw [bitsOf_len]; omega), List.getElem?_eq_none (by simp; omega)]
set_option maxHeartbeats 1000000 in
theorem bytes_any (W w : World) (rs rs' : List Res) (g : Nat) (bs : List Bool) (hS : St W w rs) (hp : Pull (wr g bs) rs rs') (hb : bs.length ≤ 1000000000000) :
    Calls Try.prog 22 #[.pointer (some ⟨g, 0, none⟩)] w (GivesSl 5 1 W rs' ((bs.length + 7) / 8) (bv (bytesOf bs))) := by
  obtain ⟨⟨ad, c⟩, hS⟩ := (hS.pull hp).open
  dsimp only [List.cons_append, List.nil_append] at hS
  generalize hM : bs.length % 8 = M at *
  by_cases h0 : M = 0
  · subst h0
    go_enter Try.func22, Try.ntmps22
    go_wp2_with (first
      | ((with_reducible show wpList _ _ _ (⟨_, .load 3 _, _, _, _, _⟩ :: _) _ _); first | (refine wpl rfl (wp_load1A hS 3 _ rfl _ _ rfl (one_of rfl) _ _ (by (repeat (first | with_reducible exact Pull.head | apply Pull.tail))) (by omega) ?_); refine wpl_put (by (simp only [Act.put, List.setIfInBounds_toArray, List.set_cons_zero, List.set_cons_succ]); exact rfl) ?_) | (refine wpl rfl (wp_load1 hS 3 _ rfl _ _ rfl (one_of rfl) _ (by (repeat (first | with_reducible exact Pull.head | apply Pull.tail))) _ (by rfl) ?_); refine wpl_put (by (simp only [Act.put, List.setIfInBounds_toArray, List.set_cons_zero, List.set_cons_succ]); exact rfl) ?_) | (refine wpl rfl (wp_load1O hS 3 _ rfl _ _ rfl (one_of rfl) _ _ _ _ _ (by (repeat (first | with_reducible exact Pull.head | apply Pull.tail))) _ (by with_reducible assumption) ?_); refine wpl_put (by (simp only [Act.put, List.setIfInBounds_toArray, List.set_cons_zero, List.set_cons_succ]); exact rfl) ?_) | (refine wpl rfl (wp_loadW hS 3 _ rfl _ rfl (one_of rfl) _ (by with_reducible assumption) ?_); refine wpl_put (by (simp only [Act.put, List.setIfInBounds_toArray, List.set_cons_zero, List.set_cons_succ]); exact rfl) ?_))
      | ((with_reducible show wpList _ _ _ (⟨_, .load 26 _, _, _, _, _⟩ :: _) _ _); first | (refine wpl rfl (wp_load1 hS 26 _ rfl _ _ rfl (one_of rfl) _ (by (repeat (first | with_reducible exact Pull.head | apply Pull.tail))) _ (by rfl) ?_); refine wpl_put (by (simp only [Act.put, List.setIfInBounds_toArray, List.set_cons_zero, List.set_cons_succ]); exact rfl) ?_) | (refine wpl rfl (wp_load1O hS 26 _ rfl _ _ rfl (one_of rfl) _ _ _ _ _ (by (repeat (first | with_reducible exact Pull.head | apply Pull.tail))) _ (by with_reducible assumption) ?_); refine wpl_put (by (simp only [Act.put, List.setIfInBounds_toArray, List.set_cons_zero, List.set_cons_succ]); exact rfl) ?_) | (refine wpl rfl (wp_loadW hS 26 _ rfl _ rfl (one_of rfl) _ (by with_reducible assumption) ?_); refine wpl_put (by (simp only [Act.put, List.setIfInBounds_toArray, List.set_cons_zero, List.set_cons_succ]); exact rfl) ?_))
                                                            | (first | refine stop_load ?_ | refine stop_store ?_ | refine stop_alloc ?_ | refine stop_box ?_))
    go_ret
    have h1 : (bs.length + 7) / 8 = bs.length / 8 := by omega
    have h2 : bytesOf bs = packs (bs.length / 8) bs := by
      unfold bytesOf padding
      rw [hM, h1]; simp
    rw [h1, h2]
    exact ⟨ad, c, rfl, hS.sub (by (repeat (first | exact Sub.nil | with_reducible exact Sub.refl | (apply Sub.cons; (case p => (repeat (first | with_reducible exact Pull.head | apply Pull.tail)))) | apply Sub.skip)))⟩
  · have hM8 : M < 8 := by omega
    have hpos : (0 : Int) < (M : Int) := by omega
    have HM := hid hM
    clear hM h0
    obtain ⟨k, hk⟩ : ∃ k, k = 8 - M := ⟨_, rfl⟩
    have hk8 : k ≤ 7 := by omega
    have e1 : IntKind.i64.wrap (8 - (M : Int)) = (k : Int) := by simp [IntKind.wrap, IntKind.signed, IntKind.bits]; omega
    have e2 : (0 : Int) ≤ (k : Int) := by omega
    have hk64 : (k : Int) < 64 := by omega
    have HK := hid hk
    clear hk
    have HC := hid (fun (w : World) (hS : St W w (blk g [.slice ad (bs.length / 8) c, .int .u64 (num (bs.drop (8 * (bs.length / 8))) : Nat), .int .i64 (M : Nat)] :: own 5 1 ad (bs.length / 8) c (bv (packs (bs.length / 8) bs)) :: rs')) =>
      (St.close (ad, c) (by simp only [List.cons_append, List.nil_append]; rw [HM.out]; exact hS) : St W w (wr g bs :: rs')))
    have HV := hid (show 2 ^ k - 1 < 2 ^ k by have := Nat.two_pow_pos k; omega)
    have HP := hid (show bitsOf k (2 ^ k - 1) = padding bs by
      have := ones_pad bs (by rw [HM.out]; omega)
      rwa [HM.out, ← HK.out] at this)
    have HW := hid (show wrap64 (wrap64 ((2 : Int) ^ k) - 1) = ((2 ^ k - 1 : Nat) : Int) by
      have h1 : 2 ^ k ≤ 2 ^ 7 := Nat.pow_le_pow_right (by omega) hk8
      have h0 := Nat.two_pow_pos k
      rw [show (2 : Int) ^ k = ((2 ^ k : Nat) : Int) by push_cast; rfl]
      generalize 2 ^ k = x at h1 h0
      unfold wrap64
      omega)
    go_enter Try.func22, Try.ntmps22
    go_wp2_with (first
      | ((with_reducible show wpList _ _ _ (⟨_, .load 3 _, _, _, _, _⟩ :: _) _ _); first | (refine wpl rfl (wp_load1A hS 3 _ rfl _ _ rfl (one_of rfl) _ _ (by (repeat (first | with_reducible exact Pull.head | apply Pull.tail))) (by omega) ?_); refine wpl_put (by (simp only [Act.put, List.setIfInBounds_toArray, List.set_cons_zero, List.set_cons_succ]); exact rfl) ?_) | (refine wpl rfl (wp_load1 hS 3 _ rfl _ _ rfl (one_of rfl) _ (by (repeat (first | with_reducible exact Pull.head | apply Pull.tail))) _ (by rfl) ?_); refine wpl_put (by (simp only [Act.put, List.setIfInBounds_toArray, List.set_cons_zero, List.set_cons_succ]); exact rfl) ?_) | (refine wpl rfl (wp_load1O hS 3 _ rfl _ _ rfl (one_of rfl) _ _ _ _ _ (by (repeat (first | with_reducible exact Pull.head | apply Pull.tail))) _ (by with_reducible assumption) ?_); refine wpl_put (by (simp only [Act.put, List.setIfInBounds_toArray, List.set_cons_zero, List.set_cons_succ]); exact rfl) ?_) | (refine wpl rfl (wp_loadW hS 3 _ rfl _ rfl (one_of rfl) _ (by with_reducible assumption) ?_); refine wpl_put (by (simp only [Act.put, List.setIfInBounds_toArray, List.set_cons_zero, List.set_cons_succ]); exact rfl) ?_))
      | ((with_reducible show wpList _ _ _ (⟨_, .load 26 _, _, _, _, _⟩ :: _) _ _); first | (refine wpl rfl (wp_load1 hS 26 _ rfl _ _ rfl (one_of rfl) _ (by (repeat (first | with_reducible exact Pull.head | apply Pull.tail))) _ (by rfl) ?_); refine wpl_put (by (simp only [Act.put, List.setIfInBounds_toArray, List.set_cons_zero, List.set_cons_succ]); exact rfl) ?_) | (refine wpl rfl (wp_load1O hS 26 _ rfl _ _ rfl (one_of rfl) _ _ _ _ _ (by (repeat (first | with_reducible exact Pull.head | apply Pull.tail))) _ (by with_reducible assumption) ?_); refine wpl_put (by (simp only [Act.put, List.setIfInBounds_toArray, List.set_cons_zero, List.set_cons_succ]); exact rfl) ?_) | (refine wpl rfl (wp_loadW hS 26 _ rfl _ rfl (one_of rfl) _ (by with_reducible assumption) ?_); refine wpl_put (by (simp only [Act.put, List.setIfInBounds_toArray, List.set_cons_zero, List.set_cons_succ]); exact rfl) ?_))
                                                            | (first | refine stop_load ?_ | refine stop_store ?_ | refine stop_alloc ?_ | refine stop_box ?_))
    refine drawn_lit [13] (fun w => St W w [blk g [.slice ad (bs.length / 8) c, .int .u64 (num (bs.drop (8 * (bs.length / 8))) : Nat), .int .i64 (M : Nat)]]) (by kernel_rfl) ?_
    replace hS := hS.drew
    apply takeP 0 (by (repeat (first | with_reducible exact AtL.head | apply AtL.tail))) (by kernel_rfl) (by kernel_rfl) (by kernel_rfl) (fun _ _ _ _ h => h)
    case hfr => intro w; go_wp2_with fail; exact ⟨rfl, rfl⟩
    case hd => rfl
    apply takeP 1 (by (repeat (first | with_reducible exact AtL.head | apply AtL.tail))) (by kernel_rfl) (by kernel_rfl) (by kernel_rfl) (fun _ _ _ _ h => h)
    case hfr => intro w; go_wp2_with fail; exact ⟨rfl, rfl⟩
    case hd => rfl
    apply takeP 2 (by (repeat (first | with_reducible exact AtL.head | apply AtL.tail))) (by kernel_rfl) (by kernel_rfl) (by kernel_rfl) (fun _ _ _ _ h => h)
    case hfr => intro w; go_wp2_with fail; exact ⟨rfl, rfl⟩
    case hd => rfl
    apply takeP 3 (by (repeat (first | with_reducible exact AtL.head | apply AtL.tail))) (by kernel_rfl) (by kernel_rfl) (by kernel_rfl) (fun _ _ _ _ h => h)
    case hfr => intro w; go_wp2_with fail; exact ⟨rfl, rfl⟩
    case hd => rfl
    apply takeS 4 (by (repeat (first | with_reducible exact AtL.head | apply AtL.tail))) (by kernel_rfl) (by kernel_rfl) (by kernel_rfl) (fun _ _ _ _ h => h) [5, 13] (by kernel_rfl) (hS.sub (by (repeat (first | exact Sub.nil | with_reducible exact Sub.refl | (apply Sub.cons; (case p => (repeat (first | with_reducible exact Pull.head | apply Pull.tail)))) | apply Sub.skip))))
    case hfr => intro w hS; go_wp2_with (first | (refine wpl rfl (wp_load1A hS 3 _ rfl _ _ rfl (one_of rfl) _ _ (by (repeat (first | with_reducible exact Pull.head | apply Pull.tail))) (by omega) ?_); refine wpl_put (by (simp only [Act.put, List.setIfInBounds_toArray, List.set_cons_zero, List.set_cons_succ]); exact rfl) ?_) | (refine wpl rfl (wp_load1 hS 3 _ rfl _ _ rfl (one_of rfl) _ (by (repeat (first | with_reducible exact Pull.head | apply Pull.tail))) _ (by rfl) ?_); refine wpl_put (by (simp only [Act.put, List.setIfInBounds_toArray, List.set_cons_zero, List.set_cons_succ]); exact rfl) ?_) | (refine wpl rfl (wp_load1O hS 3 _ rfl _ _ rfl (one_of rfl) _ _ _ _ _ (by (repeat (first | with_reducible exact Pull.head | apply Pull.tail))) _ (by with_reducible assumption) ?_); refine wpl_put (by (simp only [Act.put, List.setIfInBounds_toArray, List.set_cons_zero, List.set_cons_succ]); exact rfl) ?_) | (refine wpl rfl (wp_loadW hS 3 _ rfl _ rfl (one_of rfl) _ (by with_reducible assumption) ?_); refine wpl_put (by (simp only [Act.put, List.setIfInBounds_toArray, List.set_cons_zero, List.set_cons_succ]); exact rfl) ?_)); exact ⟨rfl, rfl⟩
    case hd => rfl
    apply takeP 5 (by (repeat (first | with_reducible exact AtL.head | apply AtL.tail))) (by kernel_rfl) (by kernel_rfl) (by kernel_rfl) (fun _ _ _ _ h => h)
    case hfr => intro w; go_wp2_with fail; exact ⟨rfl, rfl⟩
    case hd => rfl
    apply takeP 6 (by (repeat (first | with_reducible exact AtL.head | apply AtL.tail))) (by kernel_rfl) (by kernel_rfl) (by kernel_rfl) (fun _ _ _ _ h => h)
    case hfr => intro w; go_wp2_with fail; exact ⟨rfl, rfl⟩
    case hd => rfl
    apply takeP 7 (by (repeat (first | with_reducible exact AtL.head | apply AtL.tail))) (by kernel_rfl) (by kernel_rfl) (by kernel_rfl) (fun _ _ _ _ h => h)
    case hfr => intro w; go_wp2_with fail; exact ⟨rfl, rfl⟩
    case hd => rfl
    apply takeP 8 (by (repeat (first | with_reducible exact AtL.head | apply AtL.tail))) (by kernel_rfl) (by kernel_rfl) (by kernel_rfl) (fun _ _ _ _ h => h)
    case hfr => intro w; go_wp2_with fail; exact ⟨rfl, rfl⟩
    case hd => rfl
    apply takeS 9 (by (repeat (first | with_reducible exact AtL.head | apply AtL.tail))) (by kernel_rfl) (by kernel_rfl) (by kernel_rfl) (fun _ _ _ _ h => h) [10, 11, 12, 13] (by kernel_rfl) (hS.sub (by (repeat (first | exact Sub.nil | with_reducible exact Sub.refl | (apply Sub.cons; (case p => (repeat (first | with_reducible exact Pull.head | apply Pull.tail)))) | apply Sub.skip))))
    case hfr => intro w hS; go_wp2_with (first | (refine wpl rfl (wp_load1A hS 3 _ rfl _ _ rfl (one_of rfl) _ _ (by (repeat (first | with_reducible exact Pull.head | apply Pull.tail))) (by omega) ?_); refine wpl_put (by (simp only [Act.put, List.setIfInBounds_toArray, List.set_cons_zero, List.set_cons_succ]); exact rfl) ?_) | (refine wpl rfl (wp_load1 hS 3 _ rfl _ _ rfl (one_of rfl) _ (by (repeat (first | with_reducible exact Pull.head | apply Pull.tail))) _ (by rfl) ?_); refine wpl_put (by (simp only [Act.put, List.setIfInBounds_toArray, List.set_cons_zero, List.set_cons_succ]); exact rfl) ?_) | (refine wpl rfl (wp_load1O hS 3 _ rfl _ _ rfl (one_of rfl) _ _ _ _ _ (by (repeat (first | with_reducible exact Pull.head | apply Pull.tail))) _ (by with_reducible assumption) ?_); refine wpl_put (by (simp only [Act.put, List.setIfInBounds_toArray, List.set_cons_zero, List.set_cons_succ]); exact rfl) ?_) | (refine wpl rfl (wp_loadW hS 3 _ rfl _ rfl (one_of rfl) _ (by with_reducible assumption) ?_); refine wpl_put (by (simp only [Act.put, List.setIfInBounds_toArray, List.set_cons_zero, List.set_cons_succ]); exact rfl) ?_)); exact ⟨rfl, rfl⟩
    case hd => rfl
    apply takeP 10 (by (repeat (first | with_reducible exact AtL.head | apply AtL.tail))) (by kernel_rfl) (by kernel_rfl) (by kernel_rfl) (fun _ _ _ _ h => h)
    case hfr => intro w; go_wp2_with fail; exact ⟨rfl, rfl⟩
    case hd => rfl
    apply takeP 11 (by (repeat (first | with_reducible exact AtL.head | apply AtL.tail))) (by kernel_rfl) (by kernel_rfl) (by kernel_rfl) (fun _ _ _ _ h => h)
    case hfr => intro w; go_wp2_with fail; exact ⟨rfl, rfl⟩
    case hd => rfl
    apply takeP 12 (by (repeat (first | with_reducible exact AtL.head | apply AtL.tail))) (by kernel_rfl) (by kernel_rfl) (by kernel_rfl) (fun _ _ _ _ h => h)
    case hfr => intro w; go_wp2_with fail; exact ⟨rfl, rfl⟩
    case hd => rfl
    refine branch1 13 (by (repeat (first | with_reducible exact AtL.head | apply AtL.tail))) rfl (by kernel_rfl) ?_
    rw [HW.out]; refine wp_callF (f := 33) rfl Try.call33 (put_any W _ _ _ g bs k (2 ^ k - 1) (HC.out _ hS) Pull.head (by omega) HV.out (by omega)) ?_; clear hS; rintro e w ⟨rfl, hS⟩; refine ⟨_, rfl, ?_⟩
    refine ⟨fun h => absurd (by decide) h, ?_⟩
    refine drawn_put (by (simp only [Act.put, List.setIfInBounds_toArray, List.set_cons_zero, List.set_cons_succ]); exact rfl) ?_
    refine drawn_done (by kernel_rfl) ?_ _
    obtain ⟨⟨ad2, c2⟩, hS⟩ := hS.open
    rw [HP.out] at hS
    have HL := hid (show (bs ++ padding bs).length / 8 = (bs.length + 7) / 8 by rw [padding_len]; omega)
    simp only [List.cons_append, List.nil_append, HL.out] at hS
    go_wp2_with (first
      | ((with_reducible show wpList _ _ _ (⟨_, .load 3 _, _, _, _, _⟩ :: _) _ _); first | (refine wpl rfl (wp_load1A hS 3 _ rfl _ _ rfl (one_of rfl) _ _ (by (repeat (first | with_reducible exact Pull.head | apply Pull.tail))) (by omega) ?_); refine wpl_put (by (simp only [Act.put, List.setIfInBounds_toArray, List.set_cons_zero, List.set_cons_succ]); exact rfl) ?_) | (refine wpl rfl (wp_load1 hS 3 _ rfl _ _ rfl (one_of rfl) _ (by (repeat (first | with_reducible exact Pull.head | apply Pull.tail))) _ (by rfl) ?_); refine wpl_put (by (simp only [Act.put, List.setIfInBounds_toArray, List.set_cons_zero, List.set_cons_succ]); exact rfl) ?_) | (refine wpl rfl (wp_load1O hS 3 _ rfl _ _ rfl (one_of rfl) _ _ _ _ _ (by (repeat (first | with_reducible exact Pull.head | apply Pull.tail))) _ (by with_reducible assumption) ?_); refine wpl_put (by (simp only [Act.put, List.setIfInBounds_toArray, List.set_cons_zero, List.set_cons_succ]); exact rfl) ?_) | (refine wpl rfl (wp_loadW hS 3 _ rfl _ rfl (one_of rfl) _ (by with_reducible assumption) ?_); refine wpl_put (by (simp only [Act.put, List.setIfInBounds_toArray, List.set_cons_zero, List.set_cons_succ]); exact rfl) ?_))
      | ((with_reducible show wpList _ _ _ (⟨_, .load 26 _, _, _, _, _⟩ :: _) _ _); first | (refine wpl rfl (wp_load1 hS 26 _ rfl _ _ rfl (one_of rfl) _ (by (repeat (first | with_reducible exact Pull.head | apply Pull.tail))) _ (by rfl) ?_); refine wpl_put (by (simp only [Act.put, List.setIfInBounds_toArray, List.set_cons_zero, List.set_cons_succ]); exact rfl) ?_) | (refine wpl rfl (wp_load1O hS 26 _ rfl _ _ rfl (one_of rfl) _ _ _ _ _ (by (repeat (first | with_reducible exact Pull.head | apply Pull.tail))) _ (by with_reducible assumption) ?_); refine wpl_put (by (simp only [Act.put, List.setIfInBounds_toArray, List.set_cons_zero, List.set_cons_succ]); exact rfl) ?_) | (refine wpl rfl (wp_loadW hS 26 _ rfl _ rfl (one_of rfl) _ (by with_reducible assumption) ?_); refine wpl_put (by (simp only [Act.put, List.setIfInBounds_toArray, List.set_cons_zero, List.set_cons_succ]); exact rfl) ?_))
                                                            | (first | refine stop_load ?_ | refine stop_store ?_ | refine stop_alloc ?_ | refine stop_box ?_))
    go_ret
    refine ⟨ad2, c2, rfl, ?_⟩
    unfold bytesOf
    exact hS.sub (by (repeat (first | exact Sub.nil | with_reducible exact Sub.refl | (apply Sub.cons; (case p => (repeat (first | with_reducible exact Pull.head | apply Pull.tail)))) | apply Sub.skip)))
theorem wr_new {W w : World} {g : Nat} {rs : List Res} (h : St W w (blk g [.slice none 0 0, .int .u64 0, .int .i64 0] :: rs)) : St W w (wr g [] :: rs) :=
  St.close (none, 0) ((h.nil 5 1).pull (.tail .head))
/-- Fields, as a row of numbers: width, value, width, value, .. -/
def fOk (ns : List Int) (i : Nat) : Bool := decide (0 ≤ nth ns (2 * i)) && decide (nth ns (2 * i) ≤ 24) && decide (0 ≤ nth ns (2 * i + 1)) && decide (nth ns (2 * i + 1) < 2 ^ (nth ns (2 * i)).toNat)
def fsOk (ns : List Int) (n : Nat) : Bool := (List.range n).all (fOk ns)
def fBits (ns : List Int) : Nat → List Bool
  | 0 => []
  | i + 1 => fBits ns i ++ bitsOf (nth ns (2 * i)).toNat (nth ns (2 * i + 1)).toNat
theorem fBits_len (ns : List Int) (n : Nat) (h : ∀ i, i < n → fOk ns i = true) : (fBits ns n).length ≤ 24 * n := by
  induction n with
  | zero => simp [fBits]
  | succ n ih =>
    have h1 := ih fun i hi => h i (by omega)
    have h2 := h n (by omega)
    simp only [fOk, Bool.and_eq_true, decide_eq_true_eq] at h2
    rw [fBits, List.length_append, bitsOf_len]
    omega
def wErr (ns : List Int) (n : Nat) : Int := if 20000 < n then 2 else if fsOk ns n then 0 else 1
def wBytes (ns : List Int) (n : Nat) : List Nat := if wErr ns n = 0 then bytesOf (fBits ns n) else []
end Go.Proofs.Ytccgcefeenloiaa
