/- The law BitsRest: its walk, and the statement. -/
import Derived.Test.YtodihnhpibjhmaaBitsKeep
import Derived.Test.YtodihnhpibjhmaaOpen
import Derived.Test.YtodihnhpibjhmaaOpenSl
namespace Go.Proofs.Ytodihnhpibjhmaa
open Go.ChangeShapes Go.WideShapes Go.ChangeAt Go.RowKit
set_option linter.unusedVariables false
/-- Fields that came in. -/
theorem op_fields {H : Type} {enc : TypeId × Value → H} {W : World} {v : Value} {d : DataW H} {p : List MemPlace} {base : Nat} (ho : Value.okWide Try.prog W .any base 34 v) (h : DataW.Trod enc Try.prog W 0 (fun _ => true) true 34 v d p) :
    ∃ (n : Nat) (ns : List Int), ns.length = n * 2 ∧ Sl W 2 v n (ns.map (Value.int .i64)) ∧ ∀ i, i < ns.length → -9223372036854775808 ≤ nth ns i ∧ nth ns i ≤ 9223372036854775807 := by
  obtain ⟨n, ns, h1, h2, h3⟩ := op_slice .i64 Try.underlying34 3 (by kernel_rfl) 2 (by kernel_rfl) (by omega) ho h
  exact ⟨n, ns, h1, h2, fun i hi => (wf_i64_iff _).1 (h3 i hi)⟩
/-- The field at a place, as cells. -/
theorem field_at {W : World} {ad : Option Addr} {n c : Nat} {ns : List Int} (hl : ns.length = n * 2) (hv : Sl W 2 (.slice ad n c) n (ns.map (Value.int .i64))) (i : Nat) (hi : i < n) :
    ∃ b off, ad = some ⟨b, off, none⟩ ∧ W.rangeAt b (off + i * 2) [.int .i64 (nth ns (2 * i)), .int .i64 (nth ns (2 * i + 1))] := by
  obtain ⟨_, a', c', e, _, _, hor⟩ := hv
  cases e
  rcases hor with h | ⟨b, off, rfl, hcell⟩
  · omega
  · refine ⟨b, off, rfl, fun j u hu => ?_⟩
    have hj : j < 2 := (List.getElem?_eq_some_iff.1 hu).1
    have h1 := hcell (i * 2 + j) (by omega)
    rw [List.getElem?_map, List.getElem?_eq_getElem (by omega)] at h1
    rw [Nat.add_assoc, h1, ← hu]
    rcases (show j = 0 ∨ j = 1 by omega) with rfl | rfl <;> simp [nth, List.getD, Nat.mul_comm i 2, hl, show 2 * i < n * 2 by omega, show 2 * i + 1 < n * 2 by omega]
theorem fsOk_of (ns : List Int) (n : Nat) (h : wErr ns n = 0) : n ≤ 20000 ∧ ∀ i, i < n → fOk ns i = true := by
  unfold wErr at h
  split at h
  · cases h
  · split at h
    · rename_i h1 h2
      rw [fsOk, List.all_eq_true] at h2
      exact ⟨by omega, fun i hi => h2 i (by simpa using hi)⟩
    · cases h
/-- The last byte of bits: its low ones are the padding. -/
theorem last_byte (bs : List Bool) (h : bs ≠ []) : (bytesOf bs).getD ((bs.length + 7) / 8 - 1) 0 % 2 ^ (8 * ((bs.length + 7) / 8) - bs.length) = 2 ^ (8 * ((bs.length + 7) / 8) - bs.length) - 1 := by
  have hl : 0 < bs.length := List.length_pos_iff.2 h
  generalize hm : (bs.length + 7) / 8 = m
  have hm1 : 1 ≤ m := by omega
  obtain ⟨k, rfl⟩ : ∃ k, m = k + 1 := ⟨m - 1, by omega⟩
  generalize hr : 8 * (k + 1) - bs.length = r
  have hr8 : r ≤ 7 := by omega
  have e1 : bytesOf bs = packs k (bs ++ padding bs) ++ [num (((bs ++ padding bs).drop (8 * k)).take 8)] := by
    rw [bytesOf, hm, packs_succ]
  have e2 : ((bs ++ padding bs).drop (8 * k)).take 8 = bs.drop (8 * k) ++ padding bs := by
    have h1 := padding_len bs
    rw [hm] at h1
    rw [List.take_of_length_le (by rw [List.length_drop, h1]; omega), List.drop_append_of_le_length (by omega)]
  have e3 : padding bs = bitsOf r (2 ^ r - 1) := by
    by_cases h0 : bs.length % 8 = 0
    · have : r = 0 := by omega
      subst this
      simp [padding, h0, bitsOf]
    · have := ones_pad bs (by omega)
      rw [← this]
      have e : 8 - bs.length % 8 = r := by omega
      rw [e]
  have hp := Nat.two_pow_pos r
  rw [e1, Nat.add_sub_cancel, List.getD_eq_getElem?_getD, List.getElem?_append_right (by rw [packs_len]; exact Nat.le_refl _), packs_len, Nat.sub_self, e2, e3]
  simp only [List.getElem?_cons_zero, Option.getD_some]
  rw [num_append, bitsOf_len, num_bitsOf, Nat.mul_add_mod_of_lt']
  · exact Nat.mod_eq_of_lt (by omega)
where Nat.mul_add_mod_of_lt' {a b c : Nat} : (a * c + b % c) % c = b % c := by rw [Nat.mul_comm, Nat.mul_add_mod, Nat.mod_mod]
set_option maxHeartbeats 4000000 in
theorem BitsRest_walk {H : Type} {enc : TypeId × Value → H} {d0 : DataW H} {p0 : List MemPlace} {v0 : Value} {base : Nat} (W : World)
    (o0 : Value.okWide Try.prog W .any base 34 v0) (h0 : DataW.Trod enc Try.prog W 0 (fun _ => true) true 34 v0 d0 p0) (lt0 : ∀ x ∈ p0, x.block < W.heap.size)
    :
    Calls Try.prog 7 #[v0] W fun e w' => e = .returned (.bool true) ∧ Ext W w' := by
  obtain ⟨n, ns, hl, hv, hw⟩ := op_fields o0 h0
  clear o0 h0 lt0
  obtain ⟨ad, c, rfl, hnc, hcm⟩ : ∃ ad c, v0 = .slice ad n c ∧ n ≤ c ∧ c ≤ 9223372036854775807 := by
    obtain ⟨_, ad, c, h1, h2, h3, _⟩ := hv
    exact ⟨ad, c, h1, h2, by unfold maxLen at h3; exact h3⟩
  have HF := hid (field_at hl hv)
  have HV := hid hv
  have HW := hid hw
  have HL := hid hl
  clear hv hw hl
  have hS := St.start W
  by_cases he : wErr ns n = 0
  · obtain ⟨hn, hok⟩ := fsOk_of ns n he
    have HE := hid he
    have HB := hid (show wBytes ns n = bytesOf (fBits ns n) by rw [wBytes, if_pos he])
    have HBL := hid (fBits_len ns n hok)
    have HOK := hid hok
    clear he hok
    obtain ⟨m, hm⟩ : ∃ m, (wBytes ns n).length = m := ⟨_, rfl⟩
    obtain ⟨L, hL⟩ : ∃ L, (fBits ns n).length = L := ⟨_, rfl⟩
    have hm2 : m = (L + 7) / 8 := by rw [← hm, HB.out, bytesOf_len, hL]
    have hm3 : L ≤ 8 * m := by omega
    have hm4 : 8 * m < L + 8 := by omega
    have hL3 : L ≤ 480000 := by have := HBL.out; rw [hL] at this; omega
    have HM := hid hm
    have HLL := hid hL
    have HM2 := hid hm2
    clear hm hL hm2
    by_cases hm0 : m = 0
    · rw [hm0] at HM
      clear hm0 hm3 hm4 HM2
      go_enter Try.func7, Try.ntmps7
      go_wp2_with (first
        | (refine wpl rfl (wp_loadA hS 39 _ rfl _ rfl 2 (row_of rfl) _ (by (repeat (first | with_reducible exact Pull.head | apply Pull.tail))) ?_); refine wpl_put (by (simp only [Act.put, List.setIfInBounds_toArray, List.set_cons_zero, List.set_cons_succ]); exact rfl) ?_)
        | (refine wpl rfl (wp_loadG hS 39 _ rfl _ rfl 2 (row_of rfl) _ (by (repeat (first | with_reducible exact Pull.head | apply Pull.tail))) (by rfl) ?_); refine wpl_put (by (simp only [Act.put, List.setIfInBounds_toArray, List.set_cons_zero, List.set_cons_succ]); exact rfl) ?_)
        | (refine wpl rfl (wp_loadRW hS 39 _ rfl _ _ rfl 2 (row_of rfl) _ (by with_reducible assumption) (by rfl) ?_); refine wpl_put (by (simp only [Act.put, List.setIfInBounds_toArray, List.set_cons_zero, List.set_cons_succ]); exact rfl) ?_)
        | (refine wpl rfl (wp_alloc (o := ⟨some 7, _, _, _, _, _⟩) hS 39 rfl (.agg #[.int .i64 0, .int .i64 0]) [.int .i64 0, .int .i64 0] (fun w => Try.zeroValue39 w) rfl ?_); clear hS; intro g7 w hS; refine wpl_put (by (simp only [Act.put, List.setIfInBounds_toArray, List.set_cons_zero, List.set_cons_succ]); exact rfl) ?_)
        | (refine wpl rfl (wp_storeA hS 39 _ _ rfl _ rfl 2 (row_of rfl) _ _ (by (repeat (first | with_reducible exact Pull.head | apply Pull.tail))) (by rfl) (by assumption) rfl ?_); clear hS; intro w hS)
        | (refine wpl rfl (wp_storeG hS 39 _ _ rfl _ rfl 2 (row_of rfl) _ _ (by (repeat (first | with_reducible exact Pull.head | apply Pull.tail))) (by rfl) (by rfl) (by rfl) (by rfl) rfl ?_); clear hS; intro w hS)
        | (refine wpl rfl (wp_load1A hS 3 _ rfl _ _ rfl (one_of rfl) _ _ (by (repeat (first | with_reducible exact Pull.head | apply Pull.tail))) (by omega) ?_); refine wpl_put (by (simp only [Act.put, List.setIfInBounds_toArray, List.set_cons_zero, List.set_cons_succ]); exact rfl) ?_)
        | (refine wpl rfl (wp_load1 hS 3 _ rfl _ _ rfl (one_of rfl) _ (by (repeat (first | with_reducible exact Pull.head | apply Pull.tail))) _ (by rfl) ?_); refine wpl_put (by (simp only [Act.put, List.setIfInBounds_toArray, List.set_cons_zero, List.set_cons_succ]); exact rfl) ?_)
        | (refine wpl rfl (wp_load1O hS 3 _ rfl _ _ rfl (one_of rfl) _ _ _ _ _ (by (repeat (first | with_reducible exact Pull.head | apply Pull.tail))) _ (by with_reducible assumption) ?_); refine wpl_put (by (simp only [Act.put, List.setIfInBounds_toArray, List.set_cons_zero, List.set_cons_succ]); exact rfl) ?_)
        | (refine wpl rfl (wp_loadW hS 3 _ rfl _ rfl (one_of rfl) _ (by with_reducible assumption) ?_); refine wpl_put (by (simp only [Act.put, List.setIfInBounds_toArray, List.set_cons_zero, List.set_cons_succ]); exact rfl) ?_)
        | (refine wpl rfl (wp_load1 hS 5 _ rfl _ _ rfl (one_of rfl) _ (by (repeat (first | with_reducible exact Pull.head | apply Pull.tail))) _ (by rfl) ?_); refine wpl_put (by (simp only [Act.put, List.setIfInBounds_toArray, List.set_cons_zero, List.set_cons_succ]); exact rfl) ?_)
        | (refine wpl rfl (wp_load1O hS 5 _ rfl _ _ rfl (one_of rfl) _ _ _ _ _ (by (repeat (first | with_reducible exact Pull.head | apply Pull.tail))) _ (by with_reducible assumption) ?_); refine wpl_put (by (simp only [Act.put, List.setIfInBounds_toArray, List.set_cons_zero, List.set_cons_succ]); exact rfl) ?_)
        | (refine wpl rfl (wp_loadW hS 5 _ rfl _ rfl (one_of rfl) _ (by with_reducible assumption) ?_); refine wpl_put (by (simp only [Act.put, List.setIfInBounds_toArray, List.set_cons_zero, List.set_cons_succ]); exact rfl) ?_)
                                                            | (refine wpl_call (f := 21) Try.call21 rfl ?_; refine ⟨_, (written_any _), ?_⟩; rintro e w ⟨rfl, hE⟩; replace hS := hS.ext hE; clear hE; refine ⟨_, rfl, ?_⟩; refine wpl_put (by (simp only [Act.put, List.setIfInBounds_toArray, List.set_cons_zero, List.set_cons_succ]); exact rfl) ?_)
                                                            | (refine wpl_call (f := 22) Try.call22 rfl ?_; refine ⟨_, (write_any _ _ n ns (HV.out.ext hS.1) HW.out), ?_⟩; rintro e w ⟨ad2, c2, rfl, hS2⟩; replace hS := hS.call1 hS2; clear hS2; rw [HE.out, HM.out]; rw [HM.out] at hS; refine ⟨_, rfl, ?_⟩; refine wpl_put (by (simp only [Act.put, List.setIfInBounds_toArray, List.set_cons_zero, List.set_cons_succ]); exact rfl) ?_)
                                                            | (first | refine stop_load ?_ | refine stop_store ?_ | refine stop_alloc ?_ | refine stop_box ?_))
      go_ret
      exact ⟨rfl, hS.1⟩
    · have hm1 : (0 : Int) < (m : Int) := by omega
      clear hm0
      go_enter Try.func7, Try.ntmps7
      go_wp2_with (first
        | (refine wpl rfl (wp_loadA hS 39 _ rfl _ rfl 2 (row_of rfl) _ (by (repeat (first | with_reducible exact Pull.head | apply Pull.tail))) ?_); refine wpl_put (by (simp only [Act.put, List.setIfInBounds_toArray, List.set_cons_zero, List.set_cons_succ]); exact rfl) ?_)
        | (refine wpl rfl (wp_loadG hS 39 _ rfl _ rfl 2 (row_of rfl) _ (by (repeat (first | with_reducible exact Pull.head | apply Pull.tail))) (by rfl) ?_); refine wpl_put (by (simp only [Act.put, List.setIfInBounds_toArray, List.set_cons_zero, List.set_cons_succ]); exact rfl) ?_)
        | (refine wpl rfl (wp_loadRW hS 39 _ rfl _ _ rfl 2 (row_of rfl) _ (by with_reducible assumption) (by rfl) ?_); refine wpl_put (by (simp only [Act.put, List.setIfInBounds_toArray, List.set_cons_zero, List.set_cons_succ]); exact rfl) ?_)
        | (refine wpl rfl (wp_alloc (o := ⟨some 7, _, _, _, _, _⟩) hS 39 rfl (.agg #[.int .i64 0, .int .i64 0]) [.int .i64 0, .int .i64 0] (fun w => Try.zeroValue39 w) rfl ?_); clear hS; intro g7 w hS; refine wpl_put (by (simp only [Act.put, List.setIfInBounds_toArray, List.set_cons_zero, List.set_cons_succ]); exact rfl) ?_)
        | (refine wpl rfl (wp_storeA hS 39 _ _ rfl _ rfl 2 (row_of rfl) _ _ (by (repeat (first | with_reducible exact Pull.head | apply Pull.tail))) (by rfl) (by assumption) rfl ?_); clear hS; intro w hS)
        | (refine wpl rfl (wp_storeG hS 39 _ _ rfl _ rfl 2 (row_of rfl) _ _ (by (repeat (first | with_reducible exact Pull.head | apply Pull.tail))) (by rfl) (by rfl) (by rfl) (by rfl) rfl ?_); clear hS; intro w hS)
        | (refine wpl rfl (wp_load1A hS 3 _ rfl _ _ rfl (one_of rfl) _ _ (by (repeat (first | with_reducible exact Pull.head | apply Pull.tail))) (by omega) ?_); refine wpl_put (by (simp only [Act.put, List.setIfInBounds_toArray, List.set_cons_zero, List.set_cons_succ]); exact rfl) ?_)
        | (refine wpl rfl (wp_load1 hS 3 _ rfl _ _ rfl (one_of rfl) _ (by (repeat (first | with_reducible exact Pull.head | apply Pull.tail))) _ (by rfl) ?_); refine wpl_put (by (simp only [Act.put, List.setIfInBounds_toArray, List.set_cons_zero, List.set_cons_succ]); exact rfl) ?_)
        | (refine wpl rfl (wp_load1O hS 3 _ rfl _ _ rfl (one_of rfl) _ _ _ _ _ (by (repeat (first | with_reducible exact Pull.head | apply Pull.tail))) _ (by with_reducible assumption) ?_); refine wpl_put (by (simp only [Act.put, List.setIfInBounds_toArray, List.set_cons_zero, List.set_cons_succ]); exact rfl) ?_)
        | (refine wpl rfl (wp_loadW hS 3 _ rfl _ rfl (one_of rfl) _ (by with_reducible assumption) ?_); refine wpl_put (by (simp only [Act.put, List.setIfInBounds_toArray, List.set_cons_zero, List.set_cons_succ]); exact rfl) ?_)
        | (refine wpl rfl (wp_load1 hS 5 _ rfl _ _ rfl (one_of rfl) _ (by (repeat (first | with_reducible exact Pull.head | apply Pull.tail))) _ (by rfl) ?_); refine wpl_put (by (simp only [Act.put, List.setIfInBounds_toArray, List.set_cons_zero, List.set_cons_succ]); exact rfl) ?_)
        | (refine wpl rfl (wp_load1O hS 5 _ rfl _ _ rfl (one_of rfl) _ _ _ _ _ (by (repeat (first | with_reducible exact Pull.head | apply Pull.tail))) _ (by with_reducible assumption) ?_); refine wpl_put (by (simp only [Act.put, List.setIfInBounds_toArray, List.set_cons_zero, List.set_cons_succ]); exact rfl) ?_)
        | (refine wpl rfl (wp_loadW hS 5 _ rfl _ rfl (one_of rfl) _ (by with_reducible assumption) ?_); refine wpl_put (by (simp only [Act.put, List.setIfInBounds_toArray, List.set_cons_zero, List.set_cons_succ]); exact rfl) ?_)
                                                            | (refine wpl_call (f := 21) Try.call21 rfl ?_; refine ⟨_, (written_any _), ?_⟩; rintro e w ⟨rfl, hE⟩; replace hS := hS.ext hE; clear hE; refine ⟨_, rfl, ?_⟩; refine wpl_put (by (simp only [Act.put, List.setIfInBounds_toArray, List.set_cons_zero, List.set_cons_succ]); exact rfl) ?_)
                                                            | (refine wpl_call (f := 22) Try.call22 rfl ?_; refine ⟨_, (write_any _ _ n ns (HV.out.ext hS.1) HW.out), ?_⟩; rintro e w ⟨ad2, c2, rfl, hS2⟩; replace hS := hS.call1 hS2; clear hS2; rw [HE.out, HM.out]; rw [HM.out] at hS; refine ⟨_, rfl, ?_⟩; refine wpl_put (by (simp only [Act.put, List.setIfInBounds_toArray, List.set_cons_zero, List.set_cons_succ]); exact rfl) ?_)
                                                            | (first | refine stop_load ?_ | refine stop_store ?_ | refine stop_alloc ?_ | refine stop_box ?_))
      go_loopg [5, 28] n (fun gk mv kv w => ∃ (i : Nat), gk + i = n ∧ kv = .int .i64 i ∧ mv = .int .i64 ((fBits ns i).length : Nat) ∧ St W w [own 5 1 ad2 m c2 (bv (wBytes ns n))])
      case atStart => exact ⟨0, rfl, rfl, rfl, hS⟩
      case round =>
        clear hS
        obtain ⟨i, hi, rfl, rfl, hS⟩ := hrel
        by_cases hlt : i < n
        · obtain ⟨b, off, rfl, hr⟩ := HF.out i hlt
          have ho := HOK.out i hlt
          have hb : (fBits ns i).length ≤ 24 * i := fBits_len ns i fun j hj => HOK.out j (by omega)
          have HN := hid (show (fBits ns (i + 1)).length = (fBits ns i).length + (nth ns (2 * i)).toNat by rw [fBits, List.length_append, bitsOf_len])
          generalize (fBits ns i).length = B at *
          simp only [fOk, Bool.and_eq_true, decide_eq_true_eq] at ho
          generalize nth ns (2 * i) = x at *
          generalize nth ns (2 * i + 1) = y at *
          obtain ⟨⟨⟨ho1, ho2⟩, ho3⟩, ho4⟩ := ho
          clear ho4
          obtain ⟨xd, rfl⟩ : ∃ xd : Nat, x = (xd : Int) := ⟨x.toNat, by omega⟩
          rw [Int.toNat_natCast] at HN
          go_wp2_with (first
            | (refine wpl rfl (wp_loadA hS 39 _ rfl _ rfl 2 (row_of rfl) _ (by (repeat (first | with_reducible exact Pull.head | apply Pull.tail))) ?_); refine wpl_put (by (simp only [Act.put, List.setIfInBounds_toArray, List.set_cons_zero, List.set_cons_succ]); exact rfl) ?_)
            | (refine wpl rfl (wp_loadG hS 39 _ rfl _ rfl 2 (row_of rfl) _ (by (repeat (first | with_reducible exact Pull.head | apply Pull.tail))) (by rfl) ?_); refine wpl_put (by (simp only [Act.put, List.setIfInBounds_toArray, List.set_cons_zero, List.set_cons_succ]); exact rfl) ?_)
            | (refine wpl rfl (wp_loadRW hS 39 _ rfl _ _ rfl 2 (row_of rfl) _ (by with_reducible assumption) (by rfl) ?_); refine wpl_put (by (simp only [Act.put, List.setIfInBounds_toArray, List.set_cons_zero, List.set_cons_succ]); exact rfl) ?_)
            | (refine wpl rfl (wp_alloc (o := ⟨some 7, _, _, _, _, _⟩) hS 39 rfl (.agg #[.int .i64 0, .int .i64 0]) [.int .i64 0, .int .i64 0] (fun w => Try.zeroValue39 w) rfl ?_); clear hS; intro g7 w hS; refine wpl_put (by (simp only [Act.put, List.setIfInBounds_toArray, List.set_cons_zero, List.set_cons_succ]); exact rfl) ?_)
            | (refine wpl rfl (wp_storeA hS 39 _ _ rfl _ rfl 2 (row_of rfl) _ _ (by (repeat (first | with_reducible exact Pull.head | apply Pull.tail))) (by rfl) (by assumption) rfl ?_); clear hS; intro w hS)
            | (refine wpl rfl (wp_storeG hS 39 _ _ rfl _ rfl 2 (row_of rfl) _ _ (by (repeat (first | with_reducible exact Pull.head | apply Pull.tail))) (by rfl) (by rfl) (by rfl) (by rfl) rfl ?_); clear hS; intro w hS)
            | (refine wpl rfl (wp_load1A hS 3 _ rfl _ _ rfl (one_of rfl) _ _ (by (repeat (first | with_reducible exact Pull.head | apply Pull.tail))) (by omega) ?_); refine wpl_put (by (simp only [Act.put, List.setIfInBounds_toArray, List.set_cons_zero, List.set_cons_succ]); exact rfl) ?_)
            | (refine wpl rfl (wp_load1 hS 3 _ rfl _ _ rfl (one_of rfl) _ (by (repeat (first | with_reducible exact Pull.head | apply Pull.tail))) _ (by rfl) ?_); refine wpl_put (by (simp only [Act.put, List.setIfInBounds_toArray, List.set_cons_zero, List.set_cons_succ]); exact rfl) ?_)
            | (refine wpl rfl (wp_load1O hS 3 _ rfl _ _ rfl (one_of rfl) _ _ _ _ _ (by (repeat (first | with_reducible exact Pull.head | apply Pull.tail))) _ (by with_reducible assumption) ?_); refine wpl_put (by (simp only [Act.put, List.setIfInBounds_toArray, List.set_cons_zero, List.set_cons_succ]); exact rfl) ?_)
            | (refine wpl rfl (wp_loadW hS 3 _ rfl _ rfl (one_of rfl) _ (by with_reducible assumption) ?_); refine wpl_put (by (simp only [Act.put, List.setIfInBounds_toArray, List.set_cons_zero, List.set_cons_succ]); exact rfl) ?_)
            | (refine wpl rfl (wp_load1 hS 5 _ rfl _ _ rfl (one_of rfl) _ (by (repeat (first | with_reducible exact Pull.head | apply Pull.tail))) _ (by rfl) ?_); refine wpl_put (by (simp only [Act.put, List.setIfInBounds_toArray, List.set_cons_zero, List.set_cons_succ]); exact rfl) ?_)
            | (refine wpl rfl (wp_load1O hS 5 _ rfl _ _ rfl (one_of rfl) _ _ _ _ _ (by (repeat (first | with_reducible exact Pull.head | apply Pull.tail))) _ (by with_reducible assumption) ?_); refine wpl_put (by (simp only [Act.put, List.setIfInBounds_toArray, List.set_cons_zero, List.set_cons_succ]); exact rfl) ?_)
            | (refine wpl rfl (wp_loadW hS 5 _ rfl _ rfl (one_of rfl) _ (by with_reducible assumption) ?_); refine wpl_put (by (simp only [Act.put, List.setIfInBounds_toArray, List.set_cons_zero, List.set_cons_succ]); exact rfl) ?_)
                                                            | (first | refine stop_load ?_ | refine stop_store ?_ | refine stop_alloc ?_ | refine stop_box ?_))
          go_roundg (gk - 1)
          case measure => omega
          case rel => exact ⟨i + 1, by omega, by go_num, by rw [HN.out]; go_num, hS.sub (by (repeat (first | exact Sub.nil | with_reducible exact Sub.refl | (refine Sub.cons (by (repeat (first | with_reducible exact Pull.head | apply Pull.tail))) ?_) | apply Sub.skip)))⟩
        · obtain rfl : i = n := by omega
          rw [HLL.out]
          obtain ⟨r, hr⟩ : ∃ r, r = 8 * m - L := ⟨_, rfl⟩
          have hr8 : r ≤ 7 := by omega
          have HR := hid (show 8 * (m : Int) - (L : Int) = (r : Int) by omega)
          have hLB : 0 < L := by omega
          obtain ⟨x, hx⟩ : ∃ x, (bytesOf (fBits ns i)).getD (m - 1) 0 = x := ⟨_, rfl⟩
          have hlast := last_byte (fBits ns i) (List.length_pos_iff.1 (by rw [HLL.out]; exact hLB))
          rw [HLL.out, ← HM2.out, ← hr, hx] at hlast
          have hlen : (bytesOf (fBits ns i)).length = m := by rw [bytesOf_len, HLL.out, ← HM2.out]
          have hget : (bytesOf (fBits ns i))[m - 1]? = some x := by
            rw [List.getD_eq_getElem?_getD, List.getElem?_eq_getElem (by omega)] at hx
            rw [List.getElem?_eq_getElem (by omega)]
            simpa using hx
          have hx256 : x < 256 := bytesOf_lt _ x (List.mem_of_getElem? hget)
          have hcell : (bv (wBytes ns i))[m - 1]? = some (.int .u8 (x : Int)) := by
            rw [HB.out, bv, List.getElem?_map, hget]; rfl
          have hand : bits .and .i64 (x : Int) (wrap64 (wrap64 ((2 : Int) ^ r) - 1)) = wrap64 (wrap64 ((2 : Int) ^ r) - 1) := by
            rw [mask_i64 r (by omega), bits_and_i64_nat _ _ (by omega) (by have := Nat.pow_le_pow_right (n := 2) (by omega) hr8; omega), and_mask, hlast]
          clear hlast hget hx hr
          obtain ⟨g, rfl⟩ := own_some hS (by (repeat (first | with_reducible exact Pull.head | apply Pull.tail))) (by omega)
          go_wp2_with (first
            | (refine wpl rfl (wp_loadA hS 39 _ rfl _ rfl 2 (row_of rfl) _ (by (repeat (first | with_reducible exact Pull.head | apply Pull.tail))) ?_); refine wpl_put (by (simp only [Act.put, List.setIfInBounds_toArray, List.set_cons_zero, List.set_cons_succ]); exact rfl) ?_)
            | (refine wpl rfl (wp_loadG hS 39 _ rfl _ rfl 2 (row_of rfl) _ (by (repeat (first | with_reducible exact Pull.head | apply Pull.tail))) (by rfl) ?_); refine wpl_put (by (simp only [Act.put, List.setIfInBounds_toArray, List.set_cons_zero, List.set_cons_succ]); exact rfl) ?_)
            | (refine wpl rfl (wp_loadRW hS 39 _ rfl _ _ rfl 2 (row_of rfl) _ (by with_reducible assumption) (by rfl) ?_); refine wpl_put (by (simp only [Act.put, List.setIfInBounds_toArray, List.set_cons_zero, List.set_cons_succ]); exact rfl) ?_)
            | (refine wpl rfl (wp_alloc (o := ⟨some 7, _, _, _, _, _⟩) hS 39 rfl (.agg #[.int .i64 0, .int .i64 0]) [.int .i64 0, .int .i64 0] (fun w => Try.zeroValue39 w) rfl ?_); clear hS; intro g7 w hS; refine wpl_put (by (simp only [Act.put, List.setIfInBounds_toArray, List.set_cons_zero, List.set_cons_succ]); exact rfl) ?_)
            | (refine wpl rfl (wp_storeA hS 39 _ _ rfl _ rfl 2 (row_of rfl) _ _ (by (repeat (first | with_reducible exact Pull.head | apply Pull.tail))) (by rfl) (by assumption) rfl ?_); clear hS; intro w hS)
            | (refine wpl rfl (wp_storeG hS 39 _ _ rfl _ rfl 2 (row_of rfl) _ _ (by (repeat (first | with_reducible exact Pull.head | apply Pull.tail))) (by rfl) (by rfl) (by rfl) (by rfl) rfl ?_); clear hS; intro w hS)
            | (refine wpl rfl (wp_load1A hS 3 _ rfl _ _ rfl (one_of rfl) _ _ (by (repeat (first | with_reducible exact Pull.head | apply Pull.tail))) (by omega) ?_); refine wpl_put (by (simp only [Act.put, List.setIfInBounds_toArray, List.set_cons_zero, List.set_cons_succ]); exact rfl) ?_)
            | (refine wpl rfl (wp_load1 hS 3 _ rfl _ _ rfl (one_of rfl) _ (by (repeat (first | with_reducible exact Pull.head | apply Pull.tail))) _ (by rfl) ?_); refine wpl_put (by (simp only [Act.put, List.setIfInBounds_toArray, List.set_cons_zero, List.set_cons_succ]); exact rfl) ?_)
            | (refine wpl rfl (wp_load1O hS 3 _ rfl _ _ rfl (one_of rfl) _ _ _ _ _ (by (repeat (first | with_reducible exact Pull.head | apply Pull.tail))) _ (by with_reducible assumption) ?_); refine wpl_put (by (simp only [Act.put, List.setIfInBounds_toArray, List.set_cons_zero, List.set_cons_succ]); exact rfl) ?_)
            | (refine wpl rfl (wp_loadW hS 3 _ rfl _ rfl (one_of rfl) _ (by with_reducible assumption) ?_); refine wpl_put (by (simp only [Act.put, List.setIfInBounds_toArray, List.set_cons_zero, List.set_cons_succ]); exact rfl) ?_)
            | (refine wpl rfl (wp_load1 hS 5 _ rfl _ _ rfl (one_of rfl) _ (by (repeat (first | with_reducible exact Pull.head | apply Pull.tail))) _ (by rfl) ?_); refine wpl_put (by (simp only [Act.put, List.setIfInBounds_toArray, List.set_cons_zero, List.set_cons_succ]); exact rfl) ?_)
            | (refine wpl rfl (wp_load1O hS 5 _ rfl _ _ rfl (one_of rfl) _ _ _ _ _ (by (repeat (first | with_reducible exact Pull.head | apply Pull.tail))) _ (by with_reducible assumption) ?_); refine wpl_put (by (simp only [Act.put, List.setIfInBounds_toArray, List.set_cons_zero, List.set_cons_succ]); exact rfl) ?_)
            | (refine wpl rfl (wp_loadW hS 5 _ rfl _ rfl (one_of rfl) _ (by with_reducible assumption) ?_); refine wpl_put (by (simp only [Act.put, List.setIfInBounds_toArray, List.set_cons_zero, List.set_cons_succ]); exact rfl) ?_)
                                                            | (first | refine stop_load ?_ | refine stop_store ?_ | refine stop_alloc ?_ | refine stop_box ?_))
          rw [HR.out]
          have hr0 : (0 : Int) ≤ (r : Int) := by omega
          have hr64 : (r : Int) < 8 := by omega
          have hm5 : (1 : Int) ≤ (m : Int) := by omega
          refine drawn_lit [] (fun w => St W w [own 5 1 (some ⟨g, 0, none⟩) m c2 (bv (wBytes ns i))]) (by kernel_rfl) ?_
          replace hS := hS.drew
          apply takeP 0 (by (repeat (first | with_reducible exact AtL.head | apply AtL.tail))) (by kernel_rfl) (by kernel_rfl) (by kernel_rfl) (fun _ _ _ _ h => h)
          case hfr => intro w; go_wp2_with fail; exact ⟨rfl, rfl⟩
          case hd => rfl
          apply takeP 1 (by (repeat (first | with_reducible exact AtL.head | apply AtL.tail))) (by kernel_rfl) (by kernel_rfl) (by kernel_rfl) (fun _ _ _ _ h => h)
          case hfr => intro w; go_wp2_with fail; exact ⟨rfl, rfl⟩
          case hd => rfl
          apply takeP 2 (by (repeat (first | with_reducible exact AtL.head | apply AtL.tail))) (by kernel_rfl) (by kernel_rfl) (by kernel_rfl) (fun _ _ _ _ h => h)
          case hfr => intro w; go_wp2_with fail; exact ⟨rfl, rfl⟩
          case hd => rfl
          apply takeP 3 (by (repeat (first | with_reducible exact AtL.head | apply AtL.tail))) (by kernel_rfl) (by kernel_rfl) (by kernel_rfl) (fun _ _ _ _ h => h)
          case hfr => intro w; go_wp2_with fail; exact ⟨rfl, rfl⟩
          case hd => rfl
          apply takeP 4 (by (repeat (first | with_reducible exact AtL.head | apply AtL.tail))) (by kernel_rfl) (by kernel_rfl) (by kernel_rfl) (fun _ _ _ _ h => h)
          case hfr => intro w; go_wp2_with fail; exact ⟨rfl, rfl⟩
          case hd => rfl
          apply takeP 5 (by (repeat (first | with_reducible exact AtL.head | apply AtL.tail))) (by kernel_rfl) (by kernel_rfl) (by kernel_rfl) (fun _ _ _ _ h => h)
          case hfr => intro w; go_wp2_with fail; exact ⟨rfl, rfl⟩
          case hd => rfl
          apply takeP 6 (by (repeat (first | with_reducible exact AtL.head | apply AtL.tail))) (by kernel_rfl) (by kernel_rfl) (by kernel_rfl) (fun _ _ _ _ h => h)
          case hfr => intro w; go_wp2_with fail; exact ⟨rfl, rfl⟩
          case hd => rfl
          apply takeP 7 (by (repeat (first | with_reducible exact AtL.head | apply AtL.tail))) (by kernel_rfl) (by kernel_rfl) (by kernel_rfl) (fun _ _ _ _ h => h)
          case hfr => intro w; go_wp2_with fail; exact ⟨rfl, rfl⟩
          case hd => rfl
          apply takeP 8 (by (repeat (first | with_reducible exact AtL.head | apply AtL.tail))) (by kernel_rfl) (by kernel_rfl) (by kernel_rfl) (fun _ _ _ _ h => h)
          case hfr => intro w; go_wp2_with fail; exact ⟨rfl, rfl⟩
          case hd => rfl
          apply takeP 9 (by (repeat (first | with_reducible exact AtL.head | apply AtL.tail))) (by kernel_rfl) (by kernel_rfl) (by kernel_rfl) (fun _ _ _ _ h => h)
          case hfr => intro w; go_wp2_with fail; exact ⟨rfl, rfl⟩
          case hd => rfl
          apply takeP 10 (by (repeat (first | with_reducible exact AtL.head | apply AtL.tail))) (by kernel_rfl) (by kernel_rfl) (by kernel_rfl) (fun _ _ _ _ h => h)
          case hfr => intro w; go_wp2_with fail; exact ⟨rfl, rfl⟩
          case hd => rfl
          apply takeP 11 (by (repeat (first | with_reducible exact AtL.head | apply AtL.tail))) (by kernel_rfl) (by kernel_rfl) (by kernel_rfl) (fun _ _ _ _ h => h)
          case hfr => intro w; go_wp2_with fail; exact ⟨rfl, rfl⟩
          case hd => rfl
          apply takeS 12 (by (repeat (first | with_reducible exact AtL.head | apply AtL.tail))) (by kernel_rfl) (by kernel_rfl) (by kernel_rfl) (fun _ _ _ _ h => h) [13, 17, 21, 22, 23] (by kernel_rfl) (hS.sub (by (repeat (first | exact Sub.nil | with_reducible exact Sub.refl | (refine Sub.cons (by (repeat (first | with_reducible exact Pull.head | apply Pull.tail))) ?_) | apply Sub.skip))))
          case hfr => intro w hS; go_wp2_with (first | (refine wpl rfl (wp_load1 hS 5 _ rfl _ _ rfl (one_of rfl) _ (by (repeat (first | with_reducible exact Pull.head | apply Pull.tail))) _ (by rfl) ?_); refine wpl_put (by (simp only [Act.put, List.setIfInBounds_toArray, List.set_cons_zero, List.set_cons_succ]); exact rfl) ?_) | (refine wpl rfl (wp_load1O hS 5 _ rfl _ _ rfl (one_of rfl) _ _ _ _ _ (by (repeat (first | with_reducible exact Pull.head | apply Pull.tail))) _ (by with_reducible assumption) ?_); refine wpl_put (by (simp only [Act.put, List.setIfInBounds_toArray, List.set_cons_zero, List.set_cons_succ]); exact rfl) ?_) | (refine wpl rfl (wp_loadW hS 5 _ rfl _ rfl (one_of rfl) _ (by with_reducible assumption) ?_); refine wpl_put (by (simp only [Act.put, List.setIfInBounds_toArray, List.set_cons_zero, List.set_cons_succ]); exact rfl) ?_)); exact ⟨rfl, rfl⟩
          case hd => rfl
          apply takeP 13 (by (repeat (first | with_reducible exact AtL.head | apply AtL.tail))) (by kernel_rfl) (by kernel_rfl) (by kernel_rfl) (fun _ _ _ _ h => h)
          case hfr => intro w; go_wp2_with fail; exact ⟨rfl, rfl⟩
          case hd => rfl
          apply takeP 14 (by (repeat (first | with_reducible exact AtL.head | apply AtL.tail))) (by kernel_rfl) (by kernel_rfl) (by kernel_rfl) (fun _ _ _ _ h => h)
          case hfr => intro w; go_wp2_with fail; exact ⟨rfl, rfl⟩
          case hd => rfl
          apply takeP 15 (by (repeat (first | with_reducible exact AtL.head | apply AtL.tail))) (by kernel_rfl) (by kernel_rfl) (by kernel_rfl) (fun _ _ _ _ h => h)
          case hfr => intro w; go_wp2_with fail; exact ⟨rfl, rfl⟩
          case hd => rfl
          apply takeP 16 (by (repeat (first | with_reducible exact AtL.head | apply AtL.tail))) (by kernel_rfl) (by kernel_rfl) (by kernel_rfl) (fun _ _ _ _ h => h)
          case hfr => intro w; go_wp2_with fail; exact ⟨rfl, rfl⟩
          case hd => rfl
          apply takeP 17 (by (repeat (first | with_reducible exact AtL.head | apply AtL.tail))) (by kernel_rfl) (by kernel_rfl) (by kernel_rfl) (fun _ _ _ _ h => h)
          case hfr => intro w; go_wp2_with fail; exact ⟨rfl, rfl⟩
          case hd => rfl
          apply takeP 18 (by (repeat (first | with_reducible exact AtL.head | apply AtL.tail))) (by kernel_rfl) (by kernel_rfl) (by kernel_rfl) (fun _ _ _ _ h => h)
          case hfr => intro w; go_wp2_with fail; exact ⟨rfl, rfl⟩
          case hd => rfl
          apply takeP 19 (by (repeat (first | with_reducible exact AtL.head | apply AtL.tail))) (by kernel_rfl) (by kernel_rfl) (by kernel_rfl) (fun _ _ _ _ h => h)
          case hfr => intro w; go_wp2_with fail; exact ⟨rfl, rfl⟩
          case hd => rfl
          apply takeP 20 (by (repeat (first | with_reducible exact AtL.head | apply AtL.tail))) (by kernel_rfl) (by kernel_rfl) (by kernel_rfl) (fun _ _ _ _ h => h)
          case hfr => intro w; go_wp2_with fail; exact ⟨rfl, rfl⟩
          case hd => rfl
          apply takeP 21 (by (repeat (first | with_reducible exact AtL.head | apply AtL.tail))) (by kernel_rfl) (by kernel_rfl) (by kernel_rfl) (fun _ _ _ _ h => h)
          case hfr => intro w; go_wp2_with fail; exact ⟨rfl, rfl⟩
          case hd => rfl
          apply takeP 22 (by (repeat (first | with_reducible exact AtL.head | apply AtL.tail))) (by kernel_rfl) (by kernel_rfl) (by kernel_rfl) (fun _ _ _ _ h => h)
          case hfr => intro w; go_wp2_with fail; exact ⟨rfl, rfl⟩
          case hd => rfl
          apply takeP 23 (by (repeat (first | with_reducible exact AtL.head | apply AtL.tail))) (by kernel_rfl) (by kernel_rfl) (by kernel_rfl) (fun _ _ _ _ h => h)
          case hfr => intro w; go_wp2_with fail; exact ⟨rfl, rfl⟩
          case hd => rfl
          refine drawn_done (by kernel_rfl) ?_ _
          go_wp2_with (first
            | (refine wpl rfl (wp_loadA hS 39 _ rfl _ rfl 2 (row_of rfl) _ (by (repeat (first | with_reducible exact Pull.head | apply Pull.tail))) ?_); refine wpl_put (by (simp only [Act.put, List.setIfInBounds_toArray, List.set_cons_zero, List.set_cons_succ]); exact rfl) ?_)
            | (refine wpl rfl (wp_loadG hS 39 _ rfl _ rfl 2 (row_of rfl) _ (by (repeat (first | with_reducible exact Pull.head | apply Pull.tail))) (by rfl) ?_); refine wpl_put (by (simp only [Act.put, List.setIfInBounds_toArray, List.set_cons_zero, List.set_cons_succ]); exact rfl) ?_)
            | (refine wpl rfl (wp_loadRW hS 39 _ rfl _ _ rfl 2 (row_of rfl) _ (by with_reducible assumption) (by rfl) ?_); refine wpl_put (by (simp only [Act.put, List.setIfInBounds_toArray, List.set_cons_zero, List.set_cons_succ]); exact rfl) ?_)
            | (refine wpl rfl (wp_alloc (o := ⟨some 7, _, _, _, _, _⟩) hS 39 rfl (.agg #[.int .i64 0, .int .i64 0]) [.int .i64 0, .int .i64 0] (fun w => Try.zeroValue39 w) rfl ?_); clear hS; intro g7 w hS; refine wpl_put (by (simp only [Act.put, List.setIfInBounds_toArray, List.set_cons_zero, List.set_cons_succ]); exact rfl) ?_)
            | (refine wpl rfl (wp_storeA hS 39 _ _ rfl _ rfl 2 (row_of rfl) _ _ (by (repeat (first | with_reducible exact Pull.head | apply Pull.tail))) (by rfl) (by assumption) rfl ?_); clear hS; intro w hS)
            | (refine wpl rfl (wp_storeG hS 39 _ _ rfl _ rfl 2 (row_of rfl) _ _ (by (repeat (first | with_reducible exact Pull.head | apply Pull.tail))) (by rfl) (by rfl) (by rfl) (by rfl) rfl ?_); clear hS; intro w hS)
            | (refine wpl rfl (wp_load1A hS 3 _ rfl _ _ rfl (one_of rfl) _ _ (by (repeat (first | with_reducible exact Pull.head | apply Pull.tail))) (by omega) ?_); refine wpl_put (by (simp only [Act.put, List.setIfInBounds_toArray, List.set_cons_zero, List.set_cons_succ]); exact rfl) ?_)
            | (refine wpl rfl (wp_load1 hS 3 _ rfl _ _ rfl (one_of rfl) _ (by (repeat (first | with_reducible exact Pull.head | apply Pull.tail))) _ (by rfl) ?_); refine wpl_put (by (simp only [Act.put, List.setIfInBounds_toArray, List.set_cons_zero, List.set_cons_succ]); exact rfl) ?_)
            | (refine wpl rfl (wp_load1O hS 3 _ rfl _ _ rfl (one_of rfl) _ _ _ _ _ (by (repeat (first | with_reducible exact Pull.head | apply Pull.tail))) _ (by with_reducible assumption) ?_); refine wpl_put (by (simp only [Act.put, List.setIfInBounds_toArray, List.set_cons_zero, List.set_cons_succ]); exact rfl) ?_)
            | (refine wpl rfl (wp_loadW hS 3 _ rfl _ rfl (one_of rfl) _ (by with_reducible assumption) ?_); refine wpl_put (by (simp only [Act.put, List.setIfInBounds_toArray, List.set_cons_zero, List.set_cons_succ]); exact rfl) ?_)
            | (refine wpl rfl (wp_load1 hS 5 _ rfl _ _ rfl (one_of rfl) _ (by (repeat (first | with_reducible exact Pull.head | apply Pull.tail))) _ (by rfl) ?_); refine wpl_put (by (simp only [Act.put, List.setIfInBounds_toArray, List.set_cons_zero, List.set_cons_succ]); exact rfl) ?_)
            | (refine wpl rfl (wp_load1O hS 5 _ rfl _ _ rfl (one_of rfl) _ _ _ _ _ (by (repeat (first | with_reducible exact Pull.head | apply Pull.tail))) _ (by with_reducible assumption) ?_); refine wpl_put (by (simp only [Act.put, List.setIfInBounds_toArray, List.set_cons_zero, List.set_cons_succ]); exact rfl) ?_)
            | (refine wpl rfl (wp_loadW hS 5 _ rfl _ rfl (one_of rfl) _ (by with_reducible assumption) ?_); refine wpl_put (by (simp only [Act.put, List.setIfInBounds_toArray, List.set_cons_zero, List.set_cons_succ]); exact rfl) ?_)
                                                            | (first | refine stop_load ?_ | refine stop_store ?_ | refine stop_alloc ?_ | refine stop_box ?_))
          go_ret
          exact ⟨rfl, hS.1⟩
  · have HM : Hid ((wBytes ns n).length = 0) := by unfold Hid; rw [wBytes, if_neg he]; rfl
    have he2 : (wErr ns n == 0) = false := by simpa using he
    have he3 : (wErr ns n != 0) = true := by simpa using he
    clear he
    go_enter Try.func7, Try.ntmps7
    go_wp2_with (first
      | (refine wpl rfl (wp_loadA hS 39 _ rfl _ rfl 2 (row_of rfl) _ (by (repeat (first | with_reducible exact Pull.head | apply Pull.tail))) ?_); refine wpl_put (by (simp only [Act.put, List.setIfInBounds_toArray, List.set_cons_zero, List.set_cons_succ]); exact rfl) ?_)
      | (refine wpl rfl (wp_loadG hS 39 _ rfl _ rfl 2 (row_of rfl) _ (by (repeat (first | with_reducible exact Pull.head | apply Pull.tail))) (by rfl) ?_); refine wpl_put (by (simp only [Act.put, List.setIfInBounds_toArray, List.set_cons_zero, List.set_cons_succ]); exact rfl) ?_)
      | (refine wpl rfl (wp_loadRW hS 39 _ rfl _ _ rfl 2 (row_of rfl) _ (by with_reducible assumption) (by rfl) ?_); refine wpl_put (by (simp only [Act.put, List.setIfInBounds_toArray, List.set_cons_zero, List.set_cons_succ]); exact rfl) ?_)
      | (refine wpl rfl (wp_alloc (o := ⟨some 7, _, _, _, _, _⟩) hS 39 rfl (.agg #[.int .i64 0, .int .i64 0]) [.int .i64 0, .int .i64 0] (fun w => Try.zeroValue39 w) rfl ?_); clear hS; intro g7 w hS; refine wpl_put (by (simp only [Act.put, List.setIfInBounds_toArray, List.set_cons_zero, List.set_cons_succ]); exact rfl) ?_)
      | (refine wpl rfl (wp_storeA hS 39 _ _ rfl _ rfl 2 (row_of rfl) _ _ (by (repeat (first | with_reducible exact Pull.head | apply Pull.tail))) (by rfl) (by assumption) rfl ?_); clear hS; intro w hS)
      | (refine wpl rfl (wp_storeG hS 39 _ _ rfl _ rfl 2 (row_of rfl) _ _ (by (repeat (first | with_reducible exact Pull.head | apply Pull.tail))) (by rfl) (by rfl) (by rfl) (by rfl) rfl ?_); clear hS; intro w hS)
      | (refine wpl rfl (wp_load1A hS 3 _ rfl _ _ rfl (one_of rfl) _ _ (by (repeat (first | with_reducible exact Pull.head | apply Pull.tail))) (by omega) ?_); refine wpl_put (by (simp only [Act.put, List.setIfInBounds_toArray, List.set_cons_zero, List.set_cons_succ]); exact rfl) ?_)
      | (refine wpl rfl (wp_load1 hS 3 _ rfl _ _ rfl (one_of rfl) _ (by (repeat (first | with_reducible exact Pull.head | apply Pull.tail))) _ (by rfl) ?_); refine wpl_put (by (simp only [Act.put, List.setIfInBounds_toArray, List.set_cons_zero, List.set_cons_succ]); exact rfl) ?_)
      | (refine wpl rfl (wp_load1O hS 3 _ rfl _ _ rfl (one_of rfl) _ _ _ _ _ (by (repeat (first | with_reducible exact Pull.head | apply Pull.tail))) _ (by with_reducible assumption) ?_); refine wpl_put (by (simp only [Act.put, List.setIfInBounds_toArray, List.set_cons_zero, List.set_cons_succ]); exact rfl) ?_)
      | (refine wpl rfl (wp_loadW hS 3 _ rfl _ rfl (one_of rfl) _ (by with_reducible assumption) ?_); refine wpl_put (by (simp only [Act.put, List.setIfInBounds_toArray, List.set_cons_zero, List.set_cons_succ]); exact rfl) ?_)
      | (refine wpl rfl (wp_load1 hS 5 _ rfl _ _ rfl (one_of rfl) _ (by (repeat (first | with_reducible exact Pull.head | apply Pull.tail))) _ (by rfl) ?_); refine wpl_put (by (simp only [Act.put, List.setIfInBounds_toArray, List.set_cons_zero, List.set_cons_succ]); exact rfl) ?_)
      | (refine wpl rfl (wp_load1O hS 5 _ rfl _ _ rfl (one_of rfl) _ _ _ _ _ (by (repeat (first | with_reducible exact Pull.head | apply Pull.tail))) _ (by with_reducible assumption) ?_); refine wpl_put (by (simp only [Act.put, List.setIfInBounds_toArray, List.set_cons_zero, List.set_cons_succ]); exact rfl) ?_)
      | (refine wpl rfl (wp_loadW hS 5 _ rfl _ rfl (one_of rfl) _ (by with_reducible assumption) ?_); refine wpl_put (by (simp only [Act.put, List.setIfInBounds_toArray, List.set_cons_zero, List.set_cons_succ]); exact rfl) ?_)
                                                            | (refine wpl_call (f := 21) Try.call21 rfl ?_; refine ⟨_, (written_any _), ?_⟩; rintro e w ⟨rfl, hE⟩; replace hS := hS.ext hE; clear hE; refine ⟨_, rfl, ?_⟩; refine wpl_put (by (simp only [Act.put, List.setIfInBounds_toArray, List.set_cons_zero, List.set_cons_succ]); exact rfl) ?_)
                                                            | (refine wpl_call (f := 22) Try.call22 rfl ?_; refine ⟨_, (write_any _ _ n ns (HV.out.ext hS.1) HW.out), ?_⟩; rintro e w ⟨ad2, c2, rfl, hS2⟩; replace hS := hS.call1 hS2; clear hS2; rw [HM.out]; rw [HM.out] at hS; refine ⟨_, rfl, ?_⟩; refine wpl_put (by (simp only [Act.put, List.setIfInBounds_toArray, List.set_cons_zero, List.set_cons_succ]); exact rfl) ?_)
                                                            | (first | refine stop_load ?_ | refine stop_store ?_ | refine stop_alloc ?_ | refine stop_box ?_))
    all_goals (go_ret; exact ⟨rfl, hS.1⟩)
end Go.Proofs.Ytodihnhpibjhmaa
