/- The law BestTurned: its walk, and the statement. -/
import Derived.Test.YtembekkanggciaaBestBoth
import Derived.Test.YtembekkanggciaaOpen
import Derived.Test.YtembekkanggciaaOpenTab
import Derived.Test.YtembekkanggciaaUpto
import Derived.Test.YtembekkanggciaaSized
import Derived.Test.YtembekkanggciaaTint
namespace Go.Proofs.Ytembekkanggciaa
open Go.ChangeShapes Go.WideShapes Go.ChangeAt Go.RowKit
set_option linter.unusedVariables false
/-- Counts, turned. -/
def rot (c : List Int) (k : Nat) : List Int := c.drop k ++ c.take k
theorem rot_len (c : List Int) (k : Nat) : (rot c k).length = c.length := by unfold rot; simp; omega
theorem rot_back {c : List Int} {n k : Nat} (hcl : c.length = n) (hk : k ≤ n) : rot (rot c k) (n - k) = c := by
  unfold rot
  have h : (c.drop k).length = n - k := by simp; omega
  rw [← h, List.drop_left, List.take_left, List.take_append_drop]
theorem rot_nth {c : List Int} {n k : Nat} (hcl : c.length = n) (hk : k ≤ n) {i : Nat} (hi : i < n) : nth (rot c k) i = nth c (if i < n - k then i + k else i - (n - k)) := by
  unfold rot nth List.getD
  congr 1
  by_cases h : i < n - k
  · rw [if_pos h, List.getElem?_append_left (by simp; omega), List.getElem?_drop, Nat.add_comm]
  · rw [if_neg h, List.getElem?_append_right (by simp; omega), List.getElem?_take_of_lt (by simp; omega)]
    congr 1
    simp; omega
theorem rot_bE (c : List Int) (k : Nat) : bE (rot c k) = bE c := by
  have h : allIn (rot c k) 0 9999 = allIn c 0 9999 := by
    have e : ∀ a b : List Int, allIn (a ++ b) 0 9999 = (allIn a 0 9999 && allIn b 0 9999) := fun a b => by
      unfold allIn; rw [List.any_append, Bool.not_or]
    unfold rot
    rw [e, Bool.and_comm, ← e, List.take_append_drop]
  unfold bE; rw [rot_len, h]
theorem rot_le {c C S C' S' : List Int} {n k : Nat} (hcl : c.length = n) (hk : k ≤ n) (hb : bE c = 0) (h : Mk c n C S) (h' : Mk (rot c k) n C' S') : costL (rot c k) n (lw (wds C' S')) ≤ costL c n (lw (wds C S)) := by
  have hc := (bE_ok hb).2
  rw [hcl] at hc
  have hc2 := (bE_ok ((rot_bE c k).trans hb)).2
  rw [rot_len, hcl] at hc2
  have hst : ∀ s : Int, 0 ≤ s → s < n → (if s < ((n - k : Nat) : Int) then s + k else s - ((n - k : Nat) : Int)).toNat = if s.toNat < n - k then s.toNat + k else s.toNat - (n - k) := fun s h0 h1 => by
    by_cases h2 : s < ((n - k : Nat) : Int)
    · rw [if_pos h2, if_pos (by omega)]; omega
    · rw [if_neg h2, if_neg (by omega)]; omega
  refine opt_le (fun s => if s < ((n - k : Nat) : Int) then s + k else s - ((n - k : Nat) : Int)) h' h.lens (fun i hi => (hc2 i hi).1) (fun i hi => (hc i hi).1) (fun s hs => ?_) (fun a ha b hb e => ?_)
  · have h1 := (posL_mem _ n s).1 hs
    have e := rot_nth hcl hk (i := s.toNat) (by omega)
    rw [← hst s h1.1 h1.2.1] at e
    have h0 : 0 ≤ (if s < ((n - k : Nat) : Int) then s + k else s - ((n - k : Nat) : Int)) := by split <;> omega
    refine ⟨(posL_mem c n _).2 ⟨h0, by split <;> omega, by rw [← e]; exact h1.2.2⟩, ?_⟩
    rw [wOf_at _ _ h1.1, wOf_at _ _ h0, e]
    omega
  · have h1 := (posL_mem _ n a).1 ha
    have h2 := (posL_mem _ n b).1 hb
    split at e <;> split at e <;> omega
theorem rot_eq {c C S C' S' : List Int} {n k : Nat} (hcl : c.length = n) (hk : k ≤ n) (hb : bE c = 0) (h : Mk c n C S) (h' : Mk (rot c k) n C' S') : costL c n (lw (wds C S)) = costL (rot c k) n (lw (wds C' S')) := by
  refine Int.le_antisymm ?_ (rot_le hcl hk hb h h')
  have e := rot_back hcl hk
  have := rot_le (c := rot c k) (k := n - k) (C := C') (S := S') (C' := C) (S' := S) ((rot_len c k).trans hcl) (by omega) ((rot_bE c k).trans hb) h' (by rw [e]; exact h)
  rw [e] at this
  exact this
set_option maxRecDepth 100000 in
set_option maxHeartbeats 8000000 in
theorem BestTurned_walk {H : Type} {enc : TypeId × Value → H} {d0 d1 : DataW H} {p0 p1 : List MemPlace} {v0 v1 : Value} {base : Nat} (W : World)
    (o0 : Value.okWide Try.prog W .any base 23 v0) (h0 : DataW.Trod enc Try.prog W 0 (fun _ => true) true 23 v0 d0 p0) (lt0 : ∀ x ∈ p0, x.block < W.heap.size)
    (o1 : Value.okWide Try.prog W .any base 3 v1) (h1 : DataW.Trod enc Try.prog W 0 (fun _ => true) true 3 v1 d1 p1) (lt1 : ∀ x ∈ p1, x.block < W.heap.size)
    (hwt : (DataW.weightsEach Try.prog [23, 3] [d0, d1]).all (· ≤ reachBytes) = true) :
    Calls Try.prog 5 #[v0, v1] W fun e w' => e = .returned (.bool true) ∧ Ext W w' := by
  obtain ⟨m, l, ad2, c2, hl, rfl, hnc2, hcm2, hv2, hlt, hbk⟩ := op_ints o0 h0
  have hbk2 := slice_sized (j := 0) Try.underlying23 (show Try.prog.bytesOf 3 = 8 by kernel_rfl) h0 hwt rfl rfl
  have hm20 : m ≤ 17592186043904 := by omega
  obtain ⟨z1, rfl, _, _⟩ := op_int Try.underlying3 o1 h1
  clear o0 h0 lt0 o1 h1 lt1
  have hmm : m ≤ 9223372036854775807 := by omega
  clear hlt hbk hbk2 hwt
  have hS := St.start W
  have a0 := Int.emod_nonneg z1 (b := (m : Int) + 1) (by omega)
  have a1 := Int.emod_lt_of_pos z1 (b := (m : Int) + 1) (by omega)
  obtain ⟨k, hk⟩ : ∃ k : Nat, z1 % ((m : Int) + 1) = (k : Int) := ⟨(z1 % ((m : Int) + 1)).toNat, by omega⟩
  have HK := hid hk
  have hkm : k ≤ m := by omega
  clear hk a0 a1
  have HL := hid hl
  have hc1 := hv2.cutAt k m (by omega) (by omega)
  have hc2 := hv2.cutAt 0 k (by omega) (by omega)
  rw [show ((l.map (Value.int .i64)).drop (k * 1)).take ((m - k) * 1) = (l.drop k).map (Value.int .i64) by rw [← List.map_drop, List.take_of_length_le]; rw [Nat.mul_one]; simp; omega] at hc1
  rw [show ((l.map (Value.int .i64)).drop (0 * 1)).take ((k - 0) * 1) = (l.take k).map (Value.int .i64) by simp] at hc2
  clear hl
  go_enter Try.func5, Try.ntmps5
  repeat' (first
    | ((with_reducible show wpList _ _ _ (⟨_, .call ⟨.value (.func 11), _, _⟩, _, _, _, _⟩ :: _) _ _); refine wpl_call (f := 11) Try.call11 (by kernel_rfl) ?_; refine ⟨_, (bested_any _), ?_⟩; rintro e w ⟨rfl, hE2⟩; replace hS := hS.ext hE2; clear hE2; refine ⟨_, rfl, ?_⟩; refine put_move ?_; go_step)
    | ((with_reducible show wpList _ _ _ (⟨some 20, _, _, _, _, _⟩ :: _) _ _); refine wpl_call (f := 15) Try.call15 (by kernel_rfl) ?_; refine ⟨_, (rest_any z1 ((m : Int) + 1) _ (by omega) (by omega)), ?_⟩; rintro e w ⟨rfl, rfl⟩; rw [HK.out]; refine ⟨_, rfl, ?_⟩; refine put_move ?_; go_step)
    | go_skip
    | go_big_skip
    | ((with_reducible show wpList _ _ _ (⟨_, .move _, _, _, _, _⟩ :: _) _ _); (first | go_big_want | go_step); go_step)
    | ((with_reducible show wpList _ _ _ (⟨_, .assign _, _, _, _, _⟩ :: _) _ _); (first | go_big_want | go_step); go_step)
    | ((with_reducible show wpList _ _ _ (⟨_, .pick _ _ _, _, _, _, _⟩ :: _) _ _); first | (refine wplPickT rfl (by kernel_rfl) ?_; go_step) | (refine wplPickF rfl (by kernel_rfl) ?_; go_step))
    | ((with_reducible show wpList _ _ _ (⟨_, .unOp .not _ _, _, _, _, _⟩ :: _) _ _); first | (refine wplV _ (V.notD rfl) (by kernel_rfl) ?_; go_step) | (refine wplV _ (V.not rfl) (by kernel_rfl) ?_; go_step))
    | ((with_reducible show wpList _ _ _ (⟨_, .call ⟨.builtin .len, _, _⟩, _, _, _, _⟩ :: _) _ _); first | (refine wplV _ (V.len Try.underlying23 rfl) (by kernel_rfl) ?_; go_step))
    | ((with_reducible show wpList _ _ _ (⟨_, .binOp .add _ _ _ _, _, _, _, _⟩ :: _) _ _); first | (refine wplV _ (V.addI rfl rfl (by omega)) (by kernel_rfl) ?_; go_step) | (refine wplV _ (V.addR (by decide) rfl rfl) (by kernel_rfl) ?_; go_step))
    | ((fail_if_success (with_reducible show wpList _ _ _ (_ :: _) _ _)); go_step))
  have hd1 := hc1.ext hS.1
  have hd2 := hc2.ext hS.1
  refine drawn_lit [] (fun _ => True) (by kernel_rfl) ?_
  replace hS := hS.drew
  focus
    refine takeM 0 _ (by (repeat (first | with_reducible exact AtL.head | apply AtL.tail))) (by kernel_rfl) (by kernel_rfl) (by kernel_rfl) (by exact fun _ _ _ _ h => h) rfl ?_
    go_step
    refine takeM 1 _ (by (repeat (first | with_reducible exact AtL.head | apply AtL.tail))) (by kernel_rfl) (by kernel_rfl) (by kernel_rfl) (by exact fun _ _ _ _ h => h) rfl ?_
    go_step
    first | (refine takeV 2 _ (by (repeat (first | with_reducible exact AtL.head | apply AtL.tail))) (by kernel_rfl) (by kernel_rfl) (by kernel_rfl) (by exact fun _ _ _ _ h => h) (V.slice Try.underlying23 isz3 rfl (by (first | exact Lo.none | exact Lo.some rfl (by (repeat (first | exact IsN.auto | with_reducible apply IsN.add | with_reducible apply IsN.sub | with_reducible apply IsN.mul | with_reducible apply IsN.div | with_reducible apply IsN.mod | with_reducible apply IsN.min | with_reducible apply IsN.max | (with_reducible show (_ : Nat) ≤ _; omega) | exact IsN.toNat (by omega)))))) (by (first | exact Up.none | exact Up.some rfl (by (repeat (first | exact IsN.auto | with_reducible apply IsN.add | with_reducible apply IsN.sub | with_reducible apply IsN.mul | with_reducible apply IsN.div | with_reducible apply IsN.mod | with_reducible apply IsN.min | with_reducible apply IsN.max | (with_reducible show (_ : Nat) ≤ _; omega) | exact IsN.toNat (by omega)))))) (by omega) (by omega)) rfl ?_)
    go_step
    refine takeM 4 _ (by (repeat (first | with_reducible exact AtL.head | apply AtL.tail))) (by kernel_rfl) (by kernel_rfl) (by kernel_rfl) (by exact fun _ _ _ _ h => h) rfl ?_
    go_step
    refine takeM 5 _ (by (repeat (first | with_reducible exact AtL.head | apply AtL.tail))) (by kernel_rfl) (by kernel_rfl) (by kernel_rfl) (by exact fun _ _ _ _ h => h) rfl ?_
    go_step
    first | (refine takeV 6 _ (by (repeat (first | with_reducible exact AtL.head | apply AtL.tail))) (by kernel_rfl) (by kernel_rfl) (by kernel_rfl) (by exact fun _ _ _ _ h => h) (V.slice Try.underlying23 isz3 rfl (by (first | exact Lo.none | exact Lo.some rfl (by (repeat (first | exact IsN.auto | with_reducible apply IsN.add | with_reducible apply IsN.sub | with_reducible apply IsN.mul | with_reducible apply IsN.div | with_reducible apply IsN.mod | with_reducible apply IsN.min | with_reducible apply IsN.max | (with_reducible show (_ : Nat) ≤ _; omega) | exact IsN.toNat (by omega)))))) (by (first | exact Up.none | exact Up.some rfl (by (repeat (first | exact IsN.auto | with_reducible apply IsN.add | with_reducible apply IsN.sub | with_reducible apply IsN.mul | with_reducible apply IsN.div | with_reducible apply IsN.mod | with_reducible apply IsN.min | with_reducible apply IsN.max | (with_reducible show (_ : Nat) ≤ _; omega) | exact IsN.toNat (by omega)))))) (by omega) (by omega)) rfl ?_)
    go_step
    refine branch1 3 (by (repeat (first | with_reducible exact AtL.head | apply AtL.tail))) rfl (by kernel_rfl) ?_
    first | (refine wp_append (o := ⟨some 24, _, _, _, _, _⟩) hS _ _ 23 rfl 3 1 8 el23 _ _ _ _ rfl (by (repeat (first | with_reducible exact Pull.head | apply Pull.tail))) _ rfl _ _ (by (first | exact hS.slBlk (by (repeat (first | with_reducible exact Pull.head | apply Pull.tail))) (by rfl) (by decide) | exact hS.sl (by (repeat (first | with_reducible exact Pull.head | apply Pull.tail))) | with_reducible assumption | exact Sl.ext (by with_reducible assumption) hS.1 | exact Sl.nil _ _ | exact Sl.ext (by assumption) hS.1 | assumption)) (by (first | exact oneAll rfl | exact oneMap _ _ | (intro u hu; cases hu))) (by unfold maxLen; omega) (by omega) ?_; clear hS; intro ad24 c24 w hS; (first | simp only [mapk1] at hS | simp only [mapk2] at hS | simp only [mapk3] at hS | simp only [mapk4] at hS | simp only [mapkl] at hS | skip)) | (refine wp_append (o := ⟨some 24, _, _, _, _, _⟩) (hS.nilk 3 1 .i64) _ _ 23 rfl 3 1 8 el23 _ _ _ _ rfl (by (repeat (first | with_reducible exact Pull.head | apply Pull.tail))) _ rfl _ _ (by (first | exact hS.slBlk (by (repeat (first | with_reducible exact Pull.head | apply Pull.tail))) (by rfl) (by decide) | exact hS.sl (by (repeat (first | with_reducible exact Pull.head | apply Pull.tail))) | with_reducible assumption | exact Sl.ext (by with_reducible assumption) hS.1 | exact Sl.nil _ _ | exact Sl.ext (by assumption) hS.1 | assumption)) (by (first | exact oneAll rfl | exact oneMap _ _ | (intro u hu; cases hu))) (by unfold maxLen; omega) (by omega) ?_; clear hS; intro ad24 c24 w hS; (first | simp only [mapk1] at hS | simp only [mapk2] at hS | simp only [mapk3] at hS | simp only [mapk4] at hS | simp only [mapkl] at hS | skip))
    refine ⟨fun _ h => h, ?_⟩
    refine drawn_move ?_
    go_step
    refine branch1 7 (by (repeat (first | with_reducible exact AtL.head | apply AtL.tail))) rfl (by kernel_rfl) ?_
    first | (refine wp_append (o := ⟨some 28, _, _, _, _, _⟩) hS _ _ 23 rfl 3 1 8 el23 _ _ _ _ rfl (by (repeat (first | with_reducible exact Pull.head | apply Pull.tail))) _ rfl _ _ (by (first | exact hS.slBlk (by (repeat (first | with_reducible exact Pull.head | apply Pull.tail))) (by rfl) (by decide) | exact hS.sl (by (repeat (first | with_reducible exact Pull.head | apply Pull.tail))) | with_reducible assumption | exact Sl.ext (by with_reducible assumption) hS.1 | exact Sl.nil _ _ | exact Sl.ext (by assumption) hS.1 | assumption)) (by (first | exact oneAll rfl | exact oneMap _ _ | (intro u hu; cases hu))) (by unfold maxLen; omega) (by omega) ?_; clear hS; intro ad28 c28 w hS; (first | simp only [mapk1] at hS | simp only [mapk2] at hS | simp only [mapk3] at hS | simp only [mapk4] at hS | simp only [mapkl] at hS | skip)) | (refine wp_append (o := ⟨some 28, _, _, _, _, _⟩) (hS.nilk 3 1 .i64) _ _ 23 rfl 3 1 8 el23 _ _ _ _ rfl (by (repeat (first | with_reducible exact Pull.head | apply Pull.tail))) _ rfl _ _ (by (first | exact hS.slBlk (by (repeat (first | with_reducible exact Pull.head | apply Pull.tail))) (by rfl) (by decide) | exact hS.sl (by (repeat (first | with_reducible exact Pull.head | apply Pull.tail))) | with_reducible assumption | exact Sl.ext (by with_reducible assumption) hS.1 | exact Sl.nil _ _ | exact Sl.ext (by assumption) hS.1 | assumption)) (by (first | exact oneAll rfl | exact oneMap _ _ | (intro u hu; cases hu))) (by unfold maxLen; omega) (by omega) ?_; clear hS; intro ad28 c28 w hS; (first | simp only [mapk1] at hS | simp only [mapk2] at hS | simp only [mapk3] at hS | simp only [mapk4] at hS | simp only [mapkl] at hS | skip))
    refine ⟨fun _ h => h, ?_⟩
    refine drawn_move ?_
    go_step
    refine takeA 8 _ (by (repeat (first | with_reducible exact AtL.head | apply AtL.tail))) (by kernel_rfl) (by kernel_rfl) (by kernel_rfl) (by exact fun _ _ _ _ h => h) rfl ?_
    go_step
    refine drawn_done (by kernel_rfl) ?_ _
  rw [show 0 + (m - k) + (k - 0) = m by omega] at hS ⊢
  rw [List.nil_append, show l.drop k ++ l.take k = rot l k from rfl] at hS
  clear hd1 hd2 hc1 hc2
  have HUL := hid ((rot_len l k).trans HL.out)
  have HRE := hid (fun C S C' S' hb h h' => rot_eq (C := C) (S := S) (C' := C') (S' := S') HL.out hkm hb h h')
  have HBB := hid (rot_bE l k)
  obtain ⟨up, hup⟩ : ∃ up, rot l k = up := ⟨_, rfl⟩
  rw [hup] at hS HUL HRE HBB
  clear hup
  obtain ⟨B, hB⟩ : ∃ B, bE l = B := ⟨_, rfl⟩
  have HB1 := hid hB
  have HB2 := hid (HBB.out.trans hB)
  clear hB
  repeat' (first
    | ((with_reducible show wpList _ _ _ (⟨some 31, _, _, _, _, _⟩ :: _) _ _); refine wpl_call (f := 13) Try.call13 (by kernel_rfl) ?_; refine ⟨_, (make_both _ l _ m c2 (hv2.ext hS.1) hmm), ?_⟩; rintro e w ⟨C1, S1, ao1, m1, co1, hLen1, hs1, hm1, ht1, hM1, rfl, hS2⟩; rw [HB1.out]; have HM1 := hid hM1; have HT1 := hid ht1; replace hS := hS.call1 hS2; clear hS2 hM1 ht1; refine ⟨_, rfl, ?_⟩; refine put_move ?_; go_step)
    | ((with_reducible show wpList _ _ _ (⟨some 36, _, _, _, _, _⟩ :: _) _ _); refine wpl_call (f := 13) Try.call13 (by kernel_rfl) ?_; refine ⟨_, (make_both _ up _ m c28 (hS.sl (by (repeat (first | with_reducible exact Pull.head | apply Pull.tail)))) hmm), ?_⟩; rintro e w ⟨C2, S2, ao2, m2, co2, hLen2, hs2, hm2, ht2, hM2, rfl, hS2⟩; rw [HB2.out]; have HM2 := hid hM2; have HT2 := hid ht2; replace hS := hS.call1 hS2; clear hS2 hM2 ht2; refine ⟨_, rfl, ?_⟩; refine put_move ?_; go_step)
    | go_skip
    | go_big_skip
    | ((with_reducible show wpList _ _ _ (⟨_, .move _, _, _, _, _⟩ :: _) _ _); (first | go_big_want | go_step); go_step)
    | ((with_reducible show wpList _ _ _ (⟨_, .assign _, _, _, _, _⟩ :: _) _ _); (first | go_big_want | go_step); go_step)
    | ((with_reducible show wpList _ _ _ (⟨_, .pick _ _ _, _, _, _, _⟩ :: _) _ _); first | (refine wplPickT rfl (by kernel_rfl) ?_; go_step) | (refine wplPickF rfl (by kernel_rfl) ?_; go_step))
    | ((with_reducible show wpList _ _ _ (⟨_, .extract _ _, _, _, _, _⟩ :: _) _ _); first | (refine wplV _ (V.extract rfl rfl) (by kernel_rfl) ?_; go_step))
    | ((with_reducible show wpList _ _ _ (⟨some 6, .alloc 25, _, _, _, _⟩ :: _) _ _); first | (refine wpl (by kernel_rfl) ?_; apply wp_allocP (o := ⟨some 6, _, _, _, _, _⟩) hS 25 rfl _ zp25; clear hS; intro g6 w hS; refine put_move ?_; go_step))
    | ((with_reducible show wpList _ _ _ (⟨_, .store 25 _ _, _, _, _, _⟩ :: _) _ _); first | (refine wpl (by kernel_rfl) ?_; apply wp_storePP hS 25 _ _ rfl _ rfl 17 (row_of rfl) _ _; (case hp => (repeat (first | with_reducible exact Pull.head | apply Pull.tail))); (case hy => rfl); (case hn => (repeat (first | exact Pre.nil | (apply Pre.ints; (case hn => (first | (with_reducible assumption) | exact Len.rep | exact Len.set (by with_reducible assumption) | exact Len.set Len.rep | exact Len.set (Len.set Len.rep))); (case h => omega); (case hm => rfl)) | apply Pre.val))); (case hn' => (repeat (first | exact Pre.nil | (apply Pre.ints; (case hn => (first | (with_reducible assumption) | exact Len.rep | exact Len.set (by with_reducible assumption) | exact Len.set Len.rep | exact Len.set (Len.set Len.rep))); (case h => omega); (case hm => rfl)) | apply Pre.val))); (case hv => rfl); (case hd => exact rfl); clear hS; intro w hS) | (refine wpl (by kernel_rfl) ?_; apply wp_storeA hS 25 _ _ rfl _ rfl 17 (row_of rfl) _ _; (case hp => (repeat (first | with_reducible exact Pull.head | apply Pull.tail))); (case hy => rfl); (case hm => (repeat (first | assumption | exact Len.rep | apply Len.set | ((with_reducible show Len (_ :: _) _); exact rfl)))); (case hd => exact rfl); clear hS; intro w hS) | (refine wpl (by kernel_rfl) ?_; apply wp_storeG hS 25 _ _ rfl _ rfl 17 (row_of rfl) _ _; (case hp => (repeat (first | with_reducible exact Pull.head | apply Pull.tail))); (case hy => rfl); (case hn => rfl); (case hn' => rfl); (case hv => rfl); (case hd => exact rfl); clear hS; intro w hS))
    | ((with_reducible show wpList _ _ _ (⟨some 8, .alloc 25, _, _, _, _⟩ :: _) _ _); first | (refine wpl (by kernel_rfl) ?_; apply wp_allocP (o := ⟨some 8, _, _, _, _, _⟩) hS 25 rfl _ zp25; clear hS; intro g8 w hS; refine put_move ?_; go_step))
    | ((fail_if_success (with_reducible show wpList _ _ _ (_ :: _) _ _)); go_step))
  have hc1 := cost_both HM1.out HT1.out HL.out
  have hc2 := cost_both HM2.out HT2.out HUL.out
  rw [HB1.out] at hc1
  rw [HB2.out] at hc2
  have E1 := hid hc1.1
  have E2 := hid hc2.1
  have hXY : B = 0 → costN C1 S1 l = costN C2 S2 up := fun h => by
    rw [hc1.2 h, hc2.2 h]
    exact HRE.out _ _ _ _ (HB1.out.trans h) (HM1.out (HB1.out.trans h)) (HM2.out (HB2.out.trans h))
  obtain ⟨X, hX⟩ : ∃ X, costN C1 S1 l = X := ⟨_, rfl⟩
  obtain ⟨Y, hY⟩ : ∃ X, costN C2 S2 up = X := ⟨_, rfl⟩
  have HX := hid hX
  have HY := hid hY
  rw [hX, hY] at hXY
  clear hX hY hc1 hc2
  have hsp : B ≠ 0 ∨ X = Y := by
    by_cases h : B = 0
    · exact .inr (hXY h)
    · exact .inl h
  clear hXY
  rcases hsp with hsp | hsp
  all_goals
    repeat' (first
      | ((with_reducible show wpList _ _ _ (⟨some 42, _, _, _, _, _⟩ :: _) _ _); refine wpl_call (f := 12) Try.call12 (by kernel_rfl) ?_; refine ⟨_, (cost_any _ C1 S1 ao1 m1 co1 hLen1 (hS.sl (by (repeat (first | with_reducible exact Pull.head | apply Pull.tail)))) (by omega) l _ m c2 (hv2.ext hS.1) hmm), ?_⟩; rintro e w ⟨rfl, hE2⟩; rw [E1.out, HX.out]; replace hS := hS.ext hE2; clear hE2; refine ⟨_, rfl, ?_⟩; refine put_move ?_; go_step)
      | ((with_reducible show wpList _ _ _ (⟨some 48, _, _, _, _, _⟩ :: _) _ _); refine wpl_call (f := 12) Try.call12 (by kernel_rfl) ?_; refine ⟨_, (cost_any _ C2 S2 ao2 m2 co2 hLen2 (hS.sl (by (repeat (first | with_reducible exact Pull.head | apply Pull.tail)))) (by omega) up _ m c28 (hS.sl (by (repeat (first | with_reducible exact Pull.head | apply Pull.tail)))) hmm), ?_⟩; rintro e w ⟨rfl, hE2⟩; rw [E2.out, HY.out]; replace hS := hS.ext hE2; clear hE2; refine ⟨_, rfl, ?_⟩; refine put_move ?_; go_step)
      | go_skip
      | go_big_skip
      | ((with_reducible show wpList _ _ _ (⟨_, .move _, _, _, _, _⟩ :: _) _ _); (first | go_big_want | go_step); go_step)
      | ((with_reducible show wpList _ _ _ (⟨_, .assign _, _, _, _, _⟩ :: _) _ _); (first | go_big_want | go_step); go_step)
      | ((with_reducible show wpList _ _ _ (⟨_, .pick _ _ _, _, _, _, _⟩ :: _) _ _); first | (refine wplPickT rfl (by kernel_rfl) ?_; go_step) | (refine wplPickF rfl (by kernel_rfl) ?_; go_step))
      | ((with_reducible show wpList _ _ _ (⟨some 53, .binOp .eql 27 _ _ _, _, _, _, _⟩ :: _) _ _); first | (refine wplD _ (V.eql rfl rfl) (by kernel_rfl) (fun hB => ?_) (fun hB => ?_) <;> (try (have hF : False := (by omega); cases hF)) <;> go_step) | (refine wplB _ (V.eql rfl rfl) (by kernel_rfl) (fun hB => ?_) (fun hB => ?_) <;> (try (have hF : False := (absurd hB (by decide)); cases hF)) <;> go_step))
      | ((with_reducible show wpList _ _ _ (⟨some 56, .binOp .neq 27 _ _ _, _, _, _, _⟩ :: _) _ _); first | (refine wplD _ (V.neq rfl rfl) (by kernel_rfl) (fun hB => ?_) (fun hB => ?_) <;> (try (have hF : False := (by omega); cases hF)) <;> go_step) | (refine wplB _ (V.neq rfl rfl) (by kernel_rfl) (fun hB => ?_) (fun hB => ?_) <;> (try (have hF : False := (absurd hB (by decide)); cases hF)) <;> go_step))
      | ((with_reducible show wpList _ _ _ (⟨some 59, .binOp .eql 27 _ _ _, _, _, _, _⟩ :: _) _ _); first | (refine wplD _ (V.eql rfl rfl) (by kernel_rfl) (fun hB => ?_) (fun hB => ?_) <;> (try (have hF : False := (by omega); cases hF)) <;> go_step) | (refine wplB _ (V.eql rfl rfl) (by kernel_rfl) (fun hB => ?_) (fun hB => ?_) <;> (try (have hF : False := (absurd hB (by decide)); cases hF)) <;> go_step))
      | ((with_reducible show wpList _ _ _ (⟨some 62, .binOp .eql 27 _ _ _, _, _, _, _⟩ :: _) _ _); first | (refine wplD _ (V.eql rfl rfl) (by kernel_rfl) (fun hB => ?_) (fun hB => ?_) <;> (try (have hF : False := (by omega); cases hF)) <;> go_step) | (refine wplB _ (V.eql rfl rfl) (by kernel_rfl) (fun hB => ?_) (fun hB => ?_) <;> (try (have hF : False := (absurd hB (by decide)); cases hF)) <;> go_step))
      | ((with_reducible show wpList _ _ _ (⟨_, .extract _ _, _, _, _, _⟩ :: _) _ _); first | (refine wplV _ (V.extract rfl rfl) (by kernel_rfl) ?_; go_step))
      | ((with_reducible show wpList _ _ _ (⟨_, .binOp .eql 3 _ _ _, _, _, _, _⟩ :: _) _ _); first | (refine wplV _ (V.eql rfl rfl) (by kernel_rfl) ?_; go_step))
      | ((with_reducible show wpList _ _ _ (⟨_, .load 25 _, _, _, _, _⟩ :: _) _ _); first | (refine wpl (by kernel_rfl) ?_; apply wp_loadPP hS 25 _ rfl _ _ rfl 17 (row_of rfl) _; (case hp => (repeat (first | with_reducible exact Pull.head | apply Pull.tail))); (case hi => (repeat (first | (apply AtP.head; (repeat (first | exact Pre.nil | (apply Pre.ints; (case hn => (first | (with_reducible assumption) | exact Len.rep | exact Len.set (by with_reducible assumption) | exact Len.set Len.rep | exact Len.set (Len.set Len.rep))); (case h => omega); (case hm => rfl)) | apply Pre.val))) | (apply AtP.skipI; (case hn => (first | (with_reducible assumption) | exact Len.rep | exact Len.set (by with_reducible assumption) | exact Len.set Len.rep | exact Len.set (Len.set Len.rep))); (case h => omega); (case ho => rfl)) | apply AtP.skipV))); refine put_move ?_; go_step) | (refine wpl (by kernel_rfl) ?_; apply wp_loadA hS 25 _ rfl _ rfl 17 (row_of rfl) _; (case hp => (repeat (first | with_reducible exact Pull.head | apply Pull.tail))); refine put_move ?_; go_step) | (refine wpl (by kernel_rfl) ?_; apply wp_loadG hS 25 _ rfl _ rfl 17 (row_of rfl) _; (case hp => (repeat (first | with_reducible exact Pull.head | apply Pull.tail))); (case hn => rfl); refine put_move ?_; go_step) | (refine wpl (by kernel_rfl) ?_; apply wp_loadRW hS 25 _ rfl _ _ rfl 17 (row_of rfl) _; (case hc => with_reducible assumption); (case hn => rfl); refine put_move ?_; go_step))
      | ((fail_if_success (with_reducible show wpList _ _ _ (_ :: _) _ _)); go_step))
    all_goals (go_ret; first | exact ⟨rfl, hS.1⟩ | exact ⟨ret_bool (decide_eq_true (by omega)), hS.1⟩)
end Go.Proofs.Ytembekkanggciaa
