/- The law BestNone: its walk, and the statement. -/
import Derived.Test.YtembekkanggciaaBestBoth
import Derived.Test.YtembekkanggciaaOpen
import Derived.Test.YtembekkanggciaaOpenTab
import Derived.Test.YtembekkanggciaaUpto
import Derived.Test.YtembekkanggciaaTint
import Derived.Test.YtembekkanggciaaHasInt
namespace Go.Proofs.Ytembekkanggciaa
open Go.ChangeShapes Go.WideShapes Go.ChangeAt Go.RowKit
set_option linter.unusedVariables false
/-- A symbol more, that never comes. -/
def ins (c : List Int) (k : Nat) : List Int := c.take k ++ [0] ++ c.drop k
theorem ins_len {c : List Int} {n k : Nat} (hcl : c.length = n) (hk : k ≤ n) : (ins c k).length = n + 1 := by unfold ins; simp; omega
theorem ins_nth {c : List Int} {n k : Nat} (hcl : c.length = n) (hk : k ≤ n) (i : Nat) : nth (ins c k) i = if i < k then nth c i else if i = k then 0 else nth c (i - 1) := by
  unfold ins nth List.getD
  have ht : (c.take k).length = k := by simp; omega
  by_cases h : i < k
  · rw [if_pos h, List.append_assoc, List.getElem?_append_left (by omega), List.getElem?_take_of_lt h]
  · rw [if_neg h]
    by_cases h2 : i = k
    · subst h2
      rw [if_pos rfl, List.append_assoc, List.getElem?_append_right (by omega), ht, Nat.sub_self]; rfl
    · rw [if_neg h2, List.getElem?_append_right (by simp; omega), List.getElem?_drop]
      congr 2
      simp; omega
theorem ins_bE {c : List Int} {k : Nat} (h : c.length ≤ 255) (hk : k ≤ c.length) : bE (ins c k) = bE c := by
  have h2 : allIn (ins c k) 0 9999 = allIn c 0 9999 := by
    have e : ∀ a b : List Int, allIn (a ++ b) 0 9999 = (allIn a 0 9999 && allIn b 0 9999) := fun a b => by
      unfold allIn; rw [List.any_append, Bool.not_or]
    unfold ins
    rw [e, e, show allIn [0] 0 9999 = true from rfl, Bool.and_true, ← e, List.take_append_drop]
  unfold bE
  rw [h2, ins_len rfl hk, if_neg (show ¬ 256 < c.length + 1 by omega), if_neg (show ¬ 256 < c.length by omega)]
theorem ins_eq {c C S C' S' : List Int} {n k : Nat} (hcl : c.length = n) (h255 : n ≤ 255) (hk : k ≤ n) (hb : bE c = 0) (h : Mk c n C S) (h' : Mk (ins c k) (n + 1) C' S') : costL c n (lw (wds C S)) = costL (ins c k) (n + 1) (lw (wds C' S')) := by
  have hc := (bE_ok hb).2
  rw [hcl] at hc
  have hc2 := (bE_ok ((ins_bE (k := k) (show c.length ≤ 255 by omega) (by omega)).trans hb)).2
  rw [ins_len hcl hk] at hc2
  have hn := ins_nth hcl hk
  refine Int.le_antisymm ?_ ?_
  · refine opt_le (fun s => if s < (k : Int) then s else s + 1) h h'.lens (fun i hi => (hc i hi).1) (fun i hi => (hc2 i hi).1) (fun s hs => ?_) (fun a ha b hb e => ?_)
    · have h1 := (posL_mem _ n s).1 hs
      have e : nth (ins c k) (if s < (k : Int) then s else s + 1).toNat = nth c s.toNat := by
        rw [hn]
        by_cases h2 : s < (k : Int)
        · rw [if_pos h2, if_pos (by omega)]
        · rw [if_neg h2, if_neg (by omega), if_neg (by omega)]
          congr 1; omega
      have h0 : 0 ≤ (if s < (k : Int) then s else s + 1) := by split <;> omega
      refine ⟨(posL_mem _ _ _).2 ⟨h0, by split <;> omega, by rw [e]; exact h1.2.2⟩, ?_⟩
      rw [wOf_at _ _ h1.1, wOf_at _ _ h0, e]
      omega
    · split at e <;> split at e <;> omega
  · have hne : ∀ s ∈ posL (ins c k) (n + 1), 0 ≤ s ∧ s < n + 1 ∧ s ≠ k ∧ nth (ins c k) s.toNat = nth c (if s < (k : Int) then s else s - 1).toNat := fun s hs => by
      have h1 := (posL_mem _ (n + 1) s).1 hs
      have e := hn s.toNat
      by_cases h2 : s < (k : Int)
      · rw [if_pos (by omega)] at e
        rw [if_pos h2]
        exact ⟨h1.1, by omega, by omega, e⟩
      · rw [if_neg (by omega)] at e
        by_cases h3 : s = k
        · rw [if_pos (by omega)] at e
          omega
        · rw [if_neg (by omega)] at e
          rw [if_neg h2, e]
          exact ⟨h1.1, by omega, h3, by congr 1; omega⟩
    refine opt_le (fun s => if s < (k : Int) then s else s - 1) h' h.lens (fun i hi => (hc2 i hi).1) (fun i hi => (hc i hi).1) (fun s hs => ?_) (fun a ha b hb e => ?_)
    · have h1 := (posL_mem _ (n + 1) s).1 hs
      obtain ⟨q0, q1, q2, q3⟩ := hne s hs
      have h0 : 0 ≤ (if s < (k : Int) then s else s - 1) := by split <;> omega
      refine ⟨(posL_mem _ _ _).2 ⟨h0, by split <;> omega, by rw [← q3]; exact h1.2.2⟩, ?_⟩
      rw [wOf_at _ _ h1.1, wOf_at _ _ h0, q3]
      omega
    · have qa := hne a ha
      have qb := hne b hb
      split at e <;> split at e <;> omega
theorem ins_not {c C S : List Int} {n k : Nat} (hcl : c.length = n) (hk : k ≤ n) (h : Mk (ins c k) (n + 1) C S) : (k : Int) ∉ S := fun hm => by
  have h1 := (posL_mem _ _ _).1 ((h.mem _).1 hm)
  have h2 := ins_nth hcl hk k
  rw [if_neg (by omega), if_pos rfl] at h2
  have h3 := h1.2.2
  rw [Int.toNat_natCast, h2] at h3
  omega
set_option maxRecDepth 100000 in
set_option maxHeartbeats 8000000 in
theorem BestNone_walk {H : Type} {enc : TypeId × Value → H} {d0 d1 : DataW H} {p0 p1 : List MemPlace} {v0 v1 : Value} {base : Nat} (W : World)
    (o0 : Value.okWide Try.prog W .any base 23 v0) (h0 : DataW.Trod enc Try.prog W 0 (fun _ => true) true 23 v0 d0 p0) (lt0 : ∀ x ∈ p0, x.block < W.heap.size)
    (o1 : Value.okWide Try.prog W .any base 3 v1) (h1 : DataW.Trod enc Try.prog W 0 (fun _ => true) true 3 v1 d1 p1) (lt1 : ∀ x ∈ p1, x.block < W.heap.size)
    :
    Calls Try.prog 10 #[v0, v1] W fun e w' => e = .returned (.bool true) ∧ Ext W w' := by
  obtain ⟨m, l, ad2, c2, hl, rfl, hnc2, hcm2, hv2, hlt, hbk⟩ := op_ints o0 h0
  obtain ⟨z1, rfl, _, _⟩ := op_int Try.underlying3 o1 h1
  clear o0 h0 lt0 o1 h1 lt1
  have hmm : m ≤ 9223372036854775807 := by omega
  clear hlt hbk
  have hS := St.start W
  by_cases h255 : 255 < m
  · clear hl
    go_enter Try.func10, Try.ntmps10
    repeat' (first
      | ((with_reducible show wpList _ _ _ (⟨_, .call ⟨.value (.func 11), _, _⟩, _, _, _, _⟩ :: _) _ _); refine wpl_call (f := 11) Try.call11 (by kernel_rfl) ?_; refine ⟨_, (bested_any _), ?_⟩; rintro e w ⟨rfl, hE2⟩; replace hS := hS.ext hE2; clear hE2; refine ⟨_, rfl, ?_⟩; refine put_move ?_; go_step)
      | go_skip
      | go_big_skip
      | ((with_reducible show wpList _ _ _ (⟨_, .move _, _, _, _, _⟩ :: _) _ _); (first | go_big_want | go_step); go_step)
      | ((with_reducible show wpList _ _ _ (⟨_, .assign _, _, _, _, _⟩ :: _) _ _); (first | go_big_want | go_step); go_step)
      | ((with_reducible show wpList _ _ _ (⟨_, .pick _ _ _, _, _, _, _⟩ :: _) _ _); first | (refine wplPickT rfl (by kernel_rfl) ?_; go_step) | (refine wplPickF rfl (by kernel_rfl) ?_; go_step))
      | ((with_reducible show wpList _ _ _ (⟨_, .unOp .not _ _, _, _, _, _⟩ :: _) _ _); first | (refine wplV _ (V.notD rfl) (by kernel_rfl) ?_; go_step) | (refine wplV _ (V.not rfl) (by kernel_rfl) ?_; go_step))
      | ((with_reducible show wpList _ _ _ (⟨_, .call ⟨.builtin .len, _, _⟩, _, _, _, _⟩ :: _) _ _); first | (refine wplV _ (V.len Try.underlying23 rfl) (by kernel_rfl) ?_; go_step))
      | ((with_reducible show wpList _ _ _ (⟨_, .binOp .gtr _ _ _ _, _, _, _, _⟩ :: _) _ _); first | (refine wplV _ (V.gtr rfl rfl) (by kernel_rfl) ?_; go_step))
      | ((fail_if_success (with_reducible show wpList _ _ _ (_ :: _) _ _)); go_step))
    all_goals (go_ret; exact ⟨rfl, hS.1⟩)
  have a0 := Int.emod_nonneg z1 (b := (m : Int) + 1) (by omega)
  have a1 := Int.emod_lt_of_pos z1 (b := (m : Int) + 1) (by omega)
  obtain ⟨k, hk⟩ : ∃ k : Nat, z1 % ((m : Int) + 1) = (k : Int) := ⟨(z1 % ((m : Int) + 1)).toNat, by omega⟩
  have HK := hid hk
  have hkm : k ≤ m := by omega
  clear hk a0 a1
  have HL := hid hl
  have hc1 := hv2.cutAt 0 k (by omega) (by omega)
  have hc2 := hv2.cutAt k m (by omega) (by omega)
  rw [show ((l.map (Value.int .i64)).drop (k * 1)).take ((m - k) * 1) = (l.drop k).map (Value.int .i64) by rw [← List.map_drop, List.take_of_length_le]; rw [Nat.mul_one]; simp; omega] at hc2
  rw [show ((l.map (Value.int .i64)).drop (0 * 1)).take ((k - 0) * 1) = (l.take k).map (Value.int .i64) by simp] at hc1
  clear hl
  go_enter Try.func10, Try.ntmps10
  repeat' (first
    | ((with_reducible show wpList _ _ _ (⟨_, .call ⟨.value (.func 11), _, _⟩, _, _, _, _⟩ :: _) _ _); refine wpl_call (f := 11) Try.call11 (by kernel_rfl) ?_; refine ⟨_, (bested_any _), ?_⟩; rintro e w ⟨rfl, hE2⟩; replace hS := hS.ext hE2; clear hE2; refine ⟨_, rfl, ?_⟩; refine put_move ?_; go_step)
    | ((with_reducible show wpList _ _ _ (⟨some 21, _, _, _, _, _⟩ :: _) _ _); refine wpl_call (f := 15) Try.call15 (by kernel_rfl) ?_; refine ⟨_, (rest_any z1 ((m : Int) + 1) _ (by omega) (by omega)), ?_⟩; rintro e w ⟨rfl, rfl⟩; rw [HK.out]; refine ⟨_, rfl, ?_⟩; refine put_move ?_; go_step)
    | go_skip
    | go_big_skip
    | ((with_reducible show wpList _ _ _ (⟨_, .move _, _, _, _, _⟩ :: _) _ _); (first | go_big_want | go_step); go_step)
    | ((with_reducible show wpList _ _ _ (⟨_, .assign _, _, _, _, _⟩ :: _) _ _); (first | go_big_want | go_step); go_step)
    | ((with_reducible show wpList _ _ _ (⟨_, .pick _ _ _, _, _, _, _⟩ :: _) _ _); first | (refine wplPickT rfl (by kernel_rfl) ?_; go_step) | (refine wplPickF rfl (by kernel_rfl) ?_; go_step))
    | ((with_reducible show wpList _ _ _ (⟨_, .unOp .not _ _, _, _, _, _⟩ :: _) _ _); first | (refine wplV _ (V.notD rfl) (by kernel_rfl) ?_; go_step) | (refine wplV _ (V.not rfl) (by kernel_rfl) ?_; go_step))
    | ((with_reducible show wpList _ _ _ (⟨_, .call ⟨.builtin .len, _, _⟩, _, _, _, _⟩ :: _) _ _); first | (refine wplV _ (V.len Try.underlying23 rfl) (by kernel_rfl) ?_; go_step))
    | ((with_reducible show wpList _ _ _ (⟨_, .binOp .gtr _ _ _ _, _, _, _, _⟩ :: _) _ _); first | (refine wplV _ (V.gtr rfl rfl) (by kernel_rfl) ?_; go_step))
    | ((with_reducible show wpList _ _ _ (⟨_, .binOp .add _ _ _ _, _, _, _, _⟩ :: _) _ _); first | (refine wplV _ (V.addI rfl rfl (by omega)) (by kernel_rfl) ?_; go_step) | (refine wplV _ (V.addR (by decide) rfl rfl) (by kernel_rfl) ?_; go_step))
    | ((fail_if_success (with_reducible show wpList _ _ _ (_ :: _) _ _)); go_step))
  have hd1 := hc1.ext hS.1
  have hd2 := hc2.ext hS.1
  refine drawn_lit [] (fun _ => True) (by kernel_rfl) ?_
  replace hS := hS.drew
  focus
    refine takeM 0 _ (by (repeat (first | with_reducible exact AtL.head | apply AtL.tail))) (by kernel_rfl) (by kernel_rfl) (by kernel_rfl) (by exact fun _ _ _ _ h => h) rfl ?_
    go_step
    refine takeM 1 _ (by (repeat (first | with_reducible exact AtL.head | apply AtL.tail))) (by kernel_rfl) (by kernel_rfl) (by kernel_rfl) (by exact fun _ _ _ _ h => h) rfl ?_
    go_step
    first | (refine takeV 2 _ (by (repeat (first | with_reducible exact AtL.head | apply AtL.tail))) (by kernel_rfl) (by kernel_rfl) (by kernel_rfl) (by exact fun _ _ _ _ h => h) (V.slice Try.underlying23 isz3 rfl (by (first | exact Lo.none | exact Lo.some rfl (by (repeat (first | exact IsN.auto | with_reducible apply IsN.add | with_reducible apply IsN.sub | with_reducible apply IsN.mul | with_reducible apply IsN.div | with_reducible apply IsN.mod | with_reducible apply IsN.min | with_reducible apply IsN.max | (with_reducible show (_ : Nat) ≤ _; omega) | exact IsN.toNat (by omega)))))) (by (first | exact Up.none | exact Up.some rfl (by (repeat (first | exact IsN.auto | with_reducible apply IsN.add | with_reducible apply IsN.sub | with_reducible apply IsN.mul | with_reducible apply IsN.div | with_reducible apply IsN.mod | with_reducible apply IsN.min | with_reducible apply IsN.max | (with_reducible show (_ : Nat) ≤ _; omega) | exact IsN.toNat (by omega)))))) (by omega) (by omega)) rfl ?_)
    go_step
    refine takeM 6 _ (by (repeat (first | with_reducible exact AtL.head | apply AtL.tail))) (by kernel_rfl) (by kernel_rfl) (by kernel_rfl) (by exact fun _ _ _ _ h => h) rfl ?_
    go_step
    refine takeM 7 _ (by (repeat (first | with_reducible exact AtL.head | apply AtL.tail))) (by kernel_rfl) (by kernel_rfl) (by kernel_rfl) (by exact fun _ _ _ _ h => h) rfl ?_
    go_step
    first | (refine takeV 8 _ (by (repeat (first | with_reducible exact AtL.head | apply AtL.tail))) (by kernel_rfl) (by kernel_rfl) (by kernel_rfl) (by exact fun _ _ _ _ h => h) (V.slice Try.underlying23 isz3 rfl (by (first | exact Lo.none | exact Lo.some rfl (by (repeat (first | exact IsN.auto | with_reducible apply IsN.add | with_reducible apply IsN.sub | with_reducible apply IsN.mul | with_reducible apply IsN.div | with_reducible apply IsN.mod | with_reducible apply IsN.min | with_reducible apply IsN.max | (with_reducible show (_ : Nat) ≤ _; omega) | exact IsN.toNat (by omega)))))) (by (first | exact Up.none | exact Up.some rfl (by (repeat (first | exact IsN.auto | with_reducible apply IsN.add | with_reducible apply IsN.sub | with_reducible apply IsN.mul | with_reducible apply IsN.div | with_reducible apply IsN.mod | with_reducible apply IsN.min | with_reducible apply IsN.max | (with_reducible show (_ : Nat) ≤ _; omega) | exact IsN.toNat (by omega)))))) (by omega) (by omega)) rfl ?_)
    go_step
    refine branch [3, 4] (by kernel_rfl) (by simp) (.cons (by (repeat (first | with_reducible exact AtL.head | apply AtL.tail))) rfl ?_ (.cons (by (repeat (first | with_reducible exact AtL.head | apply AtL.tail))) rfl ?_ (.nil)))
    rotate_left 1
    focus
      first | (refine wp_buildSlice1 (o := ⟨some 26, _, _, _, _, _⟩) hS 23 1 _ rfl 3 1 8 el23 _ _ (by (repeat (first | exact Parts.nil | (apply Parts.agg; (rfl); (rfl)) | (apply Parts.one; (first | exact IsV.int rfl | exact IsV.bool rfl | exact IsV.slice rfl | exact IsV.pointer rfl | exact IsV.string rfl | exact IsV.map rfl | exact IsV.func rfl); (rfl); (rfl))))) (by rfl) (by decide) (by decide) ?_; clear hS; intro g26 w hS)
      refine ⟨fun _ h => h, ?_⟩
      refine drawn_move ?_
      go_step
      refine branch1 3 (by (repeat (first | with_reducible exact AtL.head | apply AtL.tail))) rfl (by kernel_rfl) ?_
      first | (refine wp_append (o := ⟨some 25, _, _, _, _, _⟩) hS _ _ 23 rfl 3 1 8 el23 _ _ _ _ rfl (by (repeat (first | with_reducible exact Pull.head | apply Pull.tail))) _ rfl _ _ (by (first | exact hS.slBlk (by (repeat (first | with_reducible exact Pull.head | apply Pull.tail))) (by rfl) (by decide) | exact hS.sl (by (repeat (first | with_reducible exact Pull.head | apply Pull.tail))) | with_reducible assumption | exact Sl.ext (by with_reducible assumption) hS.1 | exact Sl.nil _ _ | exact Sl.ext (by assumption) hS.1 | assumption)) (by (first | exact oneAll rfl | exact oneMap _ _ | (intro u hu; cases hu))) (by unfold maxLen; omega) (by omega) ?_; clear hS; intro ad25 c25 w hS; (first | simp only [mapk1] at hS | simp only [mapk2] at hS | simp only [mapk3] at hS | simp only [mapk4] at hS | simp only [mapkl] at hS | skip)) | (refine wp_append (o := ⟨some 25, _, _, _, _, _⟩) (hS.nilk 3 1 .i64) _ _ 23 rfl 3 1 8 el23 _ _ _ _ rfl (by (repeat (first | with_reducible exact Pull.head | apply Pull.tail))) _ rfl _ _ (by (first | exact hS.slBlk (by (repeat (first | with_reducible exact Pull.head | apply Pull.tail))) (by rfl) (by decide) | exact hS.sl (by (repeat (first | with_reducible exact Pull.head | apply Pull.tail))) | with_reducible assumption | exact Sl.ext (by with_reducible assumption) hS.1 | exact Sl.nil _ _ | exact Sl.ext (by assumption) hS.1 | assumption)) (by (first | exact oneAll rfl | exact oneMap _ _ | (intro u hu; cases hu))) (by unfold maxLen; omega) (by omega) ?_; clear hS; intro ad25 c25 w hS; (first | simp only [mapk1] at hS | simp only [mapk2] at hS | simp only [mapk3] at hS | simp only [mapk4] at hS | simp only [mapkl] at hS | skip))
      refine ⟨fun _ h => h, ?_⟩
      refine drawn_move ?_
      go_step
      refine branch1 5 (by (repeat (first | with_reducible exact AtL.head | apply AtL.tail))) rfl (by kernel_rfl) ?_
      first | (refine wp_append (o := ⟨some 27, _, _, _, _, _⟩) hS _ _ 23 rfl 3 1 8 el23 _ _ _ _ rfl (by (repeat (first | with_reducible exact Pull.head | apply Pull.tail))) _ rfl _ _ (by (first | exact hS.slBlk (by (repeat (first | with_reducible exact Pull.head | apply Pull.tail))) (by rfl) (by decide) | exact hS.sl (by (repeat (first | with_reducible exact Pull.head | apply Pull.tail))) | with_reducible assumption | exact Sl.ext (by with_reducible assumption) hS.1 | exact Sl.nil _ _ | exact Sl.ext (by assumption) hS.1 | assumption)) (by (first | exact oneAll rfl | exact oneMap _ _ | (intro u hu; cases hu))) (by unfold maxLen; omega) (by omega) ?_; clear hS; intro ad27 c27 w hS; (first | simp only [mapk1] at hS | simp only [mapk2] at hS | simp only [mapk3] at hS | simp only [mapk4] at hS | simp only [mapkl] at hS | skip)) | (refine wp_append (o := ⟨some 27, _, _, _, _, _⟩) (hS.nilk 3 1 .i64) _ _ 23 rfl 3 1 8 el23 _ _ _ _ rfl (by (repeat (first | with_reducible exact Pull.head | apply Pull.tail))) _ rfl _ _ (by (first | exact hS.slBlk (by (repeat (first | with_reducible exact Pull.head | apply Pull.tail))) (by rfl) (by decide) | exact hS.sl (by (repeat (first | with_reducible exact Pull.head | apply Pull.tail))) | with_reducible assumption | exact Sl.ext (by with_reducible assumption) hS.1 | exact Sl.nil _ _ | exact Sl.ext (by assumption) hS.1 | assumption)) (by (first | exact oneAll rfl | exact oneMap _ _ | (intro u hu; cases hu))) (by unfold maxLen; omega) (by omega) ?_; clear hS; intro ad27 c27 w hS; (first | simp only [mapk1] at hS | simp only [mapk2] at hS | simp only [mapk3] at hS | simp only [mapk4] at hS | simp only [mapkl] at hS | skip))
      refine ⟨fun _ h => h, ?_⟩
      refine drawn_move ?_
      go_step
      refine branch1 9 (by (repeat (first | with_reducible exact AtL.head | apply AtL.tail))) rfl (by kernel_rfl) ?_
      first | (refine wp_append (o := ⟨some 31, _, _, _, _, _⟩) hS _ _ 23 rfl 3 1 8 el23 _ _ _ _ rfl (by (repeat (first | with_reducible exact Pull.head | apply Pull.tail))) _ rfl _ _ (by (first | exact hS.slBlk (by (repeat (first | with_reducible exact Pull.head | apply Pull.tail))) (by rfl) (by decide) | exact hS.sl (by (repeat (first | with_reducible exact Pull.head | apply Pull.tail))) | with_reducible assumption | exact Sl.ext (by with_reducible assumption) hS.1 | exact Sl.nil _ _ | exact Sl.ext (by assumption) hS.1 | assumption)) (by (first | exact oneAll rfl | exact oneMap _ _ | (intro u hu; cases hu))) (by unfold maxLen; omega) (by omega) ?_; clear hS; intro ad31 c31 w hS; (first | simp only [mapk1] at hS | simp only [mapk2] at hS | simp only [mapk3] at hS | simp only [mapk4] at hS | simp only [mapkl] at hS | skip)) | (refine wp_append (o := ⟨some 31, _, _, _, _, _⟩) (hS.nilk 3 1 .i64) _ _ 23 rfl 3 1 8 el23 _ _ _ _ rfl (by (repeat (first | with_reducible exact Pull.head | apply Pull.tail))) _ rfl _ _ (by (first | exact hS.slBlk (by (repeat (first | with_reducible exact Pull.head | apply Pull.tail))) (by rfl) (by decide) | exact hS.sl (by (repeat (first | with_reducible exact Pull.head | apply Pull.tail))) | with_reducible assumption | exact Sl.ext (by with_reducible assumption) hS.1 | exact Sl.nil _ _ | exact Sl.ext (by assumption) hS.1 | assumption)) (by (first | exact oneAll rfl | exact oneMap _ _ | (intro u hu; cases hu))) (by unfold maxLen; omega) (by omega) ?_; clear hS; intro ad31 c31 w hS; (first | simp only [mapk1] at hS | simp only [mapk2] at hS | simp only [mapk3] at hS | simp only [mapk4] at hS | simp only [mapkl] at hS | skip))
      refine ⟨fun _ h => h, ?_⟩
      refine drawn_move ?_
      go_step
      refine takeA 10 _ (by (repeat (first | with_reducible exact AtL.head | apply AtL.tail))) (by kernel_rfl) (by kernel_rfl) (by kernel_rfl) (by exact fun _ _ _ _ h => h) rfl ?_
      go_step
      refine drawn_done (by kernel_rfl) ?_ _
    rotate_right 1
    focus
      first | (refine wp_append (o := ⟨some 25, _, _, _, _, _⟩) hS _ _ 23 rfl 3 1 8 el23 _ _ _ _ rfl (by (repeat (first | with_reducible exact Pull.head | apply Pull.tail))) _ rfl _ _ (by (first | exact hS.slBlk (by (repeat (first | with_reducible exact Pull.head | apply Pull.tail))) (by rfl) (by decide) | exact hS.sl (by (repeat (first | with_reducible exact Pull.head | apply Pull.tail))) | with_reducible assumption | exact Sl.ext (by with_reducible assumption) hS.1 | exact Sl.nil _ _ | exact Sl.ext (by assumption) hS.1 | assumption)) (by (first | exact oneAll rfl | exact oneMap _ _ | (intro u hu; cases hu))) (by unfold maxLen; omega) (by omega) ?_; clear hS; intro ad25 c25 w hS; (first | simp only [mapk1] at hS | simp only [mapk2] at hS | simp only [mapk3] at hS | simp only [mapk4] at hS | simp only [mapkl] at hS | skip)) | (refine wp_append (o := ⟨some 25, _, _, _, _, _⟩) (hS.nilk 3 1 .i64) _ _ 23 rfl 3 1 8 el23 _ _ _ _ rfl (by (repeat (first | with_reducible exact Pull.head | apply Pull.tail))) _ rfl _ _ (by (first | exact hS.slBlk (by (repeat (first | with_reducible exact Pull.head | apply Pull.tail))) (by rfl) (by decide) | exact hS.sl (by (repeat (first | with_reducible exact Pull.head | apply Pull.tail))) | with_reducible assumption | exact Sl.ext (by with_reducible assumption) hS.1 | exact Sl.nil _ _ | exact Sl.ext (by assumption) hS.1 | assumption)) (by (first | exact oneAll rfl | exact oneMap _ _ | (intro u hu; cases hu))) (by unfold maxLen; omega) (by omega) ?_; clear hS; intro ad25 c25 w hS; (first | simp only [mapk1] at hS | simp only [mapk2] at hS | simp only [mapk3] at hS | simp only [mapk4] at hS | simp only [mapkl] at hS | skip))
      refine ⟨fun _ h => h, ?_⟩
      refine drawn_move ?_
      go_step
      refine branch1 4 (by (repeat (first | with_reducible exact AtL.head | apply AtL.tail))) rfl (by kernel_rfl) ?_
      first | (refine wp_buildSlice1 (o := ⟨some 26, _, _, _, _, _⟩) hS 23 1 _ rfl 3 1 8 el23 _ _ (by (repeat (first | exact Parts.nil | (apply Parts.agg; (rfl); (rfl)) | (apply Parts.one; (first | exact IsV.int rfl | exact IsV.bool rfl | exact IsV.slice rfl | exact IsV.pointer rfl | exact IsV.string rfl | exact IsV.map rfl | exact IsV.func rfl); (rfl); (rfl))))) (by rfl) (by decide) (by decide) ?_; clear hS; intro g26 w hS)
      refine ⟨fun _ h => h, ?_⟩
      refine drawn_move ?_
      go_step
      refine branch1 5 (by (repeat (first | with_reducible exact AtL.head | apply AtL.tail))) rfl (by kernel_rfl) ?_
      first | (refine wp_append (o := ⟨some 27, _, _, _, _, _⟩) hS _ _ 23 rfl 3 1 8 el23 _ _ _ _ rfl (by (repeat (first | with_reducible exact Pull.head | apply Pull.tail))) _ rfl _ _ (by (first | exact hS.slBlk (by (repeat (first | with_reducible exact Pull.head | apply Pull.tail))) (by rfl) (by decide) | exact hS.sl (by (repeat (first | with_reducible exact Pull.head | apply Pull.tail))) | with_reducible assumption | exact Sl.ext (by with_reducible assumption) hS.1 | exact Sl.nil _ _ | exact Sl.ext (by assumption) hS.1 | assumption)) (by (first | exact oneAll rfl | exact oneMap _ _ | (intro u hu; cases hu))) (by unfold maxLen; omega) (by omega) ?_; clear hS; intro ad27 c27 w hS; (first | simp only [mapk1] at hS | simp only [mapk2] at hS | simp only [mapk3] at hS | simp only [mapk4] at hS | simp only [mapkl] at hS | skip)) | (refine wp_append (o := ⟨some 27, _, _, _, _, _⟩) (hS.nilk 3 1 .i64) _ _ 23 rfl 3 1 8 el23 _ _ _ _ rfl (by (repeat (first | with_reducible exact Pull.head | apply Pull.tail))) _ rfl _ _ (by (first | exact hS.slBlk (by (repeat (first | with_reducible exact Pull.head | apply Pull.tail))) (by rfl) (by decide) | exact hS.sl (by (repeat (first | with_reducible exact Pull.head | apply Pull.tail))) | with_reducible assumption | exact Sl.ext (by with_reducible assumption) hS.1 | exact Sl.nil _ _ | exact Sl.ext (by assumption) hS.1 | assumption)) (by (first | exact oneAll rfl | exact oneMap _ _ | (intro u hu; cases hu))) (by unfold maxLen; omega) (by omega) ?_; clear hS; intro ad27 c27 w hS; (first | simp only [mapk1] at hS | simp only [mapk2] at hS | simp only [mapk3] at hS | simp only [mapk4] at hS | simp only [mapkl] at hS | skip))
      refine ⟨fun _ h => h, ?_⟩
      refine drawn_move ?_
      go_step
      refine branch1 9 (by (repeat (first | with_reducible exact AtL.head | apply AtL.tail))) rfl (by kernel_rfl) ?_
      first | (refine wp_append (o := ⟨some 31, _, _, _, _, _⟩) hS _ _ 23 rfl 3 1 8 el23 _ _ _ _ rfl (by (repeat (first | with_reducible exact Pull.head | apply Pull.tail))) _ rfl _ _ (by (first | exact hS.slBlk (by (repeat (first | with_reducible exact Pull.head | apply Pull.tail))) (by rfl) (by decide) | exact hS.sl (by (repeat (first | with_reducible exact Pull.head | apply Pull.tail))) | with_reducible assumption | exact Sl.ext (by with_reducible assumption) hS.1 | exact Sl.nil _ _ | exact Sl.ext (by assumption) hS.1 | assumption)) (by (first | exact oneAll rfl | exact oneMap _ _ | (intro u hu; cases hu))) (by unfold maxLen; omega) (by omega) ?_; clear hS; intro ad31 c31 w hS; (first | simp only [mapk1] at hS | simp only [mapk2] at hS | simp only [mapk3] at hS | simp only [mapk4] at hS | simp only [mapkl] at hS | skip)) | (refine wp_append (o := ⟨some 31, _, _, _, _, _⟩) (hS.nilk 3 1 .i64) _ _ 23 rfl 3 1 8 el23 _ _ _ _ rfl (by (repeat (first | with_reducible exact Pull.head | apply Pull.tail))) _ rfl _ _ (by (first | exact hS.slBlk (by (repeat (first | with_reducible exact Pull.head | apply Pull.tail))) (by rfl) (by decide) | exact hS.sl (by (repeat (first | with_reducible exact Pull.head | apply Pull.tail))) | with_reducible assumption | exact Sl.ext (by with_reducible assumption) hS.1 | exact Sl.nil _ _ | exact Sl.ext (by assumption) hS.1 | assumption)) (by (first | exact oneAll rfl | exact oneMap _ _ | (intro u hu; cases hu))) (by unfold maxLen; omega) (by omega) ?_; clear hS; intro ad31 c31 w hS; (first | simp only [mapk1] at hS | simp only [mapk2] at hS | simp only [mapk3] at hS | simp only [mapk4] at hS | simp only [mapkl] at hS | skip))
      refine ⟨fun _ h => h, ?_⟩
      refine drawn_move ?_
      go_step
      refine takeA 10 _ (by (repeat (first | with_reducible exact AtL.head | apply AtL.tail))) (by kernel_rfl) (by kernel_rfl) (by kernel_rfl) (by exact fun _ _ _ _ h => h) rfl ?_
      go_step
      refine drawn_done (by kernel_rfl) ?_ _
  all_goals
    rw [show 0 + (k - 0) + 1 + (m - k) = m + 1 by omega] at hS ⊢
    rw [List.nil_append, show l.take k ++ [0] ++ l.drop k = ins l k from rfl] at hS
    replace hS := hS.sub (xs := [own 3 1 ad31 (m + 1) c31 ((ins l k).map (Value.int .i64))]) (by (repeat (first | exact Sub.nil | with_reducible exact Sub.refl | (apply Sub.cons; (case p => (repeat (first | with_reducible exact Pull.head | apply Pull.tail)))) | apply Sub.skip)))
    clear hd1 hd2 hc1 hc2
    have HUL := hid (ins_len HL.out hkm)
    have HRE := hid (fun C S C' S' hb h h' => ins_eq (C := C) (S := S) (C' := C') (S' := S') HL.out (by omega) hkm hb h h')
    have HNT := hid (fun C S h => ins_not (C := C) (S := S) HL.out hkm h)
    have HBB := hid (ins_bE (c := l) (k := k) (by rw [HL.out]; omega) (by rw [HL.out]; omega))
    obtain ⟨up, hup⟩ : ∃ up, ins l k = up := ⟨_, rfl⟩
    rw [hup] at hS HUL HRE HBB HNT
    clear hup
    obtain ⟨B, hB⟩ : ∃ B, bE l = B := ⟨_, rfl⟩
    have HB1 := hid hB
    have HB2 := hid (HBB.out.trans hB)
    clear hB
    repeat' (first
      | ((with_reducible show wpList _ _ _ (⟨some 34, _, _, _, _, _⟩ :: _) _ _); refine wpl_call (f := 16) Try.call16 (by kernel_rfl) ?_; refine ⟨_, (made_any _ l _ m c2 (hv2.ext hS.1) hmm), ?_⟩; rintro e w ⟨X, hX, rfl, hE2⟩; rw [HB1.out]; have HX := hid hX; replace hS := hS.ext hE2; clear hE2 hX; refine ⟨_, rfl, ?_⟩; refine put_move ?_; go_step)
      | ((with_reducible show wpList _ _ _ (⟨some 39, _, _, _, _, _⟩ :: _) _ _); refine wpl_call (f := 16) Try.call16 (by kernel_rfl) ?_; refine ⟨_, (made_any _ up _ (m + 1) c31 (hS.sl (by (repeat (first | with_reducible exact Pull.head | apply Pull.tail)))) (by omega)), ?_⟩; rintro e w ⟨Y, hY, rfl, hE2⟩; rw [HB2.out]; have HY := hid hY; replace hS := hS.ext hE2; clear hE2 hY; refine ⟨_, rfl, ?_⟩; refine put_move ?_; go_step)
      | ((with_reducible show wpList _ _ _ (⟨some 44, _, _, _, _, _⟩ :: _) _ _); refine wpl_call (f := 13) Try.call13 (by kernel_rfl) ?_; refine ⟨_, (make_both _ up _ (m + 1) c31 (hS.sl (by (repeat (first | with_reducible exact Pull.head | apply Pull.tail)))) (by omega)), ?_⟩; rintro e w ⟨C2, S2, ao2, m2, co2, hLen2, hs2, hm2, ht2, hM2, rfl, hS2⟩; rw [HB2.out]; have HM2 := hid hM2; have HT2 := hid ht2; replace hS := hS.call1 hS2; clear hS2 hM2 ht2; refine ⟨_, rfl, ?_⟩; refine put_move ?_; go_step)
      | go_skip
      | go_big_skip
      | ((with_reducible show wpList _ _ _ (⟨_, .move _, _, _, _, _⟩ :: _) _ _); (first | go_big_want | go_step); go_step)
      | ((with_reducible show wpList _ _ _ (⟨_, .assign _, _, _, _, _⟩ :: _) _ _); (first | go_big_want | go_step); go_step)
      | ((with_reducible show wpList _ _ _ (⟨_, .pick _ _ _, _, _, _, _⟩ :: _) _ _); first | (refine wplPickT rfl (by kernel_rfl) ?_; go_step) | (refine wplPickF rfl (by kernel_rfl) ?_; go_step))
      | ((with_reducible show wpList _ _ _ (⟨_, .extract _ _, _, _, _, _⟩ :: _) _ _); first | (refine wplV _ (V.extract rfl rfl) (by kernel_rfl) ?_; go_step))
      | ((with_reducible show wpList _ _ _ (⟨some 10, .alloc 25, _, _, _, _⟩ :: _) _ _); first | (refine wpl (by kernel_rfl) ?_; apply wp_allocP (o := ⟨some 10, _, _, _, _, _⟩) hS 25 rfl _ zp25; clear hS; intro g10 w hS; refine put_move ?_; go_step))
      | ((with_reducible show wpList _ _ _ (⟨_, .store 25 _ _, _, _, _, _⟩ :: _) _ _); first | (refine wpl (by kernel_rfl) ?_; apply wp_storePP hS 25 _ _ rfl _ rfl 17 (row_of rfl) _ _; (case hp => (repeat (first | with_reducible exact Pull.head | apply Pull.tail))); (case hy => rfl); (case hn => (repeat (first | exact Pre.nil | (apply Pre.ints; (case hn => (first | (with_reducible assumption) | exact Len.rep | exact Len.set (by with_reducible assumption) | exact Len.set Len.rep | exact Len.set (Len.set Len.rep))); (case h => omega); (case hm => rfl)) | apply Pre.val))); (case hn' => (repeat (first | exact Pre.nil | (apply Pre.ints; (case hn => (first | (with_reducible assumption) | exact Len.rep | exact Len.set (by with_reducible assumption) | exact Len.set Len.rep | exact Len.set (Len.set Len.rep))); (case h => omega); (case hm => rfl)) | apply Pre.val))); (case hv => rfl); (case hd => exact rfl); clear hS; intro w hS) | (refine wpl (by kernel_rfl) ?_; apply wp_storeA hS 25 _ _ rfl _ rfl 17 (row_of rfl) _ _; (case hp => (repeat (first | with_reducible exact Pull.head | apply Pull.tail))); (case hy => rfl); (case hm => (repeat (first | assumption | exact Len.rep | apply Len.set | ((with_reducible show Len (_ :: _) _); exact rfl)))); (case hd => exact rfl); clear hS; intro w hS) | (refine wpl (by kernel_rfl) ?_; apply wp_storeG hS 25 _ _ rfl _ rfl 17 (row_of rfl) _ _; (case hp => (repeat (first | with_reducible exact Pull.head | apply Pull.tail))); (case hy => rfl); (case hn => rfl); (case hn' => rfl); (case hv => rfl); (case hd => exact rfl); clear hS; intro w hS))
      | ((fail_if_success (with_reducible show wpList _ _ _ (_ :: _) _ _)); go_step))
    have hXY : B ≠ 0 ∨ (X = Y ∧ (k : Int) ∉ S2) := by
      by_cases h : B = 0
      · right
        obtain ⟨C, S, h1, h2⟩ := HX.out.1 (HB1.out.trans h)
        obtain ⟨C', S', h1', h2'⟩ := HY.out.1 (HB2.out.trans h)
        exact ⟨by rw [h2, h2']; exact HRE.out _ _ _ _ (HB1.out.trans h) h1 h1', HNT.out _ _ (HM2.out (HB2.out.trans h))⟩
      · exact .inl h
    rcases hXY with hsp | ⟨hsp, hnin⟩
    · skip
      repeat' (first
        | ((with_reducible show wpList _ _ _ (⟨some 66, _, _, _, _, _⟩ :: _) _ _); refine wpl_call (f := 17) Try.call17 (by kernel_rfl) ?_; refine ⟨_, (hasInt_any _ ao2 m2 co2 S2 k (hS.sl (by (repeat (first | with_reducible exact Pull.head | apply Pull.tail)))) (by omega)), ?_⟩; rintro e w ⟨rfl, hE2⟩; replace hS := hS.ext hE2; clear hE2; refine ⟨_, rfl, ?_⟩; refine put_move ?_; go_step)
        | go_skip
        | go_big_skip
        | ((with_reducible show wpList _ _ _ (⟨_, .move _, _, _, _, _⟩ :: _) _ _); (first | go_big_want | go_step); go_step)
        | ((with_reducible show wpList _ _ _ (⟨_, .assign _, _, _, _, _⟩ :: _) _ _); (first | go_big_want | go_step); go_step)
        | ((with_reducible show wpList _ _ _ (⟨_, .pick _ _ _, _, _, _, _⟩ :: _) _ _); first | (refine wplPickT rfl (by kernel_rfl) ?_; go_step) | (refine wplPickF rfl (by kernel_rfl) ?_; go_step))
        | ((with_reducible show wpList _ _ _ (⟨some 49, .binOp .neq 4 _ _ _, _, _, _, _⟩ :: _) _ _); first | (refine wplD _ (V.neqBD Try.underlying4 rfl rfl) (by kernel_rfl) (fun hB => ?_) (fun hB => ?_) <;> (try (have hF : False := (by omega); cases hF)) <;> go_step) | (refine wplD _ (V.neqB Try.underlying4 rfl rfl) (by kernel_rfl) (fun hB => ?_) (fun hB => ?_) <;> (try (have hF : False := (by omega); cases hF)) <;> go_step) | (refine wplB _ (V.neqBD Try.underlying4 rfl rfl) (by kernel_rfl) (fun hB => ?_) (fun hB => ?_) <;> (try (have hF : False := (absurd hB (by decide)); cases hF)) <;> go_step) | (refine wplB _ (V.neqB Try.underlying4 rfl rfl) (by kernel_rfl) (fun hB => ?_) (fun hB => ?_) <;> (try (have hF : False := (absurd hB (by decide)); cases hF)) <;> go_step))
        | ((with_reducible show wpList _ _ _ (⟨some 57, .unOp .not _ _, _, _, _, _⟩ :: _) _ _); first | (refine wplD _ (V.notD rfl) (by kernel_rfl) (fun hB => ?_) (fun hB => ?_) <;> (try (have hF : False := (by omega); cases hF)) <;> go_step) | (refine wplB _ (V.notD rfl) (by kernel_rfl) (fun hB => ?_) (fun hB => ?_) <;> (try (have hF : False := (absurd hB (by decide)); cases hF)) <;> go_step) | (refine wplB _ (V.not rfl) (by kernel_rfl) (fun hB => ?_) (fun hB => ?_) <;> (try (have hF : False := (absurd hB (by decide)); cases hF)) <;> go_step))
        | ((with_reducible show wpList _ _ _ (⟨some 61, .binOp .eql 3 _ _ _, _, _, _, _⟩ :: _) _ _); first | (refine wplD _ (V.eql rfl rfl) (by kernel_rfl) (fun hB => ?_) (fun hB => ?_) <;> (try (have hF : False := (by omega); cases hF)) <;> go_step) | (refine wplB _ (V.eql rfl rfl) (by kernel_rfl) (fun hB => ?_) (fun hB => ?_) <;> (try (have hF : False := (absurd hB (by decide)); cases hF)) <;> go_step))
        | ((with_reducible show wpList _ _ _ (⟨_, .binOp .eql 27 _ _ _, _, _, _, _⟩ :: _) _ _); first | (refine wplV _ (V.eql rfl rfl) (by kernel_rfl) ?_; go_step))
        | ((with_reducible show wpList _ _ _ (⟨_, .binOp .neq 4 _ _ _, _, _, _, _⟩ :: _) _ _); first | (refine wplV _ (V.neqBD Try.underlying4 rfl rfl) (by kernel_rfl) ?_; go_step) | (refine wplV _ (V.neqB Try.underlying4 rfl rfl) (by kernel_rfl) ?_; go_step))
        | ((with_reducible show wpList _ _ _ (⟨_, .fieldAddr 25 _ 1, _, _, _, _⟩ :: _) _ _); first | (refine wplV _ (V.fieldAddr fo25_1 rfl (by first | with_reducible exact Nat.zero_add _ | with_reducible exact Nat.add_zero _ | exact rfl)) (by kernel_rfl) ?_; go_step))
        | ((with_reducible show wpList _ _ _ (⟨_, .unOp .not _ _, _, _, _, _⟩ :: _) _ _); first | (refine wplV _ (V.notD rfl) (by kernel_rfl) ?_; go_step) | (refine wplV _ (V.not rfl) (by kernel_rfl) ?_; go_step))
        | ((with_reducible show wpList _ _ _ (⟨_, .load 23 _, _, _, _, _⟩ :: _) _ _); first | (refine wpl (by kernel_rfl) ?_; apply wp_load1 hS 23 _ rfl _ _ rfl (one_of rfl) _; (case hp => (repeat (first | with_reducible exact Pull.head | apply Pull.tail))); (case hc => rfl); refine put_move ?_; go_step) | (refine wpl (by kernel_rfl) ?_; apply wp_load1O hS 23 _ rfl _ _ rfl (one_of rfl) _ _ _ _ _; (case hp => (repeat (first | with_reducible exact Pull.head | apply Pull.tail))); (case hv => with_reducible assumption); refine put_move ?_; go_step) | (refine wpl (by kernel_rfl) ?_; apply wp_loadW hS 23 _ rfl _ rfl (one_of rfl) _; (case hc => with_reducible assumption); refine put_move ?_; go_step) | (refine wpl (by kernel_rfl) ?_; apply wp_loadVP hS 23 _ rfl _ _ rfl (one_of rfl) _; (case hp => (repeat (first | with_reducible exact Pull.head | apply Pull.tail))); (case hi => (repeat (first | exact AtV.head | (apply AtV.skipI; (case hn => (first | (with_reducible assumption) | exact Len.rep | exact Len.set (by with_reducible assumption) | exact Len.set Len.rep | exact Len.set (Len.set Len.rep))); (case h => omega); (case ho => rfl)) | apply AtV.skipV))); refine put_move ?_; go_step))
        | ((fail_if_success (with_reducible show wpList _ _ _ (_ :: _) _ _)); go_step))
      all_goals (go_ret; first | exact ⟨rfl, hS.1⟩ | exact ⟨ret_bool (by simp; omega), hS.1⟩)
    · have HNI := hid hnin
      clear hnin
      repeat' (first
        | ((with_reducible show wpList _ _ _ (⟨some 66, _, _, _, _, _⟩ :: _) _ _); refine wpl_call (f := 17) Try.call17 (by kernel_rfl) ?_; refine ⟨_, (hasInt_any _ ao2 m2 co2 S2 k (hS.sl (by (repeat (first | with_reducible exact Pull.head | apply Pull.tail)))) (by omega)), ?_⟩; rintro e w ⟨rfl, hE2⟩; rw [decide_eq_false HNI.out]; replace hS := hS.ext hE2; clear hE2; refine ⟨_, rfl, ?_⟩; refine put_move ?_; go_step)
        | go_skip
        | go_big_skip
        | ((with_reducible show wpList _ _ _ (⟨_, .move _, _, _, _, _⟩ :: _) _ _); (first | go_big_want | go_step); go_step)
        | ((with_reducible show wpList _ _ _ (⟨_, .assign _, _, _, _, _⟩ :: _) _ _); (first | go_big_want | go_step); go_step)
        | ((with_reducible show wpList _ _ _ (⟨_, .pick _ _ _, _, _, _, _⟩ :: _) _ _); first | (refine wplPickT rfl (by kernel_rfl) ?_; go_step) | (refine wplPickF rfl (by kernel_rfl) ?_; go_step))
        | ((with_reducible show wpList _ _ _ (⟨some 49, .binOp .neq 4 _ _ _, _, _, _, _⟩ :: _) _ _); first | (refine wplD _ (V.neqBD Try.underlying4 rfl rfl) (by kernel_rfl) (fun hB => ?_) (fun hB => ?_) <;> (try (have hF : False := (by omega); cases hF)) <;> go_step) | (refine wplD _ (V.neqB Try.underlying4 rfl rfl) (by kernel_rfl) (fun hB => ?_) (fun hB => ?_) <;> (try (have hF : False := (by omega); cases hF)) <;> go_step) | (refine wplB _ (V.neqBD Try.underlying4 rfl rfl) (by kernel_rfl) (fun hB => ?_) (fun hB => ?_) <;> (try (have hF : False := (absurd hB (by decide)); cases hF)) <;> go_step) | (refine wplB _ (V.neqB Try.underlying4 rfl rfl) (by kernel_rfl) (fun hB => ?_) (fun hB => ?_) <;> (try (have hF : False := (absurd hB (by decide)); cases hF)) <;> go_step))
        | ((with_reducible show wpList _ _ _ (⟨some 57, .unOp .not _ _, _, _, _, _⟩ :: _) _ _); first | (refine wplD _ (V.notD rfl) (by kernel_rfl) (fun hB => ?_) (fun hB => ?_) <;> (try (have hF : False := (by omega); cases hF)) <;> go_step) | (refine wplB _ (V.notD rfl) (by kernel_rfl) (fun hB => ?_) (fun hB => ?_) <;> (try (have hF : False := (absurd hB (by decide)); cases hF)) <;> go_step) | (refine wplB _ (V.not rfl) (by kernel_rfl) (fun hB => ?_) (fun hB => ?_) <;> (try (have hF : False := (absurd hB (by decide)); cases hF)) <;> go_step))
        | ((with_reducible show wpList _ _ _ (⟨some 61, .binOp .eql 3 _ _ _, _, _, _, _⟩ :: _) _ _); first | (refine wplD _ (V.eql rfl rfl) (by kernel_rfl) (fun hB => ?_) (fun hB => ?_) <;> (try (have hF : False := (by omega); cases hF)) <;> go_step) | (refine wplB _ (V.eql rfl rfl) (by kernel_rfl) (fun hB => ?_) (fun hB => ?_) <;> (try (have hF : False := (absurd hB (by decide)); cases hF)) <;> go_step))
        | ((with_reducible show wpList _ _ _ (⟨_, .binOp .eql 27 _ _ _, _, _, _, _⟩ :: _) _ _); first | (refine wplV _ (V.eql rfl rfl) (by kernel_rfl) ?_; go_step))
        | ((with_reducible show wpList _ _ _ (⟨_, .binOp .neq 4 _ _ _, _, _, _, _⟩ :: _) _ _); first | (refine wplV _ (V.neqBD Try.underlying4 rfl rfl) (by kernel_rfl) ?_; go_step) | (refine wplV _ (V.neqB Try.underlying4 rfl rfl) (by kernel_rfl) ?_; go_step))
        | ((with_reducible show wpList _ _ _ (⟨_, .fieldAddr 25 _ 1, _, _, _, _⟩ :: _) _ _); first | (refine wplV _ (V.fieldAddr fo25_1 rfl (by first | with_reducible exact Nat.zero_add _ | with_reducible exact Nat.add_zero _ | exact rfl)) (by kernel_rfl) ?_; go_step))
        | ((with_reducible show wpList _ _ _ (⟨_, .unOp .not _ _, _, _, _, _⟩ :: _) _ _); first | (refine wplV _ (V.notD rfl) (by kernel_rfl) ?_; go_step) | (refine wplV _ (V.not rfl) (by kernel_rfl) ?_; go_step))
        | ((with_reducible show wpList _ _ _ (⟨_, .load 23 _, _, _, _, _⟩ :: _) _ _); first | (refine wpl (by kernel_rfl) ?_; apply wp_load1 hS 23 _ rfl _ _ rfl (one_of rfl) _; (case hp => (repeat (first | with_reducible exact Pull.head | apply Pull.tail))); (case hc => rfl); refine put_move ?_; go_step) | (refine wpl (by kernel_rfl) ?_; apply wp_load1O hS 23 _ rfl _ _ rfl (one_of rfl) _ _ _ _ _; (case hp => (repeat (first | with_reducible exact Pull.head | apply Pull.tail))); (case hv => with_reducible assumption); refine put_move ?_; go_step) | (refine wpl (by kernel_rfl) ?_; apply wp_loadW hS 23 _ rfl _ rfl (one_of rfl) _; (case hc => with_reducible assumption); refine put_move ?_; go_step) | (refine wpl (by kernel_rfl) ?_; apply wp_loadVP hS 23 _ rfl _ _ rfl (one_of rfl) _; (case hp => (repeat (first | with_reducible exact Pull.head | apply Pull.tail))); (case hi => (repeat (first | exact AtV.head | (apply AtV.skipI; (case hn => (first | (with_reducible assumption) | exact Len.rep | exact Len.set (by with_reducible assumption) | exact Len.set Len.rep | exact Len.set (Len.set Len.rep))); (case h => omega); (case ho => rfl)) | apply AtV.skipV))); refine put_move ?_; go_step))
        | ((fail_if_success (with_reducible show wpList _ _ _ (_ :: _) _ _)); go_step))
      all_goals (go_ret; first | exact ⟨rfl, hS.1⟩ | exact ⟨ret_bool (by simp; omega), hS.1⟩)
end Go.Proofs.Ytembekkanggciaa
