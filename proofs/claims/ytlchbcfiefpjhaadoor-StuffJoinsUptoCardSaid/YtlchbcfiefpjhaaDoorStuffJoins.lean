/- StuffJoins: two one behind the other are stuffed as each by itself. -/
import Derived.Test.YtlchbcfiefpjhaaDoorStuffKeep
namespace Go.Proofs.YtlchbcfiefpjhaaDoor
open Go.ChangeShapes Go.WideShapes Go.ChangeAt Go.RowKit
set_option linter.unusedVariables false
set_option maxHeartbeats 4000000 in
theorem StuffJoins_walk {H : Type} {enc : TypeId × Value → H} {d0 d1 : DataW H} {p0 p1 : List MemPlace} {v0 v1 : Value} {base : Nat} (W : World)
    (o0 : Value.okWide Tryd.prog W .any base 22 v0) (h0 : DataW.Trod enc Tryd.prog W 0 (fun _ => true) true 22 v0 d0 p0) (lt0 : ∀ x ∈ p0, x.block < W.heap.size)
    (o1 : Value.okWide Tryd.prog W .any base 22 v1) (h1 : DataW.Trod enc Tryd.prog W 0 (fun _ => true) true 22 v1 d1 p1) (lt1 : ∀ x ∈ p1, x.block < W.heap.size)
    (hbulk : Rows.uptoSmall H [d0, d1] = true) (hsh : W.ShapedOpen Tryd.prog) :
    Calls Tryd.prog 3 #[v0, v1] W fun e w' => e = .returned (.bool true) ∧ Ext W w' := by
  obtain ⟨n, xs, ad, c, rfl, hs, hr, hnil, hb⟩ := op_bytesI o0 h0
  obtain ⟨m, ys, bd, c2, rfl, hs2, hr2, hnil2, hb2⟩ := op_bytesI o1 h1
  have hbk := bulk_of hbulk (d := d0) (by simp)
  have hbk2 := bulk_of hbulk (d := d1) (by simp)
  have hln : xs.length = n := by have := hs.1; simpa using this
  have hln2 : ys.length = m := by have := hs2.1; simpa using this
  have hl3 : (xs ++ ys).length = n + m := by rw [List.length_append, hln, hln2]
  have hr3 : ∀ x ∈ xs ++ ys, 0 ≤ x ∧ x < 256 := fun x hx => (List.mem_append.1 hx).elim (hr x) (hr2 x)
  have hk1 := stf_two xs
  have hk2 := stf_two ys
  have hj := stf_app xs ys
  have hl := congrArg List.length hj
  rw [List.length_append] at hl
  obtain ⟨A, hA⟩ : ∃ A, stf xs = A := ⟨_, rfl⟩
  obtain ⟨B, hB⟩ : ∃ B, stf ys = B := ⟨_, rfl⟩
  obtain ⟨D, hD⟩ : ∃ D, stf (xs ++ ys) = D := ⟨_, rfl⟩
  obtain ⟨la, hla⟩ : ∃ la, A.length = la := ⟨_, rfl⟩
  obtain ⟨lb, hlb⟩ : ∃ lb, B.length = lb := ⟨_, rfl⟩
  rw [hA, hla] at hk1
  rw [hB, hlb] at hk2
  rw [hA, hB, hD] at hj
  have F1 := hid hA
  have F2 := hid hB
  have F3 := hid hD
  have F4 := hid hla
  have F5 := hid hlb
  have HJ := hid hj
  have HS := hid hs
  have HS2 := hid hs2
  have HR : Veil3 (∀ x ∈ xs, 0 ≤ x ∧ x < 256) := ⟨hr⟩
  have HR2 : Veil3 (∀ x ∈ ys, 0 ≤ x ∧ x < 256) := ⟨hr2⟩
  have HR3 : Veil3 (∀ x ∈ xs ++ ys, 0 ≤ x ∧ x < 256) := ⟨hr3⟩
  have HN := hid hnil
  have HN2 := hid hnil2
  have hS := St.start W
  clear hr hr2 hr3 hnil hnil2 o0 h0 lt0 o1 h1 lt1 hbulk hsh hl hj hA hB hD hla hlb
  go_enter Tryd.func3, Tryd.ntmps3
  repeat' (first
    | ((with_reducible show wpList _ _ _ (⟨_, .call ⟨.value (.func 8), _, _⟩, _, _, _, _⟩ :: _) _ _); refine wpl_call (f := 8) Tryd.call8 (by kernel_rfl) ?_; refine ⟨_, (stuff_any _ _ (0 + n + m) _ (xs ++ ys) (show Sl _ 1 _ _ (([] ++ xs ++ ys).map (Value.int .u8)) from hS.sl (by (repeat (first | with_reducible exact Pull.head | apply Pull.tail)))) (own_nil hS (by (repeat (first | with_reducible exact Pull.head | apply Pull.tail)))) HR3.out (by omega)), ?_⟩; rintro e w ⟨ad5, c5, rfl, hS2⟩; replace hS := hS.call1 hS2; clear hS2; rw [F3.out] at hS ⊢; refine ⟨_, rfl, ?_⟩; refine put_move ?_; go_step)
    | go_skip
    | go_big_skip
    | ((with_reducible show wpList _ _ _ (⟨_, .move _, _, _, _, _⟩ :: _) _ _); (first | go_big_want | go_step); go_step)
    | ((with_reducible show wpList _ _ _ (⟨_, .assign _, _, _, _, _⟩ :: _) _ _); (first | go_big_want | go_step); go_step)
    | ((with_reducible show wpList _ _ _ (⟨_, .pick _ _ _, _, _, _, _⟩ :: _) _ _); first | (refine wplPickT rfl (by kernel_rfl) ?_; go_step) | (refine wplPickF rfl (by kernel_rfl) ?_; go_step))
    | ((with_reducible show wpList _ _ _ (⟨some 7, .call ⟨.builtin .append, _, _⟩, _, _, _, _⟩ :: _) _ _); first | (refine wpl (by kernel_rfl) ?_; apply wp_append (o := ⟨some 7, _, _, _, _, _⟩) hS _ _ 22 rfl 5 1 1 el22 _ _ _ _ rfl; (case hp => (repeat (first | with_reducible exact Pull.head | apply Pull.tail))); (case hx => exact rfl); (case hm => (first | exact hS.slBlk (by (repeat (first | with_reducible exact Pull.head | apply Pull.tail))) (by rfl) (by decide) | exact hS.sl (by (repeat (first | with_reducible exact Pull.head | apply Pull.tail))) | with_reducible assumption | exact Sl.ext (by with_reducible assumption) hS.1 | exact Sl.nil _ _ | exact Sl.ext (by assumption) hS.1)); (case h1 => (first | exact oneAll rfl | exact oneMap _ _ | (intro u hu; cases hu))); (case h63 => unfold maxLen; omega); (case hb => omega); clear hS; intro ad7 c7 w hS; (first | simp only [mapk1] at hS | simp only [mapk2] at hS | simp only [mapk3] at hS | simp only [mapk4] at hS | simp only [mapkl] at hS | skip); refine put_move ?_; go_step) | (refine wpl (by kernel_rfl) ?_; apply wp_append (o := ⟨some 7, _, _, _, _, _⟩) (hS.nilk 5 1 .u8) _ _ 22 rfl 5 1 1 el22 _ _ _ _ rfl; (case hp => (repeat (first | with_reducible exact Pull.head | apply Pull.tail))); (case hx => exact rfl); (case hm => (first | exact hS.slBlk (by (repeat (first | with_reducible exact Pull.head | apply Pull.tail))) (by rfl) (by decide) | exact hS.sl (by (repeat (first | with_reducible exact Pull.head | apply Pull.tail))) | with_reducible assumption | exact Sl.ext (by with_reducible assumption) hS.1 | exact Sl.nil _ _ | exact Sl.ext (by assumption) hS.1)); (case h1 => (first | exact oneAll rfl | exact oneMap _ _ | (intro u hu; cases hu))); (case h63 => unfold maxLen; omega); (case hb => omega); clear hS; intro ad7 c7 w hS; (first | simp only [mapk1] at hS | simp only [mapk2] at hS | simp only [mapk3] at hS | simp only [mapk4] at hS | simp only [mapkl] at hS | skip); refine put_move ?_; go_step))
    | ((with_reducible show wpList _ _ _ (⟨some 9, .call ⟨.builtin .append, _, _⟩, _, _, _, _⟩ :: _) _ _); first | (refine wpl (by kernel_rfl) ?_; apply wp_append (o := ⟨some 9, _, _, _, _, _⟩) hS _ _ 22 rfl 5 1 1 el22 _ _ _ _ rfl; (case hp => (repeat (first | with_reducible exact Pull.head | apply Pull.tail))); (case hx => exact rfl); (case hm => (first | exact hS.slBlk (by (repeat (first | with_reducible exact Pull.head | apply Pull.tail))) (by rfl) (by decide) | exact hS.sl (by (repeat (first | with_reducible exact Pull.head | apply Pull.tail))) | with_reducible assumption | exact Sl.ext (by with_reducible assumption) hS.1 | exact Sl.nil _ _ | exact Sl.ext (by assumption) hS.1)); (case h1 => (first | exact oneAll rfl | exact oneMap _ _ | (intro u hu; cases hu))); (case h63 => unfold maxLen; omega); (case hb => omega); clear hS; intro ad9 c9 w hS; (first | simp only [mapk1] at hS | simp only [mapk2] at hS | simp only [mapk3] at hS | simp only [mapk4] at hS | simp only [mapkl] at hS | skip); refine put_move ?_; go_step) | (refine wpl (by kernel_rfl) ?_; apply wp_append (o := ⟨some 9, _, _, _, _, _⟩) (hS.nilk 5 1 .u8) _ _ 22 rfl 5 1 1 el22 _ _ _ _ rfl; (case hp => (repeat (first | with_reducible exact Pull.head | apply Pull.tail))); (case hx => exact rfl); (case hm => (first | exact hS.slBlk (by (repeat (first | with_reducible exact Pull.head | apply Pull.tail))) (by rfl) (by decide) | exact hS.sl (by (repeat (first | with_reducible exact Pull.head | apply Pull.tail))) | with_reducible assumption | exact Sl.ext (by with_reducible assumption) hS.1 | exact Sl.nil _ _ | exact Sl.ext (by assumption) hS.1)); (case h1 => (first | exact oneAll rfl | exact oneMap _ _ | (intro u hu; cases hu))); (case h63 => unfold maxLen; omega); (case hb => omega); clear hS; intro ad9 c9 w hS; (first | simp only [mapk1] at hS | simp only [mapk2] at hS | simp only [mapk3] at hS | simp only [mapk4] at hS | simp only [mapkl] at hS | skip); refine put_move ?_; go_step))
    | ((fail_if_success (with_reducible show wpList _ _ _ (_ :: _) _ _)); go_step))
  have hl4 : D.length = la + lb := by rw [HJ.out, List.length_append, F4.out, F5.out]
  rw [hl4] at hS ⊢
  have H4 := hid hl4
  replace hS := hS.sub (xs := [own 5 1 ad5 (la + lb) c5 (D.map (Value.int .u8))]) (by (repeat (first | exact Sub.nil | with_reducible exact Sub.refl | (apply Sub.cons; (case p => (repeat (first | with_reducible exact Pull.head | apply Pull.tail)))) | apply Sub.skip)))
  clear hl4 hl3
  repeat' (first
    | ((with_reducible show wpList _ _ _ (⟨_, .call ⟨.value (.func 9), _, _⟩, _, _, _, _⟩ :: _) _ _); refine wpl_call (f := 9) Tryd.call9 (by kernel_rfl) ?_; refine ⟨_, (stuffed_any _), ?_⟩; rintro e w ⟨rfl, hE2⟩; replace hS := hS.ext hE2; clear hE2; refine ⟨_, rfl, ?_⟩; refine put_move ?_; go_step)
    | ((with_reducible show wpList _ _ _ (⟨some 15, _, _, _, _, _⟩ :: _) _ _); refine wpl_call (f := 8) Tryd.call8 (by kernel_rfl) ?_; refine ⟨_, (stuff_any _ _ n c xs (HS.out.ext hS.1) HN.out HR.out (by omega)), ?_⟩; rintro e w ⟨ad6, c6, rfl, hS2⟩; replace hS := hS.call1 hS2; clear hS2; rw [F1.out, F4.out] at hS ⊢; refine ⟨_, rfl, ?_⟩; refine put_move ?_; go_step)
    | ((with_reducible show wpList _ _ _ (⟨some 18, _, _, _, _, _⟩ :: _) _ _); refine wpl_call (f := 8) Tryd.call8 (by kernel_rfl) ?_; refine ⟨_, (stuff_any _ _ m c2 ys (HS2.out.ext hS.1) HN2.out HR2.out (by omega)), ?_⟩; rintro e w ⟨ad7, c7, rfl, hS2⟩; replace hS := hS.call1 hS2; clear hS2; rw [F2.out, F5.out] at hS ⊢; refine ⟨_, rfl, ?_⟩; refine put_move ?_; go_step)
    | go_skip
    | go_big_skip
    | ((with_reducible show wpList _ _ _ (⟨_, .move _, _, _, _, _⟩ :: _) _ _); (first | go_big_want | go_step); go_step)
    | ((with_reducible show wpList _ _ _ (⟨_, .assign _, _, _, _, _⟩ :: _) _ _); (first | go_big_want | go_step); go_step)
    | ((with_reducible show wpList _ _ _ (⟨_, .pick _ _ _, _, _, _, _⟩ :: _) _ _); first | (refine wplPickT rfl (by kernel_rfl) ?_; go_step) | (refine wplPickF rfl (by kernel_rfl) ?_; go_step))
    | ((with_reducible show wpList _ _ _ (⟨some 16, .call ⟨.builtin .append, _, _⟩, _, _, _, _⟩ :: _) _ _); first | (refine wpl (by kernel_rfl) ?_; apply wp_append (o := ⟨some 16, _, _, _, _, _⟩) hS _ _ 22 rfl 5 1 1 el22 _ _ _ _ rfl; (case hp => (repeat (first | with_reducible exact Pull.head | apply Pull.tail))); (case hx => exact rfl); (case hm => (first | exact hS.slBlk (by (repeat (first | with_reducible exact Pull.head | apply Pull.tail))) (by rfl) (by decide) | exact hS.sl (by (repeat (first | with_reducible exact Pull.head | apply Pull.tail))) | with_reducible assumption | exact Sl.ext (by with_reducible assumption) hS.1 | exact Sl.nil _ _ | exact Sl.ext (by assumption) hS.1)); (case h1 => (first | exact oneAll rfl | exact oneMap _ _ | (intro u hu; cases hu))); (case h63 => unfold maxLen; omega); (case hb => omega); clear hS; intro ad16 c16 w hS; (first | simp only [mapk1] at hS | simp only [mapk2] at hS | simp only [mapk3] at hS | simp only [mapk4] at hS | simp only [mapkl] at hS | skip); refine put_move ?_; go_step) | (refine wpl (by kernel_rfl) ?_; apply wp_append (o := ⟨some 16, _, _, _, _, _⟩) (hS.nilk 5 1 .u8) _ _ 22 rfl 5 1 1 el22 _ _ _ _ rfl; (case hp => (repeat (first | with_reducible exact Pull.head | apply Pull.tail))); (case hx => exact rfl); (case hm => (first | exact hS.slBlk (by (repeat (first | with_reducible exact Pull.head | apply Pull.tail))) (by rfl) (by decide) | exact hS.sl (by (repeat (first | with_reducible exact Pull.head | apply Pull.tail))) | with_reducible assumption | exact Sl.ext (by with_reducible assumption) hS.1 | exact Sl.nil _ _ | exact Sl.ext (by assumption) hS.1)); (case h1 => (first | exact oneAll rfl | exact oneMap _ _ | (intro u hu; cases hu))); (case h63 => unfold maxLen; omega); (case hb => omega); clear hS; intro ad16 c16 w hS; (first | simp only [mapk1] at hS | simp only [mapk2] at hS | simp only [mapk3] at hS | simp only [mapk4] at hS | simp only [mapkl] at hS | skip); refine put_move ?_; go_step))
    | ((with_reducible show wpList _ _ _ (⟨some 19, .call ⟨.builtin .append, _, _⟩, _, _, _, _⟩ :: _) _ _); first | (refine wpl (by kernel_rfl) ?_; apply wp_append (o := ⟨some 19, _, _, _, _, _⟩) hS _ _ 22 rfl 5 1 1 el22 _ _ _ _ rfl; (case hp => (repeat (first | with_reducible exact Pull.head | apply Pull.tail))); (case hx => exact rfl); (case hm => (first | exact hS.slBlk (by (repeat (first | with_reducible exact Pull.head | apply Pull.tail))) (by rfl) (by decide) | exact hS.sl (by (repeat (first | with_reducible exact Pull.head | apply Pull.tail))) | with_reducible assumption | exact Sl.ext (by with_reducible assumption) hS.1 | exact Sl.nil _ _ | exact Sl.ext (by assumption) hS.1)); (case h1 => (first | exact oneAll rfl | exact oneMap _ _ | (intro u hu; cases hu))); (case h63 => unfold maxLen; omega); (case hb => omega); clear hS; intro ad19 c19 w hS; (first | simp only [mapk1] at hS | simp only [mapk2] at hS | simp only [mapk3] at hS | simp only [mapk4] at hS | simp only [mapkl] at hS | skip); refine put_move ?_; go_step) | (refine wpl (by kernel_rfl) ?_; apply wp_append (o := ⟨some 19, _, _, _, _, _⟩) (hS.nilk 5 1 .u8) _ _ 22 rfl 5 1 1 el22 _ _ _ _ rfl; (case hp => (repeat (first | with_reducible exact Pull.head | apply Pull.tail))); (case hx => exact rfl); (case hm => (first | exact hS.slBlk (by (repeat (first | with_reducible exact Pull.head | apply Pull.tail))) (by rfl) (by decide) | exact hS.sl (by (repeat (first | with_reducible exact Pull.head | apply Pull.tail))) | with_reducible assumption | exact Sl.ext (by with_reducible assumption) hS.1 | exact Sl.nil _ _ | exact Sl.ext (by assumption) hS.1)); (case h1 => (first | exact oneAll rfl | exact oneMap _ _ | (intro u hu; cases hu))); (case h63 => unfold maxLen; omega); (case hb => omega); clear hS; intro ad19 c19 w hS; (first | simp only [mapk1] at hS | simp only [mapk2] at hS | simp only [mapk3] at hS | simp only [mapk4] at hS | simp only [mapkl] at hS | skip); refine put_move ?_; go_step))
    | ((fail_if_success (with_reducible show wpList _ _ _ (_ :: _) _ _)); go_step))
  have E1 : BSl w (.slice ad5 (la + lb) c5) D := by
    have := hS.sl (show Pull (own 5 1 ad5 (la + lb) c5 (D.map (Value.int .u8))) _ _ from (by (repeat (first | with_reducible exact Pull.head | apply Pull.tail))))
    unfold BSl; rw [H4.out]; exact this
  have E2 : BSl w (.slice ad19 (0 + la + lb) c19) ([] ++ A ++ B) := by
    have := hS.sl (show Pull (own 5 1 ad19 (0 + la + lb) c19 (([] ++ A ++ B).map (Value.int .u8))) _ _ from (by (repeat (first | with_reducible exact Pull.head | apply Pull.tail))))
    unfold BSl; rw [show (([] : List Int) ++ A ++ B).length = 0 + la + lb by simp only [List.nil_append, List.length_append, F4.out, F5.out, Nat.zero_add]]; exact this
  have E3 : D = [] ++ A ++ B := by rw [HJ.out]; rfl
  have HE := hid (eqByte_yes w _ _ _ _ E1 E2 E3)
  clear E1 E2 E3
  repeat' (first
    | ((with_reducible show wpList _ _ _ (⟨_, .call ⟨.value (.func 10), _, _⟩, _, _, _, _⟩ :: _) _ _); refine wpl_call (f := 10) Tryd.call10 (by kernel_rfl) ?_; refine ⟨_, (HE.out), ?_⟩; rintro e w ⟨rfl, rfl⟩; refine ⟨_, rfl, ?_⟩; refine put_move ?_; go_step)
    | go_skip
    | go_big_skip
    | ((with_reducible show wpList _ _ _ (⟨_, .move _, _, _, _, _⟩ :: _) _ _); (first | go_big_want | go_step); go_step)
    | ((with_reducible show wpList _ _ _ (⟨_, .assign _, _, _, _, _⟩ :: _) _ _); (first | go_big_want | go_step); go_step)
    | ((with_reducible show wpList _ _ _ (⟨_, .pick _ _ _, _, _, _, _⟩ :: _) _ _); first | (refine wplPickT rfl (by kernel_rfl) ?_; go_step) | (refine wplPickF rfl (by kernel_rfl) ?_; go_step))
    | ((with_reducible show wpList _ _ _ (⟨some 16, .call ⟨.builtin .append, _, _⟩, _, _, _, _⟩ :: _) _ _); first | (refine wpl (by kernel_rfl) ?_; apply wp_append (o := ⟨some 16, _, _, _, _, _⟩) hS _ _ 22 rfl 5 1 1 el22 _ _ _ _ rfl; (case hp => (repeat (first | with_reducible exact Pull.head | apply Pull.tail))); (case hx => exact rfl); (case hm => (first | exact hS.slBlk (by (repeat (first | with_reducible exact Pull.head | apply Pull.tail))) (by rfl) (by decide) | exact hS.sl (by (repeat (first | with_reducible exact Pull.head | apply Pull.tail))) | with_reducible assumption | exact Sl.ext (by with_reducible assumption) hS.1 | exact Sl.nil _ _ | exact Sl.ext (by assumption) hS.1)); (case h1 => (first | exact oneAll rfl | exact oneMap _ _ | (intro u hu; cases hu))); (case h63 => unfold maxLen; omega); (case hb => omega); clear hS; intro ad16 c16 w hS; (first | simp only [mapk1] at hS | simp only [mapk2] at hS | simp only [mapk3] at hS | simp only [mapk4] at hS | simp only [mapkl] at hS | skip); refine put_move ?_; go_step) | (refine wpl (by kernel_rfl) ?_; apply wp_append (o := ⟨some 16, _, _, _, _, _⟩) (hS.nilk 5 1 .u8) _ _ 22 rfl 5 1 1 el22 _ _ _ _ rfl; (case hp => (repeat (first | with_reducible exact Pull.head | apply Pull.tail))); (case hx => exact rfl); (case hm => (first | exact hS.slBlk (by (repeat (first | with_reducible exact Pull.head | apply Pull.tail))) (by rfl) (by decide) | exact hS.sl (by (repeat (first | with_reducible exact Pull.head | apply Pull.tail))) | with_reducible assumption | exact Sl.ext (by with_reducible assumption) hS.1 | exact Sl.nil _ _ | exact Sl.ext (by assumption) hS.1)); (case h1 => (first | exact oneAll rfl | exact oneMap _ _ | (intro u hu; cases hu))); (case h63 => unfold maxLen; omega); (case hb => omega); clear hS; intro ad16 c16 w hS; (first | simp only [mapk1] at hS | simp only [mapk2] at hS | simp only [mapk3] at hS | simp only [mapk4] at hS | simp only [mapkl] at hS | skip); refine put_move ?_; go_step))
    | ((with_reducible show wpList _ _ _ (⟨some 19, .call ⟨.builtin .append, _, _⟩, _, _, _, _⟩ :: _) _ _); first | (refine wpl (by kernel_rfl) ?_; apply wp_append (o := ⟨some 19, _, _, _, _, _⟩) hS _ _ 22 rfl 5 1 1 el22 _ _ _ _ rfl; (case hp => (repeat (first | with_reducible exact Pull.head | apply Pull.tail))); (case hx => exact rfl); (case hm => (first | exact hS.slBlk (by (repeat (first | with_reducible exact Pull.head | apply Pull.tail))) (by rfl) (by decide) | exact hS.sl (by (repeat (first | with_reducible exact Pull.head | apply Pull.tail))) | with_reducible assumption | exact Sl.ext (by with_reducible assumption) hS.1 | exact Sl.nil _ _ | exact Sl.ext (by assumption) hS.1)); (case h1 => (first | exact oneAll rfl | exact oneMap _ _ | (intro u hu; cases hu))); (case h63 => unfold maxLen; omega); (case hb => omega); clear hS; intro ad19 c19 w hS; (first | simp only [mapk1] at hS | simp only [mapk2] at hS | simp only [mapk3] at hS | simp only [mapk4] at hS | simp only [mapkl] at hS | skip); refine put_move ?_; go_step) | (refine wpl (by kernel_rfl) ?_; apply wp_append (o := ⟨some 19, _, _, _, _, _⟩) (hS.nilk 5 1 .u8) _ _ 22 rfl 5 1 1 el22 _ _ _ _ rfl; (case hp => (repeat (first | with_reducible exact Pull.head | apply Pull.tail))); (case hx => exact rfl); (case hm => (first | exact hS.slBlk (by (repeat (first | with_reducible exact Pull.head | apply Pull.tail))) (by rfl) (by decide) | exact hS.sl (by (repeat (first | with_reducible exact Pull.head | apply Pull.tail))) | with_reducible assumption | exact Sl.ext (by with_reducible assumption) hS.1 | exact Sl.nil _ _ | exact Sl.ext (by assumption) hS.1)); (case h1 => (first | exact oneAll rfl | exact oneMap _ _ | (intro u hu; cases hu))); (case h63 => unfold maxLen; omega); (case hb => omega); clear hS; intro ad19 c19 w hS; (first | simp only [mapk1] at hS | simp only [mapk2] at hS | simp only [mapk3] at hS | simp only [mapk4] at hS | simp only [mapkl] at hS | skip); refine put_move ?_; go_step))
    | ((fail_if_success (with_reducible show wpList _ _ _ (_ :: _) _ _)); go_step))
  go_ret
  exact ⟨rfl, hS.1⟩
end Go.Proofs.YtlchbcfiefpjhaaDoor
