/- The closed fact of the laws on bits. -/
import Derived.Test.YtodihnhpibjhmaaWrite
import Derived.Test.YtodihnhpibjhmaaEqByte
import Derived.Test.YtodihnhpibjhmaaBitsI
namespace Go.Proofs.Ytodihnhpibjhmaa
open Go.RowKit
theorem BSl.bv {w : World} {v : Value} {l : List Nat} (h : Sl w 1 v l.length (bv l)) : BSl w v (bi l) := BSl.of h
theorem eqByte_yes (w : World) (va vb : Value) (xs ys : List Int) (ha : BSl w va xs) (hb : BSl w vb ys) (h : xs = ys) :
    Calls Try.prog 23 #[va, vb] w fun e w' => e = .returned (.bool true) ∧ w = w' :=
  (eqByte_any w va vb xs ys ha hb).mono fun e w' ⟨h1, h2⟩ => ⟨by rw [h1, decide_eq_true h], h2⟩
set_option maxHeartbeats 1000000 in
theorem written_any (w : World) : Calls Try.prog 21 #[] w fun e w' => e = .returned (.bool true) ∧ Ext w w' := by
  have hS := St.start w
  have F1 := hid (show wErr [3, 2] 1 = 0 by decide +kernel)
  have F2 := hid (show wBytes [3, 2] 1 = [95] by decide +kernel)
  have F3 := hid (show ∀ i, i < [(3 : Int), 2].length → -9223372036854775808 ≤ nth [3, 2] i ∧ nth [3, 2] i ≤ 9223372036854775807 by decide +kernel)
  go_enter Try.func21, Try.ntmps21
  go_wp2_with (first
    | ((with_reducible show wpList _ _ _ (⟨some 5, .buildSlice 34 _ _, _, _, _, _⟩ :: _) _ _); first | (refine wpl rfl (wp_buildSlice1 (o := ⟨some 5, _, _, _, _, _⟩) hS 34 1 _ rfl 39 2 16 el34 _ _ (by (repeat (first | exact Parts.nil | (apply Parts.agg; (rfl); (rfl)) | (apply Parts.one; (first | exact IsV.int rfl | exact IsV.bool rfl | exact IsV.slice rfl | exact IsV.pointer rfl | exact IsV.string rfl | exact IsV.map rfl | exact IsV.func rfl); (rfl); (rfl))))) (by rfl) (by decide) (by decide) ?_); clear hS; intro g5 w hS; simp only [List.cons_append, List.nil_append] at hS; refine wpl_put (by (simp only [Act.put, List.setIfInBounds_toArray, List.set_cons_zero, List.set_cons_succ]); exact rfl) ?_))
    | ((with_reducible show wpList _ _ _ (⟨some 13, .buildSlice 35 _ _, _, _, _, _⟩ :: _) _ _); first | (refine wpl rfl (wp_buildSlice1 (o := ⟨some 13, _, _, _, _, _⟩) hS 35 1 _ rfl 5 1 1 el35 _ _ (by (repeat (first | exact Parts.nil | (apply Parts.agg; (rfl); (rfl)) | (apply Parts.one; (first | exact IsV.int rfl | exact IsV.bool rfl | exact IsV.slice rfl | exact IsV.pointer rfl | exact IsV.string rfl | exact IsV.map rfl | exact IsV.func rfl); (rfl); (rfl))))) (by rfl) (by decide) (by decide) ?_); clear hS; intro g13 w hS; refine wpl_put (by (simp only [Act.put, List.setIfInBounds_toArray, List.set_cons_zero, List.set_cons_succ]); exact rfl) ?_))
                                                            | ((with_reducible show wpList _ _ _ (⟨_, .call ⟨.value (.func 22), _, _⟩, _, _, _, _⟩ :: _) _ _); refine wpl_call (f := 22) Try.call22 rfl ?_; refine ⟨_, (write_any _ _ 1 [3, 2] (show Sl _ 2 _ 1 [.int .i64 3, .int .i64 2] from hS.slBlk (n := 1) (by (repeat (first | with_reducible exact Pull.head | apply Pull.tail))) (by rfl) (by decide)) F3.out), ?_⟩; rintro e w ⟨ad, c, rfl, hS2⟩; replace hS := hS.call1 hS2; clear hS2; rw [F1.out]; simp only [F2.out, List.length_cons, List.length_nil, Nat.zero_add] at hS ⊢; refine ⟨_, rfl, ?_⟩; refine wpl_put (by (simp only [Act.put, List.setIfInBounds_toArray, List.set_cons_zero, List.set_cons_succ]); exact rfl) ?_)
                                                            | ((with_reducible show wpList _ _ _ (⟨_, .call ⟨.value (.func 23), _, _⟩, _, _, _, _⟩ :: _) _ _); refine wpl_call (f := 23) Try.call23 rfl ?_; refine ⟨_, (eqByte_yes _ _ _ [95] [95] (BSl.bv (l := [95]) (hS.sl (by (repeat (first | with_reducible exact Pull.head | apply Pull.tail))))) (BSl.bv (l := [95]) (show Sl _ 1 _ 1 [.int .u8 95] from hS.slBlk (n := 1) (by (repeat (first | with_reducible exact Pull.head | apply Pull.tail))) (by rfl) (by decide))) rfl), ?_⟩; rintro e w ⟨rfl, rfl⟩; refine ⟨_, rfl, ?_⟩; refine wpl_put (by (simp only [Act.put, List.setIfInBounds_toArray, List.set_cons_zero, List.set_cons_succ]); exact rfl) ?_)
                                                            | (first | refine stop_load ?_ | refine stop_store ?_ | refine stop_alloc ?_ | refine stop_box ?_))
  go_ret
  exact ⟨rfl, hS.1⟩
end Go.Proofs.Ytodihnhpibjhmaa
