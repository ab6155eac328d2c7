/- StuffAgain: what is plain is stuffed to what it was. -/
import Derived.Test.YtlchbcfiefpjhaaDoorStuffKeep
namespace Go.Proofs.YtlchbcfiefpjhaaDoor
open Go.ChangeShapes Go.WideShapes Go.ChangeAt Go.RowKit
set_option linter.unusedVariables false
set_option maxHeartbeats 4000000 in
theorem StuffAgain_walk {H : Type} {enc : TypeId × Value → H} {d0 : DataW H} {p0 : List MemPlace} {v0 : Value} {base : Nat} (W : World)
    (o0 : Value.okWide Tryd.prog W .any base 22 v0) (h0 : DataW.Trod enc Tryd.prog W 0 (fun _ => true) true 22 v0 d0 p0) (lt0 : ∀ x ∈ p0, x.block < W.heap.size)
    (hbulk : Rows.uptoSmall H [d0] = true) (hsh : W.ShapedOpen Tryd.prog) :
    Calls Tryd.prog 6 #[v0] W fun e w' => e = .returned (.bool true) ∧ Ext W w' := by
  obtain ⟨n, xs, ad, c, rfl, hs, hr, hnil, hb⟩ := op_bytesI o0 h0
  have hbk := bulk_of hbulk (d := d0) (by simp)
  have hln : xs.length = n := by have := hs.1; simpa using this
  have hml : ∃ m, W.cell? ⟨0, 0, none⟩ = some (.int .i64 m) := Tryd.laysM185.s1_3 W hsh
  have HS := hid hs
  have HR : Veil3 (∀ x ∈ xs, 0 ≤ x ∧ x < 256) := ⟨hr⟩
  have HN := hid hnil
  have HP := hid (fun (w : World) (hE : Ext W w) => plain_any w ad n c xs (hs.ext hE) hnil hr (by omega) (hml.imp fun m h => hE.cell h))
  have hS := St.start W
  by_cases hc : ∃ cc, xs = stf cc
  · obtain ⟨cc, he⟩ := hc
    have hrc : ∀ x ∈ cc, 0 ≤ x ∧ x < 256 := fun x hx => by
      by_cases h : x = 255
      · omega
      · refine hr x ?_
        rw [he, stf, rep1, List.mem_flatMap]
        exact ⟨x, hx, by rw [if_neg h]; simp⟩
    have hk1 : cc.length ≤ n := by have := stf_len cc; rw [← he] at this; omega
    obtain ⟨la, hla⟩ : ∃ la, cc.length = la := ⟨_, rfl⟩
    rw [hla] at hk1
    have F4 := hid hla
    have HE := hid he
    have HRC : Veil3 (∀ x ∈ cc, 0 ≤ x ∧ x < 256) := ⟨hrc⟩
    clear hr hrc hnil o0 h0 lt0 hbulk hsh hla he hml hs
    go_enter Tryd.func6, Tryd.ntmps6
    repeat' (first
      | ((with_reducible show wpList _ _ _ (⟨_, .call ⟨.value (.func 9), _, _⟩, _, _, _, _⟩ :: _) _ _); refine wpl_call (f := 9) Tryd.call9 (by kernel_rfl) ?_; refine ⟨_, (stuffed_any _), ?_⟩; rintro e w ⟨rfl, hE2⟩; replace hS := hS.ext hE2; clear hE2; refine ⟨_, rfl, ?_⟩; refine put_move ?_; go_step)
      | ((with_reducible show wpList _ _ _ (⟨_, .call ⟨.value (.func 11), _, _⟩, _, _, _, _⟩ :: _) _ _); refine wpl_call (f := 11) Tryd.call11 (by kernel_rfl) ?_; refine ⟨_, (HP.out _ hS.1), ?_⟩; rintro e w ⟨hR1, -⟩; obtain ⟨ad7, c7, rfl, hS2⟩ := hR1 cc HE.out; clear hR1; replace hS := hS.call1 hS2; clear hS2; rw [F4.out] at hS ⊢; refine ⟨_, rfl, ?_⟩; refine put_move ?_; go_step)
      | go_skip
      | go_big_skip
      | ((with_reducible show wpList _ _ _ (⟨_, .move _, _, _, _, _⟩ :: _) _ _); (first | go_big_want | go_step); go_step)
      | ((with_reducible show wpList _ _ _ (⟨_, .assign _, _, _, _, _⟩ :: _) _ _); (first | go_big_want | go_step); go_step)
      | ((with_reducible show wpList _ _ _ (⟨_, .pick _ _ _, _, _, _, _⟩ :: _) _ _); first | (refine wplPickT rfl (by kernel_rfl) ?_; go_step) | (refine wplPickF rfl (by kernel_rfl) ?_; go_step))
      | ((with_reducible show wpList _ _ _ (⟨some 6, .unOp .not _ _, _, _, _, _⟩ :: _) _ _); first | (refine wplV _ (V.notD rfl) (by kernel_rfl) ?_; go_step) | (refine wplV _ (V.not rfl) (by kernel_rfl) ?_; go_step))
      | ((with_reducible show wpList _ _ _ (⟨some 10, .extract _ _, _, _, _, _⟩ :: _) _ _); first | (refine wplV _ (V.extract rfl rfl) (by kernel_rfl) ?_; go_step))
      | ((with_reducible show wpList _ _ _ (⟨some 11, .extract _ _, _, _, _, _⟩ :: _) _ _); first | (refine wplV _ (V.extract rfl rfl) (by kernel_rfl) ?_; go_step))
      | ((fail_if_success (with_reducible show wpList _ _ _ (_ :: _) _ _)); go_step))
    have hn6 := own_nil hS .head
    repeat' (first
      | go_skip
      | go_big_skip
      | ((with_reducible show wpList _ _ _ (⟨_, .move _, _, _, _, _⟩ :: _) _ _); (first | go_big_want | go_step); go_step)
      | ((with_reducible show wpList _ _ _ (⟨_, .assign _, _, _, _, _⟩ :: _) _ _); (first | go_big_want | go_step); go_step)
      | ((with_reducible show wpList _ _ _ (⟨_, .pick _ _ _, _, _, _, _⟩ :: _) _ _); first | (refine wplPickT rfl (by kernel_rfl) ?_; go_step) | (refine wplPickF rfl (by kernel_rfl) ?_; go_step))
      | ((with_reducible show wpList _ _ _ (⟨some 13, .binOp .neq 27 _ _ _, _, _, _, _⟩ :: _) _ _); first | (refine wplV _ (V.neq rfl rfl) (by kernel_rfl) ?_; go_step))
      | ((fail_if_success (with_reducible show wpList _ _ _ (_ :: _) _ _)); go_step))
    repeat' (first
      | ((with_reducible show wpList _ _ _ (⟨_, .call ⟨.value (.func 8), _, _⟩, _, _, _, _⟩ :: _) _ _); refine wpl_call (f := 8) Tryd.call8 (by kernel_rfl) ?_; refine ⟨_, (stuff_any _ _ la c7 cc (hS.sl (by (repeat (first | with_reducible exact Pull.head | apply Pull.tail)))) hn6 HRC.out (by omega)), ?_⟩; rintro e w ⟨ad6, c6, rfl, hS2⟩; replace hS := hS.call1 hS2; clear hS2; rw [← HE.out, hln] at hS ⊢; refine ⟨_, rfl, ?_⟩; refine put_move ?_; go_step)
      | ((with_reducible show wpList _ _ _ (⟨_, .call ⟨.value (.func 10), _, _⟩, _, _, _, _⟩ :: _) _ _); refine wpl_call (f := 10) Tryd.call10 (by kernel_rfl) ?_; refine ⟨_, (eqByte_yes _ _ _ xs xs (by unfold BSl; rw [hln]; exact hS.sl (by (repeat (first | with_reducible exact Pull.head | apply Pull.tail)))) (by unfold BSl; rw [hln]; exact HS.out.ext hS.1) rfl), ?_⟩; rintro e w ⟨rfl, rfl⟩; refine ⟨_, rfl, ?_⟩; refine put_move ?_; go_step)
      | go_skip
      | go_big_skip
      | ((with_reducible show wpList _ _ _ (⟨_, .move _, _, _, _, _⟩ :: _) _ _); (first | go_big_want | go_step); go_step)
      | ((with_reducible show wpList _ _ _ (⟨_, .assign _, _, _, _, _⟩ :: _) _ _); (first | go_big_want | go_step); go_step)
      | ((with_reducible show wpList _ _ _ (⟨_, .pick _ _ _, _, _, _, _⟩ :: _) _ _); first | (refine wplPickT rfl (by kernel_rfl) ?_; go_step) | (refine wplPickF rfl (by kernel_rfl) ?_; go_step))
      | ((with_reducible show wpList _ _ _ (⟨some 23, .call ⟨.builtin .len, _, _⟩, _, _, _, _⟩ :: _) _ _); first | (refine wplV _ (V.len Tryd.underlying22 rfl) (by kernel_rfl) ?_; go_step))
      | ((with_reducible show wpList _ _ _ (⟨some 25, .call ⟨.builtin .len, _, _⟩, _, _, _, _⟩ :: _) _ _); first | (refine wplV _ (V.len Tryd.underlying22 rfl) (by kernel_rfl) ?_; go_step))
      | ((with_reducible show wpList _ _ _ (⟨some 26, .binOp .leq _ _ _ _, _, _, _, _⟩ :: _) _ _); first | (refine wplV _ (V.leq rfl rfl) (by kernel_rfl) ?_; go_step))
      | ((fail_if_success (with_reducible show wpList _ _ _ (_ :: _) _ _)); go_step))
    all_goals go_ret
    all_goals first | exact ⟨rfl, hS.1⟩ | exact ⟨by rw [decide_eq_true (by omega)]; rfl, hS.1⟩
  · have hno : ∀ cc, xs ≠ stf cc := fun cc e => hc ⟨cc, e⟩
    have HNO : Veil3 _ := ⟨hno⟩
    clear hr hnil o0 h0 lt0 hbulk hsh hml hs hc hno
    go_enter Tryd.func6, Tryd.ntmps6
    repeat' (first
      | ((with_reducible show wpList _ _ _ (⟨_, .call ⟨.value (.func 9), _, _⟩, _, _, _, _⟩ :: _) _ _); refine wpl_call (f := 9) Tryd.call9 (by kernel_rfl) ?_; refine ⟨_, (stuffed_any _), ?_⟩; rintro e w ⟨rfl, hE2⟩; replace hS := hS.ext hE2; clear hE2; refine ⟨_, rfl, ?_⟩; refine put_move ?_; go_step)
      | ((with_reducible show wpList _ _ _ (⟨_, .call ⟨.value (.func 11), _, _⟩, _, _, _, _⟩ :: _) _ _); refine wpl_call (f := 11) Tryd.call11 (by kernel_rfl) ?_; refine ⟨_, (HP.out _ hS.1), ?_⟩; rintro e w ⟨-, hR1⟩; obtain ⟨rfl, hE2⟩ := hR1 HNO.out; clear hR1; replace hS := hS.ext hE2; clear hE2; refine ⟨_, rfl, ?_⟩; refine put_move ?_; go_step)
      | go_skip
      | go_big_skip
      | ((with_reducible show wpList _ _ _ (⟨_, .move _, _, _, _, _⟩ :: _) _ _); (first | go_big_want | go_step); go_step)
      | ((with_reducible show wpList _ _ _ (⟨_, .assign _, _, _, _, _⟩ :: _) _ _); (first | go_big_want | go_step); go_step)
      | ((with_reducible show wpList _ _ _ (⟨_, .pick _ _ _, _, _, _, _⟩ :: _) _ _); first | (refine wplPickT rfl (by kernel_rfl) ?_; go_step) | (refine wplPickF rfl (by kernel_rfl) ?_; go_step))
      | ((with_reducible show wpList _ _ _ (⟨some 6, .unOp .not _ _, _, _, _, _⟩ :: _) _ _); first | (refine wplV _ (V.notD rfl) (by kernel_rfl) ?_; go_step) | (refine wplV _ (V.not rfl) (by kernel_rfl) ?_; go_step))
      | ((with_reducible show wpList _ _ _ (⟨some 10, .extract _ _, _, _, _, _⟩ :: _) _ _); first | (refine wplV _ (V.extract rfl rfl) (by kernel_rfl) ?_; go_step))
      | ((with_reducible show wpList _ _ _ (⟨some 11, .extract _ _, _, _, _, _⟩ :: _) _ _); first | (refine wplV _ (V.extract rfl rfl) (by kernel_rfl) ?_; go_step))
      | ((fail_if_success (with_reducible show wpList _ _ _ (_ :: _) _ _)); go_step))
    repeat' (first
      | go_skip
      | go_big_skip
      | ((with_reducible show wpList _ _ _ (⟨_, .move _, _, _, _, _⟩ :: _) _ _); (first | go_big_want | go_step); go_step)
      | ((with_reducible show wpList _ _ _ (⟨_, .assign _, _, _, _, _⟩ :: _) _ _); (first | go_big_want | go_step); go_step)
      | ((with_reducible show wpList _ _ _ (⟨_, .pick _ _ _, _, _, _, _⟩ :: _) _ _); first | (refine wplPickT rfl (by kernel_rfl) ?_; go_step) | (refine wplPickF rfl (by kernel_rfl) ?_; go_step))
      | ((with_reducible show wpList _ _ _ (⟨some 13, .binOp .neq 27 _ _ _, _, _, _, _⟩ :: _) _ _); first | (refine wplV _ (V.neq rfl rfl) (by kernel_rfl) ?_; go_step))
      | ((with_reducible show wpList _ _ _ (⟨some 15, .call ⟨.builtin .len, _, _⟩, _, _, _, _⟩ :: _) _ _); first | (refine wplV _ (V.len Tryd.underlying22 rfl) (by kernel_rfl) ?_; go_step))
      | ((with_reducible show wpList _ _ _ (⟨some 16, .binOp .eql 3 _ _ _, _, _, _, _⟩ :: _) _ _); first | (refine wplV _ (V.eql rfl rfl) (by kernel_rfl) ?_; go_step))
      | ((fail_if_success (with_reducible show wpList _ _ _ (_ :: _) _ _)); go_step))
    go_ret
    exact ⟨rfl, hS.1⟩
end Go.Proofs.YtlchbcfiefpjhaaDoor
