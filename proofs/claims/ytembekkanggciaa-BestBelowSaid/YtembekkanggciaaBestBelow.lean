/- The law BestBelow: its walk, and the statement. -/
import Derived.Test.YtembekkanggciaaBestGood
import Derived.Test.YtembekkanggciaaOpen
import Derived.Test.YtembekkanggciaaOpenTab
import Derived.Test.YtembekkanggciaaUpto
namespace Go.Proofs.Ytembekkanggciaa
open Go.ChangeShapes Go.WideShapes Go.ChangeAt Go.RowKit
set_option linter.unusedVariables false
set_option maxRecDepth 100000 in
set_option maxHeartbeats 8000000 in
theorem BestBelow_walk {H : Type} {enc : TypeId × Value → H} {d0 d1 : DataW H} {p0 p1 : List MemPlace} {v0 v1 : Value} {base : Nat} (W : World)
    (o0 : Value.okWide Try.prog W .any base 25 v0) (h0 : DataW.Trod enc Try.prog W 0 (fun _ => true) true 25 v0 d0 p0) (lt0 : ∀ x ∈ p0, x.block < W.heap.size)
    (o1 : Value.okWide Try.prog W .any base 23 v1) (h1 : DataW.Trod enc Try.prog W 0 (fun _ => true) true 23 v1 d1 p1) (lt1 : ∀ x ∈ p1, x.block < W.heap.size)
    :
    Calls Try.prog 3 #[v0, v1] W fun e w' => e = .returned (.bool true) ∧ Ext W w' := by
  obtain ⟨C, S, ad, n, c, rfl, hT⟩ := op_tab o0 h0
  obtain ⟨m, l, ad2, c2, hl, rfl, hnc2, hcm2, hv2, hlt, hbk⟩ := op_ints o1 h1
  clear o0 h0 lt0 o1 h1 lt1
  have hC := hT.len
  have hv := hT.sl
  have hnc := hT.nc
  have hcm := hT.cm
  have hnm : n ≤ 9223372036854775807 := by omega
  have hmm : m ≤ 9223372036854775807 := by omega
  clear hT hlt hbk hnc hcm hnc2 hcm2
  have hS := St.start W
  obtain ⟨E, hE⟩ : ∃ E, costE C S l = E := ⟨_, rfl⟩
  have HE := hid hE
  by_cases hb : bE l = 0
  · have HB := hid hb
    have HL := hid hl
    have HTOLD := hid (fun (h : E = 0) => cost_told hl (hE.trans h))
    obtain ⟨X, hX⟩ : ∃ X, costN C S l = X := ⟨_, rfl⟩
    have HX := hid hX
    clear hE hX hb hl
    go_enter Try.func3, Try.ntmps3
    repeat' (first
      | ((with_reducible show wpList _ _ _ (⟨_, .call ⟨.value (.func 11), _, _⟩, _, _, _, _⟩ :: _) _ _); refine wpl_call (f := 11) Try.call11 (by kernel_rfl) ?_; refine ⟨_, (bested_any _), ?_⟩; rintro e w ⟨rfl, hE2⟩; replace hS := hS.ext hE2; clear hE2; refine ⟨_, rfl, ?_⟩; refine put_move ?_; go_step)
      | ((with_reducible show wpList _ _ _ (⟨some 16, _, _, _, _, _⟩ :: _) _ _); refine wpl_call (f := 12) Try.call12 (by kernel_rfl) ?_; refine ⟨_, (cost_any _ C S ad n c hC (hv.ext hS.1) hnm l _ m c2 (hv2.ext hS.1) hmm), ?_⟩; rintro e w ⟨rfl, hE2⟩; rw [HE.out, HX.out]; replace hS := hS.ext hE2; clear hE2; refine ⟨_, rfl, ?_⟩; refine put_move ?_; go_step)
      | go_skip
      | go_big_skip
      | ((with_reducible show wpList _ _ _ (⟨_, .move _, _, _, _, _⟩ :: _) _ _); (first | go_big_want | go_step); go_step)
      | ((with_reducible show wpList _ _ _ (⟨_, .assign _, _, _, _, _⟩ :: _) _ _); (first | go_big_want | go_step); go_step)
      | ((with_reducible show wpList _ _ _ (⟨_, .pick _ _ _, _, _, _, _⟩ :: _) _ _); first | (refine wplPickT rfl (by kernel_rfl) ?_; go_step) | (refine wplPickF rfl (by kernel_rfl) ?_; go_step))
      | ((with_reducible show wpList _ _ _ (⟨_, .unOp .not _ _, _, _, _, _⟩ :: _) _ _); first | (refine wplV _ (V.notD rfl) (by kernel_rfl) ?_; go_step) | (refine wplV _ (V.not rfl) (by kernel_rfl) ?_; go_step))
      | ((with_reducible show wpList _ _ _ (⟨_, .extract _ _, _, _, _, _⟩ :: _) _ _); first | (refine wplV _ (V.extract rfl rfl) (by kernel_rfl) ?_; go_step))
      | ((with_reducible show wpList _ _ _ (⟨some 2, .box 25 _, _, _, _, _⟩ :: _) _ _); first | (refine wpl (by kernel_rfl) ?_; apply wp_boxP (o := ⟨some 2, _, _, _, _, _⟩) hS 25 _ rfl _ rfl; clear hS; intro g2 w hS; refine put_move ?_; go_step))
      | ((with_reducible show wpList _ _ _ (⟨_, .load 25 _, _, _, _, _⟩ :: _) _ _); first | (refine wpl (by kernel_rfl) ?_; apply wp_loadPP hS 25 _ rfl _ _ rfl 17 (row_of rfl) _; (case hp => (repeat (first | with_reducible exact Pull.head | apply Pull.tail))); (case hi => (repeat (first | (apply AtP.head; (repeat (first | exact Pre.nil | (apply Pre.ints; (case hn => (first | (with_reducible assumption) | exact Len.rep | exact Len.set (by with_reducible assumption) | exact Len.set Len.rep | exact Len.set (Len.set Len.rep))); (case h => omega); (case hm => rfl)) | apply Pre.val))) | (apply AtP.skipI; (case hn => (first | (with_reducible assumption) | exact Len.rep | exact Len.set (by with_reducible assumption) | exact Len.set Len.rep | exact Len.set (Len.set Len.rep))); (case h => omega); (case ho => rfl)) | apply AtP.skipV))); refine put_move ?_; go_step) | (refine wpl (by kernel_rfl) ?_; apply wp_loadA hS 25 _ rfl _ rfl 17 (row_of rfl) _; (case hp => (repeat (first | with_reducible exact Pull.head | apply Pull.tail))); refine put_move ?_; go_step) | (refine wpl (by kernel_rfl) ?_; apply wp_loadG hS 25 _ rfl _ rfl 17 (row_of rfl) _; (case hp => (repeat (first | with_reducible exact Pull.head | apply Pull.tail))); (case hn => rfl); refine put_move ?_; go_step) | (refine wpl (by kernel_rfl) ?_; apply wp_loadRW hS 25 _ rfl _ _ rfl 17 (row_of rfl) _; (case hc => with_reducible assumption); (case hn => rfl); refine put_move ?_; go_step))
      | ((fail_if_success (with_reducible show wpList _ _ _ (_ :: _) _ _)); go_step))
    repeat' (first
      | ((with_reducible show wpList _ _ _ (⟨some 21, _, _, _, _, _⟩ :: _) _ _); refine wpl_call (f := 13) Try.call13 (by kernel_rfl) ?_; refine ⟨_, (make_good _ l _ m c2 (hv2.ext hS.1) hmm HB.out), ?_⟩; rintro e w ⟨C5, S5, ao, co, hM, rfl, hS2⟩; have hLen := hM.len; have HM := hid hM; replace hS := hS.call1 hS2; clear hS2 hM; refine ⟨_, rfl, ?_⟩; refine put_move ?_; go_step)
      | go_skip
      | go_big_skip
      | ((with_reducible show wpList _ _ _ (⟨_, .move _, _, _, _, _⟩ :: _) _ _); (first | go_big_want | go_step); go_step)
      | ((with_reducible show wpList _ _ _ (⟨_, .assign _, _, _, _, _⟩ :: _) _ _); (first | go_big_want | go_step); go_step)
      | ((with_reducible show wpList _ _ _ (⟨_, .pick _ _ _, _, _, _, _⟩ :: _) _ _); first | (refine wplPickT rfl (by kernel_rfl) ?_; go_step) | (refine wplPickF rfl (by kernel_rfl) ?_; go_step))
      | ((with_reducible show wpList _ _ _ (⟨some 25, .binOp .neq 27 _ _ _, _, _, _, _⟩ :: _) _ _); first | (refine wplD _ (V.neq rfl rfl) (by kernel_rfl) (fun hB => ?_) (fun hB => ?_) <;> (try (have hF : False := (by omega); cases hF)) <;> go_step) | (refine wplB _ (V.neq rfl rfl) (by kernel_rfl) (fun hB => ?_) (fun hB => ?_) <;> (try (have hF : False := (absurd hB (by decide)); cases hF)) <;> go_step))
      | ((with_reducible show wpList _ _ _ (⟨some 31, .binOp .neq 27 _ _ _, _, _, _, _⟩ :: _) _ _); first | (refine wplD _ (V.neq rfl rfl) (by kernel_rfl) (fun hB => ?_) (fun hB => ?_) <;> (try (have hF : False := (by omega); cases hF)) <;> go_step) | (refine wplB _ (V.neq rfl rfl) (by kernel_rfl) (fun hB => ?_) (fun hB => ?_) <;> (try (have hF : False := (absurd hB (by decide)); cases hF)) <;> go_step))
      | ((with_reducible show wpList _ _ _ (⟨_, .extract _ _, _, _, _, _⟩ :: _) _ _); first | (refine wplV _ (V.extract rfl rfl) (by kernel_rfl) ?_; go_step))
      | ((with_reducible show wpList _ _ _ (⟨_, .binOp .neq 27 _ _ _, _, _, _, _⟩ :: _) _ _); first | (refine wplV _ (V.neq rfl rfl) (by kernel_rfl) ?_; go_step))
      | ((with_reducible show wpList _ _ _ (⟨some 7, .alloc 25, _, _, _, _⟩ :: _) _ _); first | (refine wpl (by kernel_rfl) ?_; apply wp_allocP (o := ⟨some 7, _, _, _, _, _⟩) hS 25 rfl _ zp25; clear hS; intro g7 w hS; refine put_move ?_; go_step))
      | ((with_reducible show wpList _ _ _ (⟨_, .store 25 _ _, _, _, _, _⟩ :: _) _ _); first | (refine wpl (by kernel_rfl) ?_; apply wp_storePP hS 25 _ _ rfl _ rfl 17 (row_of rfl) _ _; (case hp => (repeat (first | with_reducible exact Pull.head | apply Pull.tail))); (case hy => rfl); (case hn => (repeat (first | exact Pre.nil | (apply Pre.ints; (case hn => (first | (with_reducible assumption) | exact Len.rep | exact Len.set (by with_reducible assumption) | exact Len.set Len.rep | exact Len.set (Len.set Len.rep))); (case h => omega); (case hm => rfl)) | apply Pre.val))); (case hn' => (repeat (first | exact Pre.nil | (apply Pre.ints; (case hn => (first | (with_reducible assumption) | exact Len.rep | exact Len.set (by with_reducible assumption) | exact Len.set Len.rep | exact Len.set (Len.set Len.rep))); (case h => omega); (case hm => rfl)) | apply Pre.val))); (case hv => rfl); (case hd => exact rfl); clear hS; intro w hS) | (refine wpl (by kernel_rfl) ?_; apply wp_storeA hS 25 _ _ rfl _ rfl 17 (row_of rfl) _ _; (case hp => (repeat (first | with_reducible exact Pull.head | apply Pull.tail))); (case hy => rfl); (case hm => (repeat (first | assumption | exact Len.rep | apply Len.set | ((with_reducible show Len (_ :: _) _); exact rfl)))); (case hd => exact rfl); clear hS; intro w hS) | (refine wpl (by kernel_rfl) ?_; apply wp_storeG hS 25 _ _ rfl _ rfl 17 (row_of rfl) _ _; (case hp => (repeat (first | with_reducible exact Pull.head | apply Pull.tail))); (case hy => rfl); (case hn => rfl); (case hn' => rfl); (case hv => rfl); (case hd => exact rfl); clear hS; intro w hS))
      | ((fail_if_success (with_reducible show wpList _ _ _ (_ :: _) _ _)); go_step))
    · go_ret; exact ⟨ret_bool (decide_eq_true (by omega)), hS.1⟩
    · have hz : E = 0 := by omega
      have hcs := cost_made HM.out HL.out HB.out
      have htl := HTOLD.out hz
      have hle := HM.out.best _ htl.2.1
      rw [← hcs.2, ← htl.2.2, HX.out] at hle
      have hn5 : S5.length ≤ 9223372036854775807 := by have := (tabE_ok HM.out.ok).2.2.1; omega
      have HCS := hid hcs
      clear hcs htl
      obtain ⟨Y, hY⟩ : ∃ Y, costN C5 S5 l = Y := ⟨_, rfl⟩
      have HY := hid hY
      rw [hY] at hle
      clear hY
      repeat' (first
        | ((with_reducible show wpList _ _ _ (⟨some 39, _, _, _, _, _⟩ :: _) _ _); refine wpl_call (f := 12) Try.call12 (by kernel_rfl) ?_; refine ⟨_, (cost_any _ C5 S5 ao S5.length co hLen (hS.sl (by (repeat (first | with_reducible exact Pull.head | apply Pull.tail)))) hn5 l _ m c2 (hv2.ext hS.1) hmm), ?_⟩; rintro e w ⟨rfl, hE2⟩; rw [HCS.out.1, HY.out]; replace hS := hS.ext hE2; clear hE2; refine ⟨_, rfl, ?_⟩; refine put_move ?_; go_step)
        | go_skip
        | go_big_skip
        | ((with_reducible show wpList _ _ _ (⟨_, .move _, _, _, _, _⟩ :: _) _ _); (first | go_big_want | go_step); go_step)
        | ((with_reducible show wpList _ _ _ (⟨_, .assign _, _, _, _, _⟩ :: _) _ _); (first | go_big_want | go_step); go_step)
        | ((with_reducible show wpList _ _ _ (⟨_, .pick _ _ _, _, _, _, _⟩ :: _) _ _); first | (refine wplPickT rfl (by kernel_rfl) ?_; go_step) | (refine wplPickF rfl (by kernel_rfl) ?_; go_step))
        | ((with_reducible show wpList _ _ _ (⟨some 43, .binOp .eql 27 _ _ _, _, _, _, _⟩ :: _) _ _); first | (refine wplD _ (V.eql rfl rfl) (by kernel_rfl) (fun hB => ?_) (fun hB => ?_) <;> (try (have hF : False := (by omega); cases hF)) <;> go_step) | (refine wplB _ (V.eql rfl rfl) (by kernel_rfl) (fun hB => ?_) (fun hB => ?_) <;> (try (have hF : False := (absurd hB (by decide)); cases hF)) <;> go_step))
        | ((with_reducible show wpList _ _ _ (⟨_, .extract _ _, _, _, _, _⟩ :: _) _ _); first | (refine wplV _ (V.extract rfl rfl) (by kernel_rfl) ?_; go_step))
        | ((with_reducible show wpList _ _ _ (⟨_, .binOp .leq _ _ _ _, _, _, _, _⟩ :: _) _ _); first | (refine wplV _ (V.leq rfl rfl) (by kernel_rfl) ?_; go_step))
        | ((with_reducible show wpList _ _ _ (⟨_, .load 25 _, _, _, _, _⟩ :: _) _ _); first | (refine wpl (by kernel_rfl) ?_; apply wp_loadPP hS 25 _ rfl _ _ rfl 17 (row_of rfl) _; (case hp => (repeat (first | with_reducible exact Pull.head | apply Pull.tail))); (case hi => (repeat (first | (apply AtP.head; (repeat (first | exact Pre.nil | (apply Pre.ints; (case hn => (first | (with_reducible assumption) | exact Len.rep | exact Len.set (by with_reducible assumption) | exact Len.set Len.rep | exact Len.set (Len.set Len.rep))); (case h => omega); (case hm => rfl)) | apply Pre.val))) | (apply AtP.skipI; (case hn => (first | (with_reducible assumption) | exact Len.rep | exact Len.set (by with_reducible assumption) | exact Len.set Len.rep | exact Len.set (Len.set Len.rep))); (case h => omega); (case ho => rfl)) | apply AtP.skipV))); refine put_move ?_; go_step) | (refine wpl (by kernel_rfl) ?_; apply wp_loadA hS 25 _ rfl _ rfl 17 (row_of rfl) _; (case hp => (repeat (first | with_reducible exact Pull.head | apply Pull.tail))); refine put_move ?_; go_step) | (refine wpl (by kernel_rfl) ?_; apply wp_loadG hS 25 _ rfl _ rfl 17 (row_of rfl) _; (case hp => (repeat (first | with_reducible exact Pull.head | apply Pull.tail))); (case hn => rfl); refine put_move ?_; go_step) | (refine wpl (by kernel_rfl) ?_; apply wp_loadRW hS 25 _ rfl _ _ rfl 17 (row_of rfl) _; (case hc => with_reducible assumption); (case hn => rfl); refine put_move ?_; go_step))
        | ((fail_if_success (with_reducible show wpList _ _ _ (_ :: _) _ _)); go_step))
      all_goals (go_ret; exact ⟨ret_bool (decide_eq_true (by omega)), hS.1⟩)
  · have HB := hid hb
    clear hl hE
    go_enter Try.func3, Try.ntmps3
    repeat' (first
      | ((with_reducible show wpList _ _ _ (⟨_, .call ⟨.value (.func 11), _, _⟩, _, _, _, _⟩ :: _) _ _); refine wpl_call (f := 11) Try.call11 (by kernel_rfl) ?_; refine ⟨_, (bested_any _), ?_⟩; rintro e w ⟨rfl, hE2⟩; replace hS := hS.ext hE2; clear hE2; refine ⟨_, rfl, ?_⟩; refine put_move ?_; go_step)
      | ((with_reducible show wpList _ _ _ (⟨some 16, _, _, _, _, _⟩ :: _) _ _); refine wpl_call (f := 12) Try.call12 (by kernel_rfl) ?_; refine ⟨_, (cost_any _ C S ad n c hC (hv.ext hS.1) hnm l _ m c2 (hv2.ext hS.1) hmm), ?_⟩; rintro e w ⟨rfl, hE2⟩; rw [HE.out]; replace hS := hS.ext hE2; clear hE2; refine ⟨_, rfl, ?_⟩; refine put_move ?_; go_step)
      | ((with_reducible show wpList _ _ _ (⟨some 21, _, _, _, _, _⟩ :: _) _ _); refine wpl_call (f := 13) Try.call13 (by kernel_rfl) ?_; refine ⟨_, (make_bad _ l _ m c2 (hv2.ext hS.1) hmm HB.out), ?_⟩; rintro e w ⟨rfl, hE2⟩; have hLen := zero_len; replace hS := hS.ext hE2; clear hE2; refine ⟨_, rfl, ?_⟩; refine put_move ?_; go_step)
      | go_skip
      | go_big_skip
      | ((with_reducible show wpList _ _ _ (⟨_, .move _, _, _, _, _⟩ :: _) _ _); (first | go_big_want | go_step); go_step)
      | ((with_reducible show wpList _ _ _ (⟨_, .assign _, _, _, _, _⟩ :: _) _ _); (first | go_big_want | go_step); go_step)
      | ((with_reducible show wpList _ _ _ (⟨_, .pick _ _ _, _, _, _, _⟩ :: _) _ _); first | (refine wplPickT rfl (by kernel_rfl) ?_; go_step) | (refine wplPickF rfl (by kernel_rfl) ?_; go_step))
      | ((with_reducible show wpList _ _ _ (⟨some 25, .binOp .neq 27 _ _ _, _, _, _, _⟩ :: _) _ _); first | (refine wplD _ (V.neq rfl rfl) (by kernel_rfl) (fun hB => ?_) (fun hB => ?_) <;> (try (have hF : False := (by omega); cases hF)) <;> go_step) | (refine wplB _ (V.neq rfl rfl) (by kernel_rfl) (fun hB => ?_) (fun hB => ?_) <;> (try (have hF : False := (absurd hB (by decide)); cases hF)) <;> go_step))
      | ((with_reducible show wpList _ _ _ (⟨some 31, .binOp .neq 27 _ _ _, _, _, _, _⟩ :: _) _ _); first | (refine wplD _ (V.neq rfl rfl) (by kernel_rfl) (fun hB => ?_) (fun hB => ?_) <;> (try (have hF : False := (by omega); cases hF)) <;> go_step) | (refine wplB _ (V.neq rfl rfl) (by kernel_rfl) (fun hB => ?_) (fun hB => ?_) <;> (try (have hF : False := (absurd hB (by decide)); cases hF)) <;> go_step))
      | ((with_reducible show wpList _ _ _ (⟨_, .unOp .not _ _, _, _, _, _⟩ :: _) _ _); first | (refine wplV _ (V.notD rfl) (by kernel_rfl) ?_; go_step) | (refine wplV _ (V.not rfl) (by kernel_rfl) ?_; go_step))
      | ((with_reducible show wpList _ _ _ (⟨_, .extract _ _, _, _, _, _⟩ :: _) _ _); first | (refine wplV _ (V.extract rfl rfl) (by kernel_rfl) ?_; go_step))
      | ((with_reducible show wpList _ _ _ (⟨_, .binOp .neq 27 _ _ _, _, _, _, _⟩ :: _) _ _); first | (refine wplV _ (V.neq rfl rfl) (by kernel_rfl) ?_; go_step))
      | ((with_reducible show wpList _ _ _ (⟨some 2, .box 25 _, _, _, _, _⟩ :: _) _ _); first | (refine wpl (by kernel_rfl) ?_; apply wp_boxP (o := ⟨some 2, _, _, _, _, _⟩) hS 25 _ rfl _ rfl; clear hS; intro g2 w hS; refine put_move ?_; go_step))
      | ((with_reducible show wpList _ _ _ (⟨_, .load 25 _, _, _, _, _⟩ :: _) _ _); first | (refine wpl (by kernel_rfl) ?_; apply wp_loadPP hS 25 _ rfl _ _ rfl 17 (row_of rfl) _; (case hp => (repeat (first | with_reducible exact Pull.head | apply Pull.tail))); (case hi => (repeat (first | (apply AtP.head; (repeat (first | exact Pre.nil | (apply Pre.ints; (case hn => (first | (with_reducible assumption) | exact Len.rep | exact Len.set (by with_reducible assumption) | exact Len.set Len.rep | exact Len.set (Len.set Len.rep))); (case h => omega); (case hm => rfl)) | apply Pre.val))) | (apply AtP.skipI; (case hn => (first | (with_reducible assumption) | exact Len.rep | exact Len.set (by with_reducible assumption) | exact Len.set Len.rep | exact Len.set (Len.set Len.rep))); (case h => omega); (case ho => rfl)) | apply AtP.skipV))); refine put_move ?_; go_step) | (refine wpl (by kernel_rfl) ?_; apply wp_loadA hS 25 _ rfl _ rfl 17 (row_of rfl) _; (case hp => (repeat (first | with_reducible exact Pull.head | apply Pull.tail))); refine put_move ?_; go_step) | (refine wpl (by kernel_rfl) ?_; apply wp_loadG hS 25 _ rfl _ rfl 17 (row_of rfl) _; (case hp => (repeat (first | with_reducible exact Pull.head | apply Pull.tail))); (case hn => rfl); refine put_move ?_; go_step) | (refine wpl (by kernel_rfl) ?_; apply wp_loadRW hS 25 _ rfl _ _ rfl 17 (row_of rfl) _; (case hc => with_reducible assumption); (case hn => rfl); refine put_move ?_; go_step))
      | ((with_reducible show wpList _ _ _ (⟨some 7, .alloc 25, _, _, _, _⟩ :: _) _ _); first | (refine wpl (by kernel_rfl) ?_; apply wp_allocP (o := ⟨some 7, _, _, _, _, _⟩) hS 25 rfl _ zp25; clear hS; intro g7 w hS; refine put_move ?_; go_step))
      | ((with_reducible show wpList _ _ _ (⟨_, .store 25 _ _, _, _, _, _⟩ :: _) _ _); first | (refine wpl (by kernel_rfl) ?_; apply wp_storePP hS 25 _ _ rfl _ rfl 17 (row_of rfl) _ _; (case hp => (repeat (first | with_reducible exact Pull.head | apply Pull.tail))); (case hy => rfl); (case hn => (repeat (first | exact Pre.nil | (apply Pre.ints; (case hn => (first | (with_reducible assumption) | exact Len.rep | exact Len.set (by with_reducible assumption) | exact Len.set Len.rep | exact Len.set (Len.set Len.rep))); (case h => omega); (case hm => rfl)) | apply Pre.val))); (case hn' => (repeat (first | exact Pre.nil | (apply Pre.ints; (case hn => (first | (with_reducible assumption) | exact Len.rep | exact Len.set (by with_reducible assumption) | exact Len.set Len.rep | exact Len.set (Len.set Len.rep))); (case h => omega); (case hm => rfl)) | apply Pre.val))); (case hv => rfl); (case hd => exact rfl); clear hS; intro w hS) | (refine wpl (by kernel_rfl) ?_; apply wp_storeA hS 25 _ _ rfl _ rfl 17 (row_of rfl) _ _; (case hp => (repeat (first | with_reducible exact Pull.head | apply Pull.tail))); (case hy => rfl); (case hm => (repeat (first | assumption | exact Len.rep | apply Len.set | ((with_reducible show Len (_ :: _) _); exact rfl)))); (case hd => exact rfl); clear hS; intro w hS) | (refine wpl (by kernel_rfl) ?_; apply wp_storeG hS 25 _ _ rfl _ rfl 17 (row_of rfl) _ _; (case hp => (repeat (first | with_reducible exact Pull.head | apply Pull.tail))); (case hy => rfl); (case hn => rfl); (case hn' => rfl); (case hv => rfl); (case hd => exact rfl); clear hS; intro w hS))
      | ((fail_if_success (with_reducible show wpList _ _ _ (_ :: _) _ _)); go_step))
    all_goals (go_ret; first | exact ⟨rfl, hS.1⟩ | exact ⟨ret_bool (decide_eq_true (by omega)), hS.1⟩)
end Go.Proofs.Ytembekkanggciaa
