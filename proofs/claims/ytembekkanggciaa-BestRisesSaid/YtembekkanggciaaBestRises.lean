/- The law BestRises: its walk, and the statement. -/
import Derived.Test.YtembekkanggciaaBestBoth
import Derived.Test.YtembekkanggciaaOpen
import Derived.Test.YtembekkanggciaaOpenTab
import Derived.Test.YtembekkanggciaaUpto
import Derived.Test.YtembekkanggciaaTint
namespace Go.Proofs.Ytembekkanggciaa
open Go.ChangeShapes Go.WideShapes Go.ChangeAt Go.RowKit
set_option linter.unusedVariables false
theorem nth_setk {l : List Int} {k i : Nat} {x : Int} (hk : k < l.length) : nth (l.set k x) i = if i = k then x else nth l i := by
  simp only [nth, List.getD, List.getElem?_set]
  by_cases h : i = k
  · subst h; simp [hk]
  · rw [if_neg (by omega), if_neg h]
theorem rises_law {c C S C' S' : List Int} {n k : Nat} {x : Int} (hcl : c.length = n) (hk : k < n) (hx : nth c k ≤ x) (hb : bE c = 0) (hx0 : 0 ≤ x) (h : Mk c n C S) (h' : Mk (c.set k x) n C' S') :
    costL c n (lw (wds C S)) ≤ costL (c.set k x) n (lw (wds C' S')) := by
  have hc := (bE_ok hb).2
  rw [hcl] at hc
  have hle : ∀ i, nth c i ≤ nth (c.set k x) i := fun i => by
    rw [nth_setk (by omega)]
    by_cases h : i = k
    · subst h; rw [if_pos rfl]; exact hx
    · rw [if_neg h]; omega
  refine opt_le id h h'.lens (fun i hi => (hc i hi).1) (fun i hi => Int.le_trans (hc i hi).1 (hle i)) (fun s hs => ?_) (fun a _ b _ e => e)
  have h1 := (posL_mem c n s).1 hs
  refine ⟨(posL_mem _ n s).2 ⟨h1.1, h1.2.1, Int.lt_of_lt_of_le h1.2.2 (hle _)⟩, ?_⟩
  rw [id, wOf_at _ _ h1.1, wOf_at _ _ h1.1]
  exact hle _
set_option maxRecDepth 100000 in
set_option maxHeartbeats 8000000 in
theorem BestRises_walk {H : Type} {enc : TypeId × Value → H} {d0 d1 d2 : DataW H} {p0 p1 p2 : List MemPlace} {v0 v1 v2 : Value} {base : Nat} (W : World)
    (o0 : Value.okWide Try.prog W .any base 23 v0) (h0 : DataW.Trod enc Try.prog W 0 (fun _ => true) true 23 v0 d0 p0) (lt0 : ∀ x ∈ p0, x.block < W.heap.size)
    (o1 : Value.okWide Try.prog W .any base 3 v1) (h1 : DataW.Trod enc Try.prog W 0 (fun _ => true) true 3 v1 d1 p1) (lt1 : ∀ x ∈ p1, x.block < W.heap.size)
    (o2 : Value.okWide Try.prog W .any base 3 v2) (h2 : DataW.Trod enc Try.prog W 0 (fun _ => true) true 3 v2 d2 p2) (lt2 : ∀ x ∈ p2, x.block < W.heap.size)
    :
    Calls Try.prog 6 #[v0, v1, v2] W fun e w' => e = .returned (.bool true) ∧ Ext W w' := by
  obtain ⟨m, l, ad2, c2, hl, rfl, hnc2, hcm2, hv2, hlt, hbk⟩ := op_ints o0 h0
  obtain ⟨z1, rfl, _, _⟩ := op_int Try.underlying3 o1 h1
  obtain ⟨z2, rfl, _, _⟩ := op_int Try.underlying3 o2 h2
  clear o0 h0 lt0 o1 o2 h1 h2 lt1 lt2
  have hmm : m ≤ 9223372036854775807 := by omega
  have HLT := hid hlt
  clear hlt hbk hnc2 hcm2
  have hS := St.start W
  by_cases hm : m = 0 ∨ 256 < m
  · clear hl
    go_enter Try.func6, Try.ntmps6
    repeat' (first
      | ((with_reducible show wpList _ _ _ (⟨_, .call ⟨.value (.func 11), _, _⟩, _, _, _, _⟩ :: _) _ _); refine wpl_call (f := 11) Try.call11 (by kernel_rfl) ?_; refine ⟨_, (bested_any _), ?_⟩; rintro e w ⟨rfl, hE2⟩; replace hS := hS.ext hE2; clear hE2; refine ⟨_, rfl, ?_⟩; refine put_move ?_; go_step)
      | go_skip
      | go_big_skip
      | ((with_reducible show wpList _ _ _ (⟨_, .move _, _, _, _, _⟩ :: _) _ _); (first | go_big_want | go_step); go_step)
      | ((with_reducible show wpList _ _ _ (⟨_, .assign _, _, _, _, _⟩ :: _) _ _); (first | go_big_want | go_step); go_step)
      | ((with_reducible show wpList _ _ _ (⟨_, .pick _ _ _, _, _, _, _⟩ :: _) _ _); first | (refine wplPickT rfl (by kernel_rfl) ?_; go_step) | (refine wplPickF rfl (by kernel_rfl) ?_; go_step))
      | ((with_reducible show wpList _ _ _ (⟨some 20, .binOp .eql 3 _ _ _, _, _, _, _⟩ :: _) _ _); first | (refine wplD _ (V.eql rfl rfl) (by kernel_rfl) (fun hB => ?_) (fun hB => ?_) <;> (try (have hF : False := (by omega); cases hF)) <;> go_step) | (refine wplB _ (V.eql rfl rfl) (by kernel_rfl) (fun hB => ?_) (fun hB => ?_) <;> (try (have hF : False := (absurd hB (by decide)); cases hF)) <;> go_step))
      | ((with_reducible show wpList _ _ _ (⟨_, .unOp .not _ _, _, _, _, _⟩ :: _) _ _); first | (refine wplV _ (V.notD rfl) (by kernel_rfl) ?_; go_step) | (refine wplV _ (V.not rfl) (by kernel_rfl) ?_; go_step))
      | ((with_reducible show wpList _ _ _ (⟨_, .call ⟨.builtin .len, _, _⟩, _, _, _, _⟩ :: _) _ _); first | (refine wplV _ (V.len Try.underlying23 rfl) (by kernel_rfl) ?_; go_step))
      | ((with_reducible show wpList _ _ _ (⟨_, .binOp .gtr _ _ _ _, _, _, _, _⟩ :: _) _ _); first | (refine wplV _ (V.gtr rfl rfl) (by kernel_rfl) ?_; go_step))
      | ((fail_if_success (with_reducible show wpList _ _ _ (_ :: _) _ _)); go_step))
    all_goals (go_ret; exact ⟨rfl, hS.1⟩)
  have hm0 : 0 < m := by omega
  have hm2 : m ≤ 256 := by omega
  clear hm
  have a0 := Int.emod_nonneg z1 (b := (m : Int)) (by omega)
  have a1 := Int.emod_lt_of_pos z1 (b := (m : Int)) (by omega)
  have b0 := Int.emod_nonneg z2 (b := 50) (by omega)
  have b1 := Int.emod_lt_of_pos z2 (b := 50) (by omega)
  obtain ⟨k, hk⟩ : ∃ k : Nat, z1 % (m : Int) = (k : Int) := ⟨(z1 % (m : Int)).toNat, by omega⟩
  have HK := hid hk
  have hkm : k < m := by omega
  obtain ⟨r, hr⟩ : ∃ r, z2 % 50 = r := ⟨_, rfl⟩
  have HR := hid hr
  have hr1 : 0 ≤ r ∧ r < 50 := by omega
  clear hk hr a0 a1 b0 b1
  have HL := hid hl
  clear hl
  go_enter Try.func6, Try.ntmps6
  repeat' (first
    | ((with_reducible show wpList _ _ _ (⟨_, .call ⟨.value (.func 11), _, _⟩, _, _, _, _⟩ :: _) _ _); refine wpl_call (f := 11) Try.call11 (by kernel_rfl) ?_; refine ⟨_, (bested_any _), ?_⟩; rintro e w ⟨rfl, hE2⟩; replace hS := hS.ext hE2; clear hE2; refine ⟨_, rfl, ?_⟩; refine put_move ?_; go_step)
    | ((with_reducible show wpList _ _ _ (⟨some 29, _, _, _, _, _⟩ :: _) _ _); refine wpl_call (f := 15) Try.call15 (by kernel_rfl) ?_; refine ⟨_, (rest_any z1 m _ (by omega) (by omega)), ?_⟩; rintro e w ⟨rfl, rfl⟩; rw [HK.out]; refine ⟨_, rfl, ?_⟩; refine put_move ?_; go_step)
    | go_skip
    | go_big_skip
    | ((with_reducible show wpList _ _ _ (⟨_, .move _, _, _, _, _⟩ :: _) _ _); (first | go_big_want | go_step); go_step)
    | ((with_reducible show wpList _ _ _ (⟨_, .assign _, _, _, _, _⟩ :: _) _ _); (first | go_big_want | go_step); go_step)
    | ((with_reducible show wpList _ _ _ (⟨_, .pick _ _ _, _, _, _, _⟩ :: _) _ _); first | (refine wplPickT rfl (by kernel_rfl) ?_; go_step) | (refine wplPickF rfl (by kernel_rfl) ?_; go_step))
    | ((with_reducible show wpList _ _ _ (⟨some 20, .binOp .eql 3 _ _ _, _, _, _, _⟩ :: _) _ _); first | (refine wplD _ (V.eql rfl rfl) (by kernel_rfl) (fun hB => ?_) (fun hB => ?_) <;> (try (have hF : False := (by omega); cases hF)) <;> go_step) | (refine wplB _ (V.eql rfl rfl) (by kernel_rfl) (fun hB => ?_) (fun hB => ?_) <;> (try (have hF : False := (absurd hB (by decide)); cases hF)) <;> go_step))
    | ((with_reducible show wpList _ _ _ (⟨_, .unOp .not _ _, _, _, _, _⟩ :: _) _ _); first | (refine wplV _ (V.notD rfl) (by kernel_rfl) ?_; go_step) | (refine wplV _ (V.not rfl) (by kernel_rfl) ?_; go_step))
    | ((with_reducible show wpList _ _ _ (⟨_, .call ⟨.builtin .len, _, _⟩, _, _, _, _⟩ :: _) _ _); first | (refine wplV _ (V.len Try.underlying23 rfl) (by kernel_rfl) ?_; go_step))
    | ((with_reducible show wpList _ _ _ (⟨_, .binOp .gtr _ _ _ _, _, _, _, _⟩ :: _) _ _); first | (refine wplV _ (V.gtr rfl rfl) (by kernel_rfl) ?_; go_step))
    | ((with_reducible show wpList _ _ _ (⟨some 31, .call ⟨.builtin .append, _, _⟩, _, _, _, _⟩ :: _) _ _); first | (refine wpl (by kernel_rfl) ?_; apply wp_append (o := ⟨some 31, _, _, _, _, _⟩) hS _ _ 23 rfl 3 1 8 el23 _ _ _ _ rfl; (case hp => (repeat (first | with_reducible exact Pull.head | apply Pull.tail))); (case hx => exact rfl); (case hm => (first | exact hS.slBlk (by (repeat (first | with_reducible exact Pull.head | apply Pull.tail))) (by rfl) (by decide) | exact hS.sl (by (repeat (first | with_reducible exact Pull.head | apply Pull.tail))) | with_reducible assumption | exact Sl.ext (by with_reducible assumption) hS.1 | exact Sl.nil _ _ | exact Sl.ext (by assumption) hS.1 | assumption)); (case h1 => (first | exact oneAll rfl | exact oneMap _ _ | (intro u hu; cases hu))); (case h63 => unfold maxLen; omega); (case hb => omega); clear hS; intro ad31 c31 w hS; (first | simp only [mapk1] at hS | simp only [mapk2] at hS | simp only [mapk3] at hS | simp only [mapk4] at hS | simp only [mapkl] at hS | skip); refine put_move ?_; go_step) | (refine wpl (by kernel_rfl) ?_; apply wp_append (o := ⟨some 31, _, _, _, _, _⟩) (hS.nilk 3 1 .i64) _ _ 23 rfl 3 1 8 el23 _ _ _ _ rfl; (case hp => (repeat (first | with_reducible exact Pull.head | apply Pull.tail))); (case hx => exact rfl); (case hm => (first | exact hS.slBlk (by (repeat (first | with_reducible exact Pull.head | apply Pull.tail))) (by rfl) (by decide) | exact hS.sl (by (repeat (first | with_reducible exact Pull.head | apply Pull.tail))) | with_reducible assumption | exact Sl.ext (by with_reducible assumption) hS.1 | exact Sl.nil _ _ | exact Sl.ext (by assumption) hS.1 | assumption)); (case h1 => (first | exact oneAll rfl | exact oneMap _ _ | (intro u hu; cases hu))); (case h63 => unfold maxLen; omega); (case hb => omega); clear hS; intro ad31 c31 w hS; (first | simp only [mapk1] at hS | simp only [mapk2] at hS | simp only [mapk3] at hS | simp only [mapk4] at hS | simp only [mapkl] at hS | skip); refine put_move ?_; go_step))
    | ((fail_if_success (with_reducible show wpList _ _ _ (_ :: _) _ _)); go_step))
  rw [List.nil_append] at hS
  rw [Nat.zero_add] at hS ⊢
  obtain ⟨b3, rfl⟩ := own_some hS (by (repeat (first | with_reducible exact Pull.head | apply Pull.tail))) (by omega)
  refine drawn_lit [12] (fun w => St W w [own 3 1 (some ⟨b3, 0, none⟩) m c31 (l.map (Value.int .i64))]) (by kernel_rfl) ?_
  replace hS := hS.drew
  focus
    refine takeM 0 _ (by (repeat (first | with_reducible exact AtL.head | apply AtL.tail))) (by kernel_rfl) (by kernel_rfl) (by kernel_rfl) (by exact fun _ _ _ _ h => h) rfl ?_
    go_step
    refine takeM 1 _ (by (repeat (first | with_reducible exact AtL.head | apply AtL.tail))) (by kernel_rfl) (by kernel_rfl) (by kernel_rfl) (by exact fun _ _ _ _ h => h) rfl ?_
    go_step
    refine takeM 2 _ (by (repeat (first | with_reducible exact AtL.head | apply AtL.tail))) (by kernel_rfl) (by kernel_rfl) (by kernel_rfl) (by exact fun _ _ _ _ h => h) rfl ?_
    go_step
    refine takeM 3 _ (by (repeat (first | with_reducible exact AtL.head | apply AtL.tail))) (by kernel_rfl) (by kernel_rfl) (by kernel_rfl) (by exact fun _ _ _ _ h => h) rfl ?_
    go_step
    first | (refine takeV 4 _ (by (repeat (first | with_reducible exact AtL.head | apply AtL.tail))) (by kernel_rfl) (by kernel_rfl) (by kernel_rfl) (by exact fun _ _ _ _ h => h) (V.indexSl Try.underlying23 isz3 rfl rfl (by (repeat (first | exact IsN.auto | with_reducible apply IsN.add | with_reducible apply IsN.sub | with_reducible apply IsN.mul | with_reducible apply IsN.div | with_reducible apply IsN.mod | with_reducible apply IsN.min | with_reducible apply IsN.max | (with_reducible show (_ : Nat) ≤ _; omega) | exact IsN.toNat (by omega)))) (by omega) (Nat.mul_one _) (by first | with_reducible exact Nat.zero_add _ | with_reducible exact Nat.add_zero _ | exact rfl)) rfl ?_)
    go_step
    apply takeS 5 (by (repeat (first | with_reducible exact AtL.head | apply AtL.tail))) (by kernel_rfl) (by kernel_rfl) (by kernel_rfl) (by exact fun _ _ _ _ h => h) [6, 9, 10, 11, 12] (by kernel_rfl) (hS.sub (by (repeat (first | exact Sub.nil | with_reducible exact Sub.refl | (apply Sub.cons; (case p => (repeat (first | with_reducible exact Pull.head | apply Pull.tail)))) | apply Sub.skip))))
    case hfr => intro w hS; (first | (refine wpl (by kernel_rfl) ?_; apply wp_load1A hS 3 _ rfl _ _ rfl (one_of rfl) _ _; (case hp => (repeat (first | with_reducible exact Pull.head | apply Pull.tail))); (case hi => omega); refine put_move ?_; go_step) | (refine wpl (by kernel_rfl) ?_; apply wp_load1OI hS 3 _ rfl _ _ rfl (one_of rfl) _ _ _ _ _; (case hp => (repeat (first | with_reducible exact Pull.head | apply Pull.tail))); (case hi => omega); refine put_move ?_; go_step) | (refine wpl (by kernel_rfl) ?_; apply wp_load1 hS 3 _ rfl _ _ rfl (one_of rfl) _; (case hp => (repeat (first | with_reducible exact Pull.head | apply Pull.tail))); (case hc => rfl); refine put_move ?_; go_step) | (refine wpl (by kernel_rfl) ?_; apply wp_load1O hS 3 _ rfl _ _ rfl (one_of rfl) _ _ _ _ _; (case hp => (repeat (first | with_reducible exact Pull.head | apply Pull.tail))); (case hv => with_reducible assumption); refine put_move ?_; go_step) | (refine wpl (by kernel_rfl) ?_; apply wp_loadW hS 3 _ rfl _ rfl (one_of rfl) _; (case hc => with_reducible assumption); refine put_move ?_; go_step) | (refine wpl (by kernel_rfl) ?_; apply wp_load1R hS 3 _ rfl _ _ _ rfl (one_of rfl) _ _; (case hl => with_reducible assumption); (case hr => with_reducible assumption); (case hf => omega); refine put_move ?_; go_step) | (refine wpl (by kernel_rfl) ?_; apply wp_load1R0 hS 3 _ rfl _ _ rfl (one_of rfl) _ _; (case hl => with_reducible assumption); (case hr => with_reducible assumption); (case hf => omega); refine put_move ?_; go_step) | (refine wpl (by kernel_rfl) ?_; apply wp_load1PE hS 3 _ rfl _ _ rfl (one_of rfl) _; (case hp => (repeat (first | with_reducible exact Pull.head | apply Pull.tail))); (case hi => (repeat (first | (apply AtI.head; (case hn => (first | (with_reducible assumption) | exact Len.rep | exact Len.set (by with_reducible assumption) | exact Len.set Len.rep | exact Len.set (Len.set Len.rep))); (case h => omega)) | (apply AtI.skipI; (case hn => (first | (with_reducible assumption) | exact Len.rep | exact Len.set (by with_reducible assumption) | exact Len.set Len.rep | exact Len.set (Len.set Len.rep))); (case h => omega); (case ho => rfl)) | apply AtI.skipV))); (case hz => with_reducible assumption); refine put_move ?_; go_step) | (refine wpl (by kernel_rfl) ?_; apply wp_load1P hS 3 _ rfl _ _ rfl (one_of rfl) _; (case hp => (repeat (first | with_reducible exact Pull.head | apply Pull.tail))); (case hi => (repeat (first | (apply AtI.head; (case hn => (first | (with_reducible assumption) | exact Len.rep | exact Len.set (by with_reducible assumption) | exact Len.set Len.rep | exact Len.set (Len.set Len.rep))); (case h => omega)) | (apply AtI.skipI; (case hn => (first | (with_reducible assumption) | exact Len.rep | exact Len.set (by with_reducible assumption) | exact Len.set Len.rep | exact Len.set (Len.set Len.rep))); (case h => omega); (case ho => rfl)) | apply AtI.skipV))); refine put_move ?_; go_step) | (refine wpl (by kernel_rfl) ?_; apply wp_loadVP hS 3 _ rfl _ _ rfl (one_of rfl) _; (case hp => (repeat (first | with_reducible exact Pull.head | apply Pull.tail))); (case hi => (repeat (first | exact AtV.head | (apply AtV.skipI; (case hn => (first | (with_reducible assumption) | exact Len.rep | exact Len.set (by with_reducible assumption) | exact Len.set Len.rep | exact Len.set (Len.set Len.rep))); (case h => omega); (case ho => rfl)) | apply AtV.skipV))); refine put_move ?_; go_step)); refine wpList_nil ?_; exact ⟨rfl, rfl⟩
    case hd => rfl
    first | (refine takeV 6 _ (by (repeat (first | with_reducible exact AtL.head | apply AtL.tail))) (by kernel_rfl) (by kernel_rfl) (by kernel_rfl) (by exact fun _ _ _ _ h => h) (V.max rfl rfl) rfl ?_)
    go_step
    refine takeM 7 _ (by (repeat (first | with_reducible exact AtL.head | apply AtL.tail))) (by kernel_rfl) (by kernel_rfl) (by kernel_rfl) (by exact fun _ _ _ _ h => h) rfl ?_
    go_step
    refine branch1 8 (by (repeat (first | with_reducible exact AtL.head | apply AtL.tail))) rfl (by kernel_rfl) ?_
    refine wp_callF (f := 15) rfl Try.call15 (rest_any z2 50 _ (by omega) (by omega)) ?_; rintro e w ⟨rfl, rfl⟩; rw [HR.out]; refine ⟨_, rfl, ?_⟩
    refine ⟨fun _ _ => hS.sub (by (repeat (first | exact Sub.nil | with_reducible exact Sub.refl | (apply Sub.cons; (case p => (repeat (first | with_reducible exact Pull.head | apply Pull.tail)))) | apply Sub.skip))), ?_⟩
    refine drawn_move ?_
    go_step
    refine takeV 9 _ (by (repeat (first | with_reducible exact AtL.head | apply AtL.tail))) (by kernel_rfl) (by kernel_rfl) (by kernel_rfl) (by exact fun _ _ _ _ h => h) (V.add rfl rfl) rfl ?_
    go_step
    first | (refine takeV 10 _ (by (repeat (first | with_reducible exact AtL.head | apply AtL.tail))) (by kernel_rfl) (by kernel_rfl) (by kernel_rfl) (by exact fun _ _ _ _ h => h) (V.min rfl rfl) rfl ?_)
    go_step
    first | (refine takeV 11 _ (by (repeat (first | with_reducible exact AtL.head | apply AtL.tail))) (by kernel_rfl) (by kernel_rfl) (by kernel_rfl) (by exact fun _ _ _ _ h => h) (V.indexSl Try.underlying23 isz3 rfl rfl (by (repeat (first | exact IsN.auto | with_reducible apply IsN.add | with_reducible apply IsN.sub | with_reducible apply IsN.mul | with_reducible apply IsN.div | with_reducible apply IsN.mod | with_reducible apply IsN.min | with_reducible apply IsN.max | (with_reducible show (_ : Nat) ≤ _; omega) | exact IsN.toNat (by omega)))) (by omega) (Nat.mul_one _) (by first | with_reducible exact Nat.zero_add _ | with_reducible exact Nat.add_zero _ | exact rfl)) rfl ?_)
    go_step
    refine branch1 12 (by (repeat (first | with_reducible exact AtL.head | apply AtL.tail))) rfl (by kernel_rfl) ?_
    first | (refine wp_store1A hS 3 _ _ rfl _ _ rfl (one_of rfl) _ _ (by (repeat (first | with_reducible exact Pull.head | apply Pull.tail))) _ (by rfl) (by omega) rfl ?_; clear hS; intro w hS) | (refine wp_store1 hS 3 _ _ rfl _ _ rfl (one_of rfl) _ _ (by (repeat (first | with_reducible exact Pull.head | apply Pull.tail))) _ (by (first | exact IsV.int rfl | exact IsV.bool rfl | exact IsV.slice rfl | exact IsV.pointer rfl | exact IsV.string rfl | exact IsV.map rfl | exact IsV.func rfl)) (by rfl) (by (repeat (first | with_reducible exact SetAt.head | apply SetAt.tail))) rfl ?_; clear hS; intro w hS) | (refine wp_store1OI hS 3 _ _ rfl _ _ rfl (one_of rfl) _ _ _ _ _ (by (repeat (first | with_reducible exact Pull.head | apply Pull.tail))) _ (by rfl) (by omega) rfl ?_; clear hS; intro w hS) | (refine wp_store1P hS 3 _ _ rfl _ _ rfl (one_of rfl) _ _ (by (repeat (first | with_reducible exact Pull.head | apply Pull.tail))) _ (by rfl) (by (repeat (first | (apply PutI.head; (case hn => (first | (with_reducible assumption) | exact Len.rep | exact Len.set (by with_reducible assumption) | exact Len.set Len.rep | exact Len.set (Len.set Len.rep))); (case h => omega)) | (apply PutI.skipI; (case hn => (first | (with_reducible assumption) | exact Len.rep | exact Len.set (by with_reducible assumption) | exact Len.set Len.rep | exact Len.set (Len.set Len.rep))); (case h => omega); (case ho => rfl)) | apply PutI.skipV))) rfl ?_; clear hS; intro w hS) | (refine wp_storeVP hS 3 _ _ rfl _ _ rfl (one_of rfl) _ _ (by (repeat (first | with_reducible exact Pull.head | apply Pull.tail))) _ (by (first | exact IsV.int rfl | exact IsV.bool rfl | exact IsV.slice rfl | exact IsV.pointer rfl | exact IsV.string rfl | exact IsV.map rfl | exact IsV.func rfl)) (by rfl) (by (repeat (first | exact PutV.head | (apply PutV.skipI; (case hn => (first | (with_reducible assumption) | exact Len.rep | exact Len.set (by with_reducible assumption) | exact Len.set Len.rep | exact Len.set (Len.set Len.rep))); (case h => omega); (case ho => rfl)) | apply PutV.skipV))) rfl ?_; clear hS; intro w hS) | (refine wp_store1O hS 3 _ _ rfl _ _ rfl (one_of rfl) _ _ _ _ _ (by (repeat (first | with_reducible exact Pull.head | apply Pull.tail))) _ (by (first | exact IsV.int rfl | exact IsV.bool rfl | exact IsV.slice rfl | exact IsV.pointer rfl | exact IsV.string rfl | exact IsV.map rfl | exact IsV.func rfl)) (by rfl) (by omega) rfl ?_; clear hS; intro w hS)
    refine ⟨fun h => absurd (by decide) h, ?_⟩
    refine drawn_done (by kernel_rfl) ?_ _
  have hyy : nth l k ≤ 9999 → 0 ≤ min 9999 (IntKind.i64.wrap (max (nth l k) 0 + r)) ∧ nth l k ≤ min 9999 (IntKind.i64.wrap (max (nth l k) 0 + r)) := fun h => by
    have h2 := HLT.out k (by omega)
    rw [IntWalk.i64_in _ (by omega)]
    omega
  obtain ⟨y, hy⟩ : ∃ y, min 9999 (IntKind.i64.wrap (max (nth l k) 0 + r)) = y := ⟨_, rfl⟩
  rw [hy] at hyy hS
  have HY := hid hyy
  clear hyy hy
  have HB := hid (fun (h : bE l = 0) => (bE_ok h).2 k (by rw [HL.out]; omega))
  have HUL := hid (show (l.set k y).length = m by rw [List.length_set]; exact HL.out)
  have HRL := hid (fun C S C' S' (hb : bE l = 0) h h' => rises_law (C := C) (S := S) (C' := C') (S' := S') HL.out hkm (HY.out (HB.out hb).2).2 hb (HY.out (HB.out hb).2).1 h h')
  obtain ⟨up, hup⟩ : ∃ up, l.set k y = up := ⟨_, rfl⟩
  rw [hup] at hS HUL HRL
  clear hup
  obtain ⟨B1, hB1⟩ : ∃ B, bE l = B := ⟨_, rfl⟩
  obtain ⟨B2, hB2⟩ : ∃ B, bE up = B := ⟨_, rfl⟩
  have HB1 := hid hB1
  have HB2 := hid hB2
  clear hB1 hB2
  repeat' (first
    | ((with_reducible show wpList _ _ _ (⟨some 46, _, _, _, _, _⟩ :: _) _ _); refine wpl_call (f := 13) Try.call13 (by kernel_rfl) ?_; refine ⟨_, (make_both _ l _ m c2 (hv2.ext hS.1) hmm), ?_⟩; rintro e w ⟨C1, S1, ao1, m1, co1, hLen1, hs1, hm1, ht1, hM1, rfl, hS2⟩; rw [HB1.out]; have HM1 := hid hM1; have HT1 := hid ht1; replace hS := hS.call1 hS2; clear hS2 hM1 ht1; refine ⟨_, rfl, ?_⟩; refine put_move ?_; go_step)
    | ((with_reducible show wpList _ _ _ (⟨some 51, _, _, _, _, _⟩ :: _) _ _); refine wpl_call (f := 13) Try.call13 (by kernel_rfl) ?_; refine ⟨_, (make_both _ up _ m c31 (hS.sl (by (repeat (first | with_reducible exact Pull.head | apply Pull.tail)))) hmm), ?_⟩; rintro e w ⟨C2, S2, ao2, m2, co2, hLen2, hs2, hm2, ht2, hM2, rfl, hS2⟩; rw [HB2.out]; have HM2 := hid hM2; have HT2 := hid ht2; replace hS := hS.call1 hS2; clear hS2 hM2 ht2; refine ⟨_, rfl, ?_⟩; refine put_move ?_; go_step)
    | go_skip
    | go_big_skip
    | ((with_reducible show wpList _ _ _ (⟨_, .move _, _, _, _, _⟩ :: _) _ _); (first | go_big_want | go_step); go_step)
    | ((with_reducible show wpList _ _ _ (⟨_, .assign _, _, _, _, _⟩ :: _) _ _); (first | go_big_want | go_step); go_step)
    | ((with_reducible show wpList _ _ _ (⟨_, .pick _ _ _, _, _, _, _⟩ :: _) _ _); first | (refine wplPickT rfl (by kernel_rfl) ?_; go_step) | (refine wplPickF rfl (by kernel_rfl) ?_; go_step))
    | ((with_reducible show wpList _ _ _ (⟨some 55, .binOp .neq 27 _ _ _, _, _, _, _⟩ :: _) _ _); first | (refine wplD _ (V.neq rfl rfl) (by kernel_rfl) (fun hB => ?_) (fun hB => ?_) <;> (try (have hF : False := (by omega); cases hF)) <;> go_step) | (refine wplB _ (V.neq rfl rfl) (by kernel_rfl) (fun hB => ?_) (fun hB => ?_) <;> (try (have hF : False := (absurd hB (by decide)); cases hF)) <;> go_step))
    | ((with_reducible show wpList _ _ _ (⟨_, .extract _ _, _, _, _, _⟩ :: _) _ _); first | (refine wplV _ (V.extract rfl rfl) (by kernel_rfl) ?_; go_step))
    | ((with_reducible show wpList _ _ _ (⟨_, .binOp .neq 27 _ _ _, _, _, _, _⟩ :: _) _ _); first | (refine wplV _ (V.neq rfl rfl) (by kernel_rfl) ?_; go_step))
    | ((with_reducible show wpList _ _ _ (⟨some 8, .alloc 25, _, _, _, _⟩ :: _) _ _); first | (refine wpl (by kernel_rfl) ?_; apply wp_allocP (o := ⟨some 8, _, _, _, _, _⟩) hS 25 rfl _ zp25; clear hS; intro g8 w hS; refine put_move ?_; go_step))
    | ((with_reducible show wpList _ _ _ (⟨_, .store 25 _ _, _, _, _, _⟩ :: _) _ _); first | (refine wpl (by kernel_rfl) ?_; apply wp_storePP hS 25 _ _ rfl _ rfl 17 (row_of rfl) _ _; (case hp => (repeat (first | with_reducible exact Pull.head | apply Pull.tail))); (case hy => rfl); (case hn => (repeat (first | exact Pre.nil | (apply Pre.ints; (case hn => (first | (with_reducible assumption) | exact Len.rep | exact Len.set (by with_reducible assumption) | exact Len.set Len.rep | exact Len.set (Len.set Len.rep))); (case h => omega); (case hm => rfl)) | apply Pre.val))); (case hn' => (repeat (first | exact Pre.nil | (apply Pre.ints; (case hn => (first | (with_reducible assumption) | exact Len.rep | exact Len.set (by with_reducible assumption) | exact Len.set Len.rep | exact Len.set (Len.set Len.rep))); (case h => omega); (case hm => rfl)) | apply Pre.val))); (case hv => rfl); (case hd => exact rfl); clear hS; intro w hS) | (refine wpl (by kernel_rfl) ?_; apply wp_storeA hS 25 _ _ rfl _ rfl 17 (row_of rfl) _ _; (case hp => (repeat (first | with_reducible exact Pull.head | apply Pull.tail))); (case hy => rfl); (case hm => (repeat (first | assumption | exact Len.rep | apply Len.set | ((with_reducible show Len (_ :: _) _); exact rfl)))); (case hd => exact rfl); clear hS; intro w hS) | (refine wpl (by kernel_rfl) ?_; apply wp_storeG hS 25 _ _ rfl _ rfl 17 (row_of rfl) _ _; (case hp => (repeat (first | with_reducible exact Pull.head | apply Pull.tail))); (case hy => rfl); (case hn => rfl); (case hn' => rfl); (case hv => rfl); (case hd => exact rfl); clear hS; intro w hS))
    | ((with_reducible show wpList _ _ _ (⟨some 10, .alloc 25, _, _, _, _⟩ :: _) _ _); first | (refine wpl (by kernel_rfl) ?_; apply wp_allocP (o := ⟨some 10, _, _, _, _, _⟩) hS 25 rfl _ zp25; clear hS; intro g10 w hS; refine put_move ?_; go_step))
    | ((fail_if_success (with_reducible show wpList _ _ _ (_ :: _) _ _)); go_step))
  · go_ret; exact ⟨rfl, hS.1⟩
  · go_ret; exact ⟨rfl, hS.1⟩
  have z1 : bE l = 0 := by rw [HB1.out]; omega
  have z2 : bE up = 0 := by rw [HB2.out]; omega
  have hr := HRL.out _ _ _ _ z1 (HM1.out z1) (HM2.out z2)
  have hc1 := cost_both HM1.out HT1.out HL.out
  have hc2 := cost_both HM2.out HT2.out HUL.out
  rw [← hc1.2 z1, ← hc2.2 z2] at hr
  have E1 := hid (hc1.1.trans z1)
  have E2 := hid (hc2.1.trans z2)
  obtain ⟨X, hX⟩ : ∃ X, costN C1 S1 l = X := ⟨_, rfl⟩
  obtain ⟨Y, hY⟩ : ∃ X, costN C2 S2 up = X := ⟨_, rfl⟩
  have HX := hid hX
  have HY2 := hid hY
  rw [hX, hY] at hr
  clear hX hY z1 z2 hc1 hc2
  repeat' (first
    | ((with_reducible show wpList _ _ _ (⟨some 63, _, _, _, _, _⟩ :: _) _ _); refine wpl_call (f := 12) Try.call12 (by kernel_rfl) ?_; refine ⟨_, (cost_any _ C1 S1 ao1 m1 co1 hLen1 (hS.sl (by (repeat (first | with_reducible exact Pull.head | apply Pull.tail)))) (by omega) l _ m c2 (hv2.ext hS.1) hmm), ?_⟩; rintro e w ⟨rfl, hE2⟩; rw [E1.out, HX.out]; replace hS := hS.ext hE2; clear hE2; refine ⟨_, rfl, ?_⟩; refine put_move ?_; go_step)
    | ((with_reducible show wpList _ _ _ (⟨some 69, _, _, _, _, _⟩ :: _) _ _); refine wpl_call (f := 12) Try.call12 (by kernel_rfl) ?_; refine ⟨_, (cost_any _ C2 S2 ao2 m2 co2 hLen2 (hS.sl (by (repeat (first | with_reducible exact Pull.head | apply Pull.tail)))) (by omega) up _ m c31 (hS.sl (by (repeat (first | with_reducible exact Pull.head | apply Pull.tail)))) hmm), ?_⟩; rintro e w ⟨rfl, hE2⟩; rw [E2.out, HY2.out]; replace hS := hS.ext hE2; clear hE2; refine ⟨_, rfl, ?_⟩; refine put_move ?_; go_step)
    | go_skip
    | go_big_skip
    | ((with_reducible show wpList _ _ _ (⟨_, .move _, _, _, _, _⟩ :: _) _ _); (first | go_big_want | go_step); go_step)
    | ((with_reducible show wpList _ _ _ (⟨_, .assign _, _, _, _, _⟩ :: _) _ _); (first | go_big_want | go_step); go_step)
    | ((with_reducible show wpList _ _ _ (⟨_, .pick _ _ _, _, _, _, _⟩ :: _) _ _); first | (refine wplPickT rfl (by kernel_rfl) ?_; go_step) | (refine wplPickF rfl (by kernel_rfl) ?_; go_step))
    | ((with_reducible show wpList _ _ _ (⟨some 73, .binOp .eql 27 _ _ _, _, _, _, _⟩ :: _) _ _); first | (refine wplD _ (V.eql rfl rfl) (by kernel_rfl) (fun hB => ?_) (fun hB => ?_) <;> (try (have hF : False := (by omega); cases hF)) <;> go_step) | (refine wplB _ (V.eql rfl rfl) (by kernel_rfl) (fun hB => ?_) (fun hB => ?_) <;> (try (have hF : False := (absurd hB (by decide)); cases hF)) <;> go_step))
    | ((with_reducible show wpList _ _ _ (⟨some 76, .binOp .eql 27 _ _ _, _, _, _, _⟩ :: _) _ _); first | (refine wplD _ (V.eql rfl rfl) (by kernel_rfl) (fun hB => ?_) (fun hB => ?_) <;> (try (have hF : False := (by omega); cases hF)) <;> go_step) | (refine wplB _ (V.eql rfl rfl) (by kernel_rfl) (fun hB => ?_) (fun hB => ?_) <;> (try (have hF : False := (absurd hB (by decide)); cases hF)) <;> go_step))
    | ((with_reducible show wpList _ _ _ (⟨_, .extract _ _, _, _, _, _⟩ :: _) _ _); first | (refine wplV _ (V.extract rfl rfl) (by kernel_rfl) ?_; go_step))
    | ((with_reducible show wpList _ _ _ (⟨_, .binOp .leq _ _ _ _, _, _, _, _⟩ :: _) _ _); first | (refine wplV _ (V.leq rfl rfl) (by kernel_rfl) ?_; go_step))
    | ((with_reducible show wpList _ _ _ (⟨_, .load 25 _, _, _, _, _⟩ :: _) _ _); first | (refine wpl (by kernel_rfl) ?_; apply wp_loadPP hS 25 _ rfl _ _ rfl 17 (row_of rfl) _; (case hp => (repeat (first | with_reducible exact Pull.head | apply Pull.tail))); (case hi => (repeat (first | (apply AtP.head; (repeat (first | exact Pre.nil | (apply Pre.ints; (case hn => (first | (with_reducible assumption) | exact Len.rep | exact Len.set (by with_reducible assumption) | exact Len.set Len.rep | exact Len.set (Len.set Len.rep))); (case h => omega); (case hm => rfl)) | apply Pre.val))) | (apply AtP.skipI; (case hn => (first | (with_reducible assumption) | exact Len.rep | exact Len.set (by with_reducible assumption) | exact Len.set Len.rep | exact Len.set (Len.set Len.rep))); (case h => omega); (case ho => rfl)) | apply AtP.skipV))); refine put_move ?_; go_step) | (refine wpl (by kernel_rfl) ?_; apply wp_loadA hS 25 _ rfl _ rfl 17 (row_of rfl) _; (case hp => (repeat (first | with_reducible exact Pull.head | apply Pull.tail))); refine put_move ?_; go_step) | (refine wpl (by kernel_rfl) ?_; apply wp_loadG hS 25 _ rfl _ rfl 17 (row_of rfl) _; (case hp => (repeat (first | with_reducible exact Pull.head | apply Pull.tail))); (case hn => rfl); refine put_move ?_; go_step) | (refine wpl (by kernel_rfl) ?_; apply wp_loadRW hS 25 _ rfl _ _ rfl 17 (row_of rfl) _; (case hc => with_reducible assumption); (case hn => rfl); refine put_move ?_; go_step))
    | ((fail_if_success (with_reducible show wpList _ _ _ (_ :: _) _ _)); go_step))
  all_goals (go_ret; exact ⟨ret_bool (decide_eq_true (by omega)), hS.1⟩)
end Go.Proofs.Ytembekkanggciaa
