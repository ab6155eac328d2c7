/- The law RunFirst: its walk, and the statement. -/
import Derived.Test.YthkdckmhmiebfaaRunKeep
import Derived.Test.YthkdckmhmiebfaaRunDec
import Derived.Test.YthkdckmhmiebfaaOpen
import Derived.Test.YthkdckmhmiebfaaOpenBlock
namespace Go.Proofs.Ythkdckmhmiebfaa
open Go.ChangeShapes Go.WideShapes Go.ChangeAt Go.RowKit
set_option linter.unusedVariables false
theorem tok_inj (m n : Int) (h : tok 0 m = tok 0 n) : m = n := by
  have h1 := (sback_sv m).1
  have h2 := (sback_sv n).1
  unfold tok at h
  simp only [Prod.mk.injEq] at h
  obtain ⟨_, h3, h4⟩ := h
  rw [← h1, ← h2, h4, show sz m = sz n by omega]
theorem trip_eq (x y : Tok) : ([x.1, x.2.1, x.2.2] = [y.1, y.2.1, y.2.2]) ↔ x = y := by
  constructor
  · intro h
    simp only [List.cons.injEq, and_true] at h
    exact Prod.ext h.1 (Prod.ext h.2.1 h.2.2)
  · intro h; rw [h]
theorem Sl.cap3 {w : World} {s n m c : Nat} {a : Option Addr} {cs : List Value} (h : Sl w s (.slice a n c) m cs) : n ≤ c := by
  obtain ⟨_, a', c', e, h1, _⟩ := h
  cases e; exact h1
theorem tail3 {w : World} {a : Option Addr} {N c : Nat} {t : Tok} {R : List Tok} (h : Sl w 3 (.slice a (N + 1) c) (N + 1) ((flt (t :: R)).map (Value.int .i64))) (hR : R.length = N) : Sl w 3 (.slice (cutAt a c 1 3) (N + 1 - 1) (c - 1)) (N + 1 - 1) ((flt R).map (Value.int .i64)) := by
  have h2 := h.cutAt 1 (N + 1) (by omega) (by omega)
  have e : (((flt (t :: R)).map (Value.int .i64)).drop (1 * 3)).take ((N + 1 - 1) * 3) = (flt R).map (Value.int .i64) := by
    rw [← List.map_drop, show flt (t :: R) = [t.1, t.2.1, t.2.2] ++ flt R from rfl, List.drop_left' (by rfl), List.take_of_length_le]
    rw [List.length_map, flt_len, hR]; omega
  rw [e] at h2
  exact h2
set_option maxRecDepth 100000 in
set_option maxHeartbeats 4000000 in
theorem RunFirst_walk {H : Type} {enc : TypeId × Value → H} {d0 d1 d2 : DataW H} {p0 p1 p2 : List MemPlace} {v0 v1 v2 : Value} {base : Nat} (W : World)
    (o0 : Value.okWide Try.prog W .any base 3 v0) (h0 : DataW.Trod enc Try.prog W 0 (fun _ => true) true 3 v0 d0 p0) (lt0 : ∀ x ∈ p0, x.block < W.heap.size)
    (o1 : Value.okWide Try.prog W .any base 3 v1) (h1 : DataW.Trod enc Try.prog W 0 (fun _ => true) true 3 v1 d1 p1) (lt1 : ∀ x ∈ p1, x.block < W.heap.size)
    (o2 : Value.okWide Try.prog W .any base 23 v2) (h2 : DataW.Trod enc Try.prog W 0 (fun _ => true) true 23 v2 d2 p2) (lt2 : ∀ x ∈ p2, x.block < W.heap.size)
    :
    Calls Try.prog 4 #[v0, v1, v2] W fun e w' => e = .returned (.bool true) ∧ Ext W w' := by
  obtain ⟨p, rfl, _, _⟩ := op_int Try.underlying3 o0 h0
  obtain ⟨q, rfl, _, _⟩ := op_int Try.underlying3 o1 h1
  obtain ⟨x, hx, rfl, hxr⟩ := op_block o2
  clear o0 h0 lt0 o1 h1 lt1 o2 h2 lt2 hxr
  have hX : Len x 64 := hx
  have hS := St.start W
  obtain ⟨E1, hE1⟩ : ∃ E, tokE p x = E := ⟨_, rfl⟩
  obtain ⟨E2, hE2⟩ : ∃ E, tokE q x = E := ⟨_, rfl⟩
  have H1 := hid hE1
  have H2 := hid hE2
  by_cases h1 : E1 = 0 ∧ E2 = 0
  case neg =>
    have h2 : E1 = 0 → E2 ≠ 0 := fun h h' => h1 ⟨h, h'⟩
    clear hE1 hE2 h1
    obtain ⟨L1, hL1⟩ : ∃ L, tokL p x = L := ⟨_, rfl⟩
    obtain ⟨L2, hL2⟩ : ∃ L, tokL q x = L := ⟨_, rfl⟩
    by_cases h0 : E1 = 0
    case pos =>
      replace h2 := h2 h0
      go_enter Try.func4, Try.ntmps4
      repeat' (first
        | ((with_reducible show wpList _ _ _ (⟨_, .call ⟨.value (.func 12), _, _⟩, _, _, _, _⟩ :: _) _ _); refine wpl_call (f := 12) Try.call12 rfl ?_; refine ⟨_, (ranned_any _), ?_⟩; rintro e w ⟨rfl, hE2⟩; replace hS := hS.ext hE2; clear hE2; refine ⟨_, rfl, ?_⟩; refine put_move ?_; go_step)
        | ((with_reducible show wpList _ _ _ (⟨some 16, _, _, _, _, _⟩ :: _) _ _); refine wpl_call (f := 13) Try.call13 rfl ?_; refine ⟨_, (tokensOf_any _ p x hX), ?_⟩; rintro e w ⟨a2, c2, rfl, hS2⟩; rw [H1.out]; replace hS := hS.ext hS2.1; clear hS2; refine ⟨_, rfl, ?_⟩; refine put_move ?_; go_step)
        | ((with_reducible show wpList _ _ _ (⟨some 22, _, _, _, _, _⟩ :: _) _ _); refine wpl_call (f := 13) Try.call13 rfl ?_; refine ⟨_, (tokensOf_any _ q x hX), ?_⟩; rintro e w ⟨a2, c2, rfl, hS2⟩; rw [H2.out]; replace hS := hS.ext hS2.1; clear hS2; refine ⟨_, rfl, ?_⟩; refine put_move ?_; go_step)
        | go_skip
        | go_big_skip
        | ((with_reducible show wpList _ _ _ (⟨_, .move _, _, _, _, _⟩ :: _) _ _); (first | go_big_want | go_step); go_step)
        | ((with_reducible show wpList _ _ _ (⟨_, .assign _, _, _, _, _⟩ :: _) _ _); (first | go_big_want | go_step); go_step)
        | ((with_reducible show wpList _ _ _ (⟨_, .pick _ _ _, _, _, _, _⟩ :: _) _ _); first | (refine wplPickT rfl (by kernel_rfl) ?_; go_step) | (refine wplPickF rfl (by kernel_rfl) ?_; go_step))
        | ((with_reducible show wpList _ _ _ (⟨some 26, .binOp .neq 26 _ _ _, _, _, _, _⟩ :: _) _ _); first | (refine wplD _ (V.neq rfl rfl) (by kernel_rfl) (fun hB => ?_) (fun hB => ?_) <;> (try (have hF : False := (by omega); cases hF)) <;> go_step) | (refine wplB _ (V.neq rfl rfl) (by kernel_rfl) (fun hB => ?_) (fun hB => ?_) <;> (try (have hF : False := (absurd hB (by decide)); cases hF)) <;> go_step))
        | ((with_reducible show wpList _ _ _ (⟨_, .unOp .not _ _, _, _, _, _⟩ :: _) _ _); first | (refine wplV _ (V.notD rfl) (by kernel_rfl) ?_; go_step) | (refine wplV _ (V.not rfl) (by kernel_rfl) ?_; go_step))
        | ((with_reducible show wpList _ _ _ (⟨_, .extract _ _, _, _, _, _⟩ :: _) _ _); first | (refine wplV _ (V.extract rfl rfl) (by kernel_rfl) ?_; go_step))
        | ((with_reducible show wpList _ _ _ (⟨_, .binOp .neq 26 _ _ _, _, _, _, _⟩ :: _) _ _); first | (refine wplV _ (V.neq rfl rfl) (by kernel_rfl) ?_; go_step))
        | ((with_reducible show wpList _ _ _ (⟨some 5, .box 23 _, _, _, _, _⟩ :: _) _ _); first | (refine wpl (by kernel_rfl) ?_; apply wp_boxA (o := ⟨some 5, _, _, _, _, _⟩) hS 23 _ rfl _ 64 rfl; (case hn => assumption); clear hS; intro g5 w hS; refine put_move ?_; go_step))
        | ((with_reducible show wpList _ _ _ (⟨_, .load 23 _, _, _, _, _⟩ :: _) _ _); first | (refine wpl (by kernel_rfl) ?_; apply wp_loadRP hS 23 _ rfl _ _ rfl 64 (row_of rfl) _; (case hp => (repeat (first | with_reducible exact Pull.head | apply Pull.tail))); (case hi => (repeat (first | (apply AtR.head; (first | (with_reducible assumption) | exact Len.rep | exact Len.set (by with_reducible assumption) | exact Len.set Len.rep | exact Len.set (Len.set Len.rep))) | (apply AtR.skipI; (case hn => (first | (with_reducible assumption) | exact Len.rep | exact Len.set (by with_reducible assumption) | exact Len.set Len.rep | exact Len.set (Len.set Len.rep))); (case h => omega); (case ho => rfl)) | apply AtR.skipV))); refine put_move ?_; go_step) | (refine wpl (by kernel_rfl) ?_; apply wp_loadRI hS 23 _ rfl _ _ rfl 64 (row_of rfl) _; (case hl => with_reducible assumption); (case hr => with_reducible assumption); refine put_move ?_; go_step) | (refine wpl (by kernel_rfl) ?_; apply wp_loadRO hS 23 _ rfl _ _ rfl 64 (row_of rfl) _ _ _ _ _; (case hp => (repeat (first | with_reducible exact Pull.head | apply Pull.tail))); (case hi => omega); refine put_move ?_; go_step) | (refine wpl (by kernel_rfl) ?_; apply wp_loadA hS 23 _ rfl _ rfl 64 (row_of rfl) _; (case hp => (repeat (first | with_reducible exact Pull.head | apply Pull.tail))); refine put_move ?_; go_step) | (refine wpl (by kernel_rfl) ?_; apply wp_loadG hS 23 _ rfl _ rfl 64 (row_of rfl) _; (case hp => (repeat (first | with_reducible exact Pull.head | apply Pull.tail))); (case hn => rfl); refine put_move ?_; go_step) | (refine wpl (by kernel_rfl) ?_; apply wp_loadRW hS 23 _ rfl _ _ rfl 64 (row_of rfl) _; (case hc => with_reducible assumption); (case hn => rfl); refine put_move ?_; go_step))
        | ((fail_if_success (with_reducible show wpList _ _ _ (_ :: _) _ _)); go_step))
      all_goals (try (have hF : False := (by omega); cases hF))
      all_goals (go_ret; exact ⟨rfl, hS.1⟩)
    case neg =>
      clear h2
      go_enter Try.func4, Try.ntmps4
      repeat' (first
        | ((with_reducible show wpList _ _ _ (⟨_, .call ⟨.value (.func 12), _, _⟩, _, _, _, _⟩ :: _) _ _); refine wpl_call (f := 12) Try.call12 rfl ?_; refine ⟨_, (ranned_any _), ?_⟩; rintro e w ⟨rfl, hE2⟩; replace hS := hS.ext hE2; clear hE2; refine ⟨_, rfl, ?_⟩; refine put_move ?_; go_step)
        | ((with_reducible show wpList _ _ _ (⟨some 16, _, _, _, _, _⟩ :: _) _ _); refine wpl_call (f := 13) Try.call13 rfl ?_; refine ⟨_, (tokensOf_any _ p x hX), ?_⟩; rintro e w ⟨a2, c2, rfl, hS2⟩; rw [H1.out]; replace hS := hS.ext hS2.1; clear hS2; refine ⟨_, rfl, ?_⟩; refine put_move ?_; go_step)
        | ((with_reducible show wpList _ _ _ (⟨some 22, _, _, _, _, _⟩ :: _) _ _); refine wpl_call (f := 13) Try.call13 rfl ?_; refine ⟨_, (tokensOf_any _ q x hX), ?_⟩; rintro e w ⟨a2, c2, rfl, hS2⟩; rw [H2.out]; replace hS := hS.ext hS2.1; clear hS2; refine ⟨_, rfl, ?_⟩; refine put_move ?_; go_step)
        | go_skip
        | go_big_skip
        | ((with_reducible show wpList _ _ _ (⟨_, .move _, _, _, _, _⟩ :: _) _ _); (first | go_big_want | go_step); go_step)
        | ((with_reducible show wpList _ _ _ (⟨_, .assign _, _, _, _, _⟩ :: _) _ _); (first | go_big_want | go_step); go_step)
        | ((with_reducible show wpList _ _ _ (⟨_, .pick _ _ _, _, _, _, _⟩ :: _) _ _); first | (refine wplPickT rfl (by kernel_rfl) ?_; go_step) | (refine wplPickF rfl (by kernel_rfl) ?_; go_step))
        | ((with_reducible show wpList _ _ _ (⟨some 26, .binOp .neq 26 _ _ _, _, _, _, _⟩ :: _) _ _); first | (refine wplD _ (V.neq rfl rfl) (by kernel_rfl) (fun hB => ?_) (fun hB => ?_) <;> (try (have hF : False := (by omega); cases hF)) <;> go_step) | (refine wplB _ (V.neq rfl rfl) (by kernel_rfl) (fun hB => ?_) (fun hB => ?_) <;> (try (have hF : False := (absurd hB (by decide)); cases hF)) <;> go_step))
        | ((with_reducible show wpList _ _ _ (⟨_, .unOp .not _ _, _, _, _, _⟩ :: _) _ _); first | (refine wplV _ (V.notD rfl) (by kernel_rfl) ?_; go_step) | (refine wplV _ (V.not rfl) (by kernel_rfl) ?_; go_step))
        | ((with_reducible show wpList _ _ _ (⟨_, .extract _ _, _, _, _, _⟩ :: _) _ _); first | (refine wplV _ (V.extract rfl rfl) (by kernel_rfl) ?_; go_step))
        | ((with_reducible show wpList _ _ _ (⟨_, .binOp .neq 26 _ _ _, _, _, _, _⟩ :: _) _ _); first | (refine wplV _ (V.neq rfl rfl) (by kernel_rfl) ?_; go_step))
        | ((with_reducible show wpList _ _ _ (⟨some 5, .box 23 _, _, _, _, _⟩ :: _) _ _); first | (refine wpl (by kernel_rfl) ?_; apply wp_boxA (o := ⟨some 5, _, _, _, _, _⟩) hS 23 _ rfl _ 64 rfl; (case hn => assumption); clear hS; intro g5 w hS; refine put_move ?_; go_step))
        | ((with_reducible show wpList _ _ _ (⟨_, .load 23 _, _, _, _, _⟩ :: _) _ _); first | (refine wpl (by kernel_rfl) ?_; apply wp_loadRP hS 23 _ rfl _ _ rfl 64 (row_of rfl) _; (case hp => (repeat (first | with_reducible exact Pull.head | apply Pull.tail))); (case hi => (repeat (first | (apply AtR.head; (first | (with_reducible assumption) | exact Len.rep | exact Len.set (by with_reducible assumption) | exact Len.set Len.rep | exact Len.set (Len.set Len.rep))) | (apply AtR.skipI; (case hn => (first | (with_reducible assumption) | exact Len.rep | exact Len.set (by with_reducible assumption) | exact Len.set Len.rep | exact Len.set (Len.set Len.rep))); (case h => omega); (case ho => rfl)) | apply AtR.skipV))); refine put_move ?_; go_step) | (refine wpl (by kernel_rfl) ?_; apply wp_loadRI hS 23 _ rfl _ _ rfl 64 (row_of rfl) _; (case hl => with_reducible assumption); (case hr => with_reducible assumption); refine put_move ?_; go_step) | (refine wpl (by kernel_rfl) ?_; apply wp_loadRO hS 23 _ rfl _ _ rfl 64 (row_of rfl) _ _ _ _ _; (case hp => (repeat (first | with_reducible exact Pull.head | apply Pull.tail))); (case hi => omega); refine put_move ?_; go_step) | (refine wpl (by kernel_rfl) ?_; apply wp_loadA hS 23 _ rfl _ rfl 64 (row_of rfl) _; (case hp => (repeat (first | with_reducible exact Pull.head | apply Pull.tail))); refine put_move ?_; go_step) | (refine wpl (by kernel_rfl) ?_; apply wp_loadG hS 23 _ rfl _ rfl 64 (row_of rfl) _; (case hp => (repeat (first | with_reducible exact Pull.head | apply Pull.tail))); (case hn => rfl); refine put_move ?_; go_step) | (refine wpl (by kernel_rfl) ?_; apply wp_loadRW hS 23 _ rfl _ _ rfl 64 (row_of rfl) _; (case hc => with_reducible assumption); (case hn => rfl); refine put_move ?_; go_step))
        | ((fail_if_success (with_reducible show wpList _ _ _ (_ :: _) _ _)); go_step))
      all_goals (try (have hF : False := (by omega); cases hF))
      all_goals (go_ret; exact ⟨rfl, hS.1⟩)
  obtain ⟨rfl, rfl⟩ := h1
  obtain ⟨z, hz⟩ : ∃ z, zto x = z := ⟨_, rfl⟩
  obtain ⟨R, hR⟩ : ∃ R, tks 0 (z.drop 1) = R := ⟨_, rfl⟩
  have hq1 := tok_inj (nth z 0 - p) (nth z 0 - q)
  obtain ⟨t1, ht1⟩ : ∃ t, tok 0 (nth z 0 - p) = t := ⟨_, rfl⟩
  obtain ⟨t2, ht2⟩ : ∃ t, tok 0 (nth z 0 - q) = t := ⟨_, rfl⟩
  have hL1 : tokL p x = t1 :: R := by rw [tokL, if_pos hE1, toksOf, hz, hR, ht1]
  have hL2 : tokL q x = t2 :: R := by rw [tokL, if_pos hE2, toksOf, hz, hR, ht2]
  have HIff : Hid ([t1.1, t1.2.1, t1.2.2] = [t2.1, t2.2.1, t2.2.2] ↔ p = q) := hid (by
    rw [trip_eq]
    constructor
    · intro h
      have := hq1 (by rw [ht1, ht2, h])
      omega
    · intro h; rw [← ht1, ← ht2, h])
  obtain ⟨N, hN⟩ : ∃ N, R.length = N := ⟨_, rfl⟩
  have hN64 : N ≤ 63 := by
    have := tks_len (z.drop 1) 0
    rw [hR, List.length_drop, ← hz, zto_len] at this
    omega
  have HL1 := hid hL1
  have HL2 := hid hL2
  have HN1 : Hid ((t1 :: R).length = N + 1) := hid (by rw [List.length_cons, hN])
  have HN2 : Hid ((t2 :: R).length = N + 1) := hid (by rw [List.length_cons, hN])
  have HNR := hid hN
  have hs1 : ((flt (t1 :: R)).drop 0).take 3 = [t1.1, t1.2.1, t1.2.2] := flt_get (t1 :: R) 0 t1 rfl
  have hs2 : ((flt (t2 :: R)).drop 0).take 3 = [t2.1, t2.2.1, t2.2.2] := flt_get (t2 :: R) 0 t2 rfl
  clear hq1 hL1 hL2 hE1 hE2 ht1 ht2 hN hR hz
  go_enter Try.func4, Try.ntmps4
  repeat' (first
    | ((with_reducible show wpList _ _ _ (⟨_, .call ⟨.value (.func 12), _, _⟩, _, _, _, _⟩ :: _) _ _); refine wpl_call (f := 12) Try.call12 rfl ?_; refine ⟨_, (ranned_any _), ?_⟩; rintro e w ⟨rfl, hE2⟩; replace hS := hS.ext hE2; clear hE2; refine ⟨_, rfl, ?_⟩; refine put_move ?_; go_step)
    | ((with_reducible show wpList _ _ _ (⟨some 16, _, _, _, _, _⟩ :: _) _ _); refine wpl_call (f := 13) Try.call13 rfl ?_; refine ⟨_, (tokensOf_any _ p x hX), ?_⟩; rintro e w ⟨a2, c2, rfl, hS2⟩; rw [HL1.out, HN1.out] at hS2; rw [H1.out, HL1.out, HN1.out]; replace hS := hS.call1 hS2; clear hS2; refine ⟨_, rfl, ?_⟩; refine put_move ?_; go_step)
    | ((with_reducible show wpList _ _ _ (⟨some 22, _, _, _, _, _⟩ :: _) _ _); refine wpl_call (f := 13) Try.call13 rfl ?_; refine ⟨_, (tokensOf_any _ q x hX), ?_⟩; rintro e w ⟨a3, c3, rfl, hS2⟩; rw [HL2.out, HN2.out] at hS2; rw [H2.out, HL2.out, HN2.out]; replace hS := hS.call1 hS2; clear hS2; refine ⟨_, rfl, ?_⟩; refine put_move ?_; go_step)
    | go_skip
    | go_big_skip
    | ((with_reducible show wpList _ _ _ (⟨_, .move _, _, _, _, _⟩ :: _) _ _); (first | go_big_want | go_step); go_step)
    | ((with_reducible show wpList _ _ _ (⟨_, .assign _, _, _, _, _⟩ :: _) _ _); (first | go_big_want | go_step); go_step)
    | ((with_reducible show wpList _ _ _ (⟨_, .pick _ _ _, _, _, _, _⟩ :: _) _ _); first | (refine wplPickT rfl (by kernel_rfl) ?_; go_step) | (refine wplPickF rfl (by kernel_rfl) ?_; go_step))
    | ((with_reducible show wpList _ _ _ (⟨some 26, .binOp .neq 26 _ _ _, _, _, _, _⟩ :: _) _ _); first | (refine wplD _ (V.neq rfl rfl) (by kernel_rfl) (fun hB => ?_) (fun hB => ?_) <;> (try (have hF : False := (by omega); cases hF)) <;> go_step) | (refine wplB _ (V.neq rfl rfl) (by kernel_rfl) (fun hB => ?_) (fun hB => ?_) <;> (try (have hF : False := (absurd hB (by decide)); cases hF)) <;> go_step))
    | ((with_reducible show wpList _ _ _ (⟨_, .unOp .not _ _, _, _, _, _⟩ :: _) _ _); first | (refine wplV _ (V.notD rfl) (by kernel_rfl) ?_; go_step) | (refine wplV _ (V.not rfl) (by kernel_rfl) ?_; go_step))
    | ((with_reducible show wpList _ _ _ (⟨_, .extract _ _, _, _, _, _⟩ :: _) _ _); first | (refine wplV _ (V.extract rfl rfl) (by kernel_rfl) ?_; go_step))
    | ((with_reducible show wpList _ _ _ (⟨_, .binOp .neq 26 _ _ _, _, _, _, _⟩ :: _) _ _); first | (refine wplV _ (V.neq rfl rfl) (by kernel_rfl) ?_; go_step))
    | ((with_reducible show wpList _ _ _ (⟨some 5, .box 23 _, _, _, _, _⟩ :: _) _ _); first | (refine wpl (by kernel_rfl) ?_; apply wp_boxA (o := ⟨some 5, _, _, _, _, _⟩) hS 23 _ rfl _ 64 rfl; (case hn => assumption); clear hS; intro g5 w hS; refine put_move ?_; go_step))
    | ((with_reducible show wpList _ _ _ (⟨_, .load 23 _, _, _, _, _⟩ :: _) _ _); first | (refine wpl (by kernel_rfl) ?_; apply wp_loadRP hS 23 _ rfl _ _ rfl 64 (row_of rfl) _; (case hp => (repeat (first | with_reducible exact Pull.head | apply Pull.tail))); (case hi => (repeat (first | (apply AtR.head; (first | (with_reducible assumption) | exact Len.rep | exact Len.set (by with_reducible assumption) | exact Len.set Len.rep | exact Len.set (Len.set Len.rep))) | (apply AtR.skipI; (case hn => (first | (with_reducible assumption) | exact Len.rep | exact Len.set (by with_reducible assumption) | exact Len.set Len.rep | exact Len.set (Len.set Len.rep))); (case h => omega); (case ho => rfl)) | apply AtR.skipV))); refine put_move ?_; go_step) | (refine wpl (by kernel_rfl) ?_; apply wp_loadRI hS 23 _ rfl _ _ rfl 64 (row_of rfl) _; (case hl => with_reducible assumption); (case hr => with_reducible assumption); refine put_move ?_; go_step) | (refine wpl (by kernel_rfl) ?_; apply wp_loadRO hS 23 _ rfl _ _ rfl 64 (row_of rfl) _ _ _ _ _; (case hp => (repeat (first | with_reducible exact Pull.head | apply Pull.tail))); (case hi => omega); refine put_move ?_; go_step) | (refine wpl (by kernel_rfl) ?_; apply wp_loadA hS 23 _ rfl _ rfl 64 (row_of rfl) _; (case hp => (repeat (first | with_reducible exact Pull.head | apply Pull.tail))); refine put_move ?_; go_step) | (refine wpl (by kernel_rfl) ?_; apply wp_loadG hS 23 _ rfl _ rfl 64 (row_of rfl) _; (case hp => (repeat (first | with_reducible exact Pull.head | apply Pull.tail))); (case hn => rfl); refine put_move ?_; go_step) | (refine wpl (by kernel_rfl) ?_; apply wp_loadRW hS 23 _ rfl _ _ rfl 64 (row_of rfl) _; (case hc => with_reducible assumption); (case hn => rfl); refine put_move ?_; go_step))
    | ((fail_if_success (with_reducible show wpList _ _ _ (_ :: _) _ _)); go_step))
  all_goals (try (have hF : False := (by omega); cases hF))
  have hc2 := (hS.sl (a := a2) (e := 32) (s := 3) (by (repeat (first | with_reducible exact Pull.head | apply Pull.tail)))).cap3
  have hc3 := (hS.sl (a := a3) (e := 32) (s := 3) (by (repeat (first | with_reducible exact Pull.head | apply Pull.tail)))).cap3
  obtain ⟨b2, rfl⟩ := own_some (a := a2) hS (by (repeat (first | with_reducible exact Pull.head | apply Pull.tail))) (by omega)
  obtain ⟨b3, rfl⟩ := own_some (a := a3) hS (by (repeat (first | with_reducible exact Pull.head | apply Pull.tail))) (by omega)
  refine drawn_lit [] (fun w => St W w [own 32 3 (some ⟨b2, 0, none⟩) (N + 1) c2 ((flt (t1 :: R)).map (Value.int .i64)), own 32 3 (some ⟨b3, 0, none⟩) (N + 1) c3 ((flt (t2 :: R)).map (Value.int .i64))]) (by kernel_rfl) ?_
  replace hS := hS.drew
  focus
    refine takeM 0 _ (by (repeat (first | with_reducible exact AtL.head | apply AtL.tail))) (by kernel_rfl) (by kernel_rfl) (by kernel_rfl) (by exact fun _ _ _ _ h => h) rfl ?_
    go_step
    first | (refine takeV 1 _ (by (repeat (first | with_reducible exact AtL.head | apply AtL.tail))) (by kernel_rfl) (by kernel_rfl) (by kernel_rfl) (by exact fun _ _ _ _ h => h) (V.len Try.underlying25 rfl) rfl ?_)
    go_step
    refine takeM 2 _ (by (repeat (first | with_reducible exact AtL.head | apply AtL.tail))) (by kernel_rfl) (by kernel_rfl) (by kernel_rfl) (by exact fun _ _ _ _ h => h) rfl ?_
    go_step
    first | (refine takeV 3 _ (by (repeat (first | with_reducible exact AtL.head | apply AtL.tail))) (by kernel_rfl) (by kernel_rfl) (by kernel_rfl) (by exact fun _ _ _ _ h => h) (V.len Try.underlying25 rfl) rfl ?_)
    go_step
    first | (refine takeD 4 _ (by (repeat (first | with_reducible exact AtL.head | apply AtL.tail))) (by kernel_rfl) (by kernel_rfl) (by kernel_rfl) (by exact fun _ _ _ _ h => h) (V.eql rfl rfl) rfl (fun hB => ?_) (fun hB => ?_)) | (refine takeB 4 _ (by (repeat (first | with_reducible exact AtL.head | apply AtL.tail))) (by kernel_rfl) (by kernel_rfl) (by kernel_rfl) (by exact fun _ _ _ _ h => h) (V.eql rfl rfl) rfl (fun hB => ?_) (fun hB => ?_))
    rotate_left 1
    focus
      (try (have hF : False := (by omega); cases hF))
      all_goals
        go_step
        refine takeM 5 _ (by (repeat (first | with_reducible exact AtL.head | apply AtL.tail))) (by kernel_rfl) (by kernel_rfl) (by kernel_rfl) (by exact fun _ _ _ _ h => h) rfl ?_
        go_step
        refine takeN 6 (by (repeat (first | with_reducible exact AtL.head | apply AtL.tail))) (by kernel_rfl) (by kernel_rfl) (by kernel_rfl) (by exact fun _ _ _ _ h => h) rfl ?_
        go_step
        refine takeN 7 (by (repeat (first | with_reducible exact AtL.head | apply AtL.tail))) (by kernel_rfl) (by kernel_rfl) (by kernel_rfl) (by exact fun _ _ _ _ h => h) rfl ?_
        go_step
        refine takeN 8 (by (repeat (first | with_reducible exact AtL.head | apply AtL.tail))) (by kernel_rfl) (by kernel_rfl) (by kernel_rfl) (by exact fun _ _ _ _ h => h) rfl ?_
        go_step
        refine takeN 9 (by (repeat (first | with_reducible exact AtL.head | apply AtL.tail))) (by kernel_rfl) (by kernel_rfl) (by kernel_rfl) (by exact fun _ _ _ _ h => h) rfl ?_
        go_step
        refine takeN 10 (by (repeat (first | with_reducible exact AtL.head | apply AtL.tail))) (by kernel_rfl) (by kernel_rfl) (by kernel_rfl) (by exact fun _ _ _ _ h => h) rfl ?_
        go_step
        refine takePickF 11 (by (repeat (first | with_reducible exact AtL.head | apply AtL.tail))) (by kernel_rfl) (by kernel_rfl) (by kernel_rfl) (by exact fun _ _ _ _ h => h) rfl rfl ?_
        go_step
        refine takeM 12 _ (by (repeat (first | with_reducible exact AtL.head | apply AtL.tail))) (by kernel_rfl) (by kernel_rfl) (by kernel_rfl) (by exact fun _ _ _ _ h => h) rfl ?_
        go_step
        refine takeN 13 (by (repeat (first | with_reducible exact AtL.head | apply AtL.tail))) (by kernel_rfl) (by kernel_rfl) (by kernel_rfl) (by exact fun _ _ _ _ h => h) rfl ?_
        go_step
        refine takeN 14 (by (repeat (first | with_reducible exact AtL.head | apply AtL.tail))) (by kernel_rfl) (by kernel_rfl) (by kernel_rfl) (by exact fun _ _ _ _ h => h) rfl ?_
        go_step
        refine takeN 15 (by (repeat (first | with_reducible exact AtL.head | apply AtL.tail))) (by kernel_rfl) (by kernel_rfl) (by kernel_rfl) (by exact fun _ _ _ _ h => h) rfl ?_
        go_step
        refine takeN 16 (by (repeat (first | with_reducible exact AtL.head | apply AtL.tail))) (by kernel_rfl) (by kernel_rfl) (by kernel_rfl) (by exact fun _ _ _ _ h => h) rfl ?_
        go_step
        refine takeN 17 (by (repeat (first | with_reducible exact AtL.head | apply AtL.tail))) (by kernel_rfl) (by kernel_rfl) (by kernel_rfl) (by exact fun _ _ _ _ h => h) rfl ?_
        go_step
        refine takeN 18 (by (repeat (first | with_reducible exact AtL.head | apply AtL.tail))) (by kernel_rfl) (by kernel_rfl) (by kernel_rfl) (by exact fun _ _ _ _ h => h) rfl ?_
        go_step
        refine takeN 19 (by (repeat (first | with_reducible exact AtL.head | apply AtL.tail))) (by kernel_rfl) (by kernel_rfl) (by kernel_rfl) (by exact fun _ _ _ _ h => h) rfl ?_
        go_step
        refine takeN 20 (by (repeat (first | with_reducible exact AtL.head | apply AtL.tail))) (by kernel_rfl) (by kernel_rfl) (by kernel_rfl) (by exact fun _ _ _ _ h => h) rfl ?_
        go_step
        refine takeN 21 (by (repeat (first | with_reducible exact AtL.head | apply AtL.tail))) (by kernel_rfl) (by kernel_rfl) (by kernel_rfl) (by exact fun _ _ _ _ h => h) rfl ?_
        go_step
        refine takeN 22 (by (repeat (first | with_reducible exact AtL.head | apply AtL.tail))) (by kernel_rfl) (by kernel_rfl) (by kernel_rfl) (by exact fun _ _ _ _ h => h) rfl ?_
        go_step
        refine takeN 23 (by (repeat (first | with_reducible exact AtL.head | apply AtL.tail))) (by kernel_rfl) (by kernel_rfl) (by kernel_rfl) (by exact fun _ _ _ _ h => h) rfl ?_
        go_step
        refine takePickF 24 (by (repeat (first | with_reducible exact AtL.head | apply AtL.tail))) (by kernel_rfl) (by kernel_rfl) (by kernel_rfl) (by exact fun _ _ _ _ h => h) rfl rfl ?_
        go_step
        refine takeA 25 _ (by (repeat (first | with_reducible exact AtL.head | apply AtL.tail))) (by kernel_rfl) (by kernel_rfl) (by kernel_rfl) (by exact fun _ _ _ _ h => h) rfl ?_
        go_step
        refine drawn_done (by kernel_rfl) ?_ _
    rotate_right 1
    focus
      (try (have hF : False := (by omega); cases hF))
      all_goals
        go_step
        refine takeM 5 _ (by (repeat (first | with_reducible exact AtL.head | apply AtL.tail))) (by kernel_rfl) (by kernel_rfl) (by kernel_rfl) (by exact fun _ _ _ _ h => h) rfl ?_
        go_step
        refine takeM 6 _ (by (repeat (first | with_reducible exact AtL.head | apply AtL.tail))) (by kernel_rfl) (by kernel_rfl) (by kernel_rfl) (by exact fun _ _ _ _ h => h) rfl ?_
        go_step
        first | (refine takeV 7 _ (by (repeat (first | with_reducible exact AtL.head | apply AtL.tail))) (by kernel_rfl) (by kernel_rfl) (by kernel_rfl) (by exact fun _ _ _ _ h => h) (V.slice Try.underlying25 isz32 rfl (by (first | exact Lo.none | exact Lo.some rfl (by (repeat (first | exact IsN.auto | with_reducible apply IsN.add | with_reducible apply IsN.sub | with_reducible apply IsN.mul | with_reducible apply IsN.div | with_reducible apply IsN.mod | with_reducible apply IsN.min | with_reducible apply IsN.max | (with_reducible show (_ : Nat) ≤ _; omega) | exact IsN.toNat (by omega)))))) (by (first | exact Up.none | exact Up.some rfl (by (repeat (first | exact IsN.auto | with_reducible apply IsN.add | with_reducible apply IsN.sub | with_reducible apply IsN.mul | with_reducible apply IsN.div | with_reducible apply IsN.mod | with_reducible apply IsN.min | with_reducible apply IsN.max | (with_reducible show (_ : Nat) ≤ _; omega) | exact IsN.toNat (by omega)))))) (by omega) (by omega)) rfl ?_)
        go_step
        refine takeM 8 _ (by (repeat (first | with_reducible exact AtL.head | apply AtL.tail))) (by kernel_rfl) (by kernel_rfl) (by kernel_rfl) (by exact fun _ _ _ _ h => h) rfl ?_
        go_step
        first | (refine takeV 9 _ (by (repeat (first | with_reducible exact AtL.head | apply AtL.tail))) (by kernel_rfl) (by kernel_rfl) (by kernel_rfl) (by exact fun _ _ _ _ h => h) (V.slice Try.underlying25 isz32 rfl (by (first | exact Lo.none | exact Lo.some rfl (by (repeat (first | exact IsN.auto | with_reducible apply IsN.add | with_reducible apply IsN.sub | with_reducible apply IsN.mul | with_reducible apply IsN.div | with_reducible apply IsN.mod | with_reducible apply IsN.min | with_reducible apply IsN.max | (with_reducible show (_ : Nat) ≤ _; omega) | exact IsN.toNat (by omega)))))) (by (first | exact Up.none | exact Up.some rfl (by (repeat (first | exact IsN.auto | with_reducible apply IsN.add | with_reducible apply IsN.sub | with_reducible apply IsN.mul | with_reducible apply IsN.div | with_reducible apply IsN.mod | with_reducible apply IsN.min | with_reducible apply IsN.max | (with_reducible show (_ : Nat) ≤ _; omega) | exact IsN.toNat (by omega)))))) (by omega) (by omega)) rfl ?_)
        go_step
        refine branch1 10 (by (repeat (first | with_reducible exact AtL.head | apply AtL.tail))) rfl (by kernel_rfl) ?_
        refine wp_callF (f := 15) rfl Try.call15 (eqTok_any _ _ _ (N + 1 - 1) _ (N + 1 - 1) _ (flt R) (flt R) (tail3 (hS.sl (a := some ⟨b2, 0, none⟩) (by (repeat (first | with_reducible exact Pull.head | apply Pull.tail)))) HNR.out) (tail3 (hS.sl (a := some ⟨b3, 0, none⟩) (by (repeat (first | with_reducible exact Pull.head | apply Pull.tail)))) HNR.out) (by omega) (by omega)) ?_; rintro e w ⟨he, hE2⟩; rw [decide_eq_true (show flt R = flt R from rfl)] at he; subst he; replace hS := hS.ext hE2; clear hE2; refine ⟨_, rfl, ?_⟩
        refine ⟨fun _ _ => hS.sub (by (repeat (first | exact Sub.nil | with_reducible exact Sub.refl | (refine Sub.cons (by (repeat (first | with_reducible exact Pull.head | apply Pull.tail))) ?_) | apply Sub.skip))), ?_⟩
        refine drawn_move ?_
        go_step
        refine takePickT 11 (by (repeat (first | with_reducible exact AtL.head | apply AtL.tail))) (by kernel_rfl) (by kernel_rfl) (by kernel_rfl) (by exact fun _ _ _ _ h => h) rfl rfl ?_
        go_step
        refine takeM 12 _ (by (repeat (first | with_reducible exact AtL.head | apply AtL.tail))) (by kernel_rfl) (by kernel_rfl) (by kernel_rfl) (by exact fun _ _ _ _ h => h) rfl ?_
        go_step
        refine takeM 13 _ (by (repeat (first | with_reducible exact AtL.head | apply AtL.tail))) (by kernel_rfl) (by kernel_rfl) (by kernel_rfl) (by exact fun _ _ _ _ h => h) rfl ?_
        go_step
        first | (refine takeV 14 _ (by (repeat (first | with_reducible exact AtL.head | apply AtL.tail))) (by kernel_rfl) (by kernel_rfl) (by kernel_rfl) (by exact fun _ _ _ _ h => h) (V.indexSl Try.underlying25 isz32 rfl rfl (show IsN 0 0 from rfl) (by omega) (show 0 * 3 = 0 from rfl) (by first | with_reducible exact Nat.zero_add _ | with_reducible exact Nat.add_zero _ | exact rfl)) rfl ?_)
        go_step
        apply takeS 15 (by (repeat (first | with_reducible exact AtL.head | apply AtL.tail))) (by kernel_rfl) (by kernel_rfl) (by kernel_rfl) (by exact fun _ _ _ _ h => h) [19, 23, 24, 25] (by kernel_rfl) (hS.sub (by (repeat (first | exact Sub.nil | with_reducible exact Sub.refl | (refine Sub.cons (by (repeat (first | with_reducible exact Pull.head | apply Pull.tail))) ?_) | apply Sub.skip))))
        case hfr => intro w hS; (first | (refine wpl (by kernel_rfl) ?_; apply wp_loadROE hS 32 _ rfl _ _ rfl 3 (row_of rfl) _ _ _ _ _; (case hp => (repeat (first | with_reducible exact Pull.head | apply Pull.tail))); (case hi => omega); (case hl' => with_reducible assumption); refine put_move ?_; go_step) | (refine wpl (by kernel_rfl) ?_; apply wp_loadRI hS 32 _ rfl _ _ rfl 3 (row_of rfl) _; (case hl => with_reducible assumption); (case hr => with_reducible assumption); refine put_move ?_; go_step) | (refine wpl (by kernel_rfl) ?_; apply wp_loadRO hS 32 _ rfl _ _ rfl 3 (row_of rfl) _ _ _ _ _; (case hp => (repeat (first | with_reducible exact Pull.head | apply Pull.tail))); (case hi => omega); refine put_move ?_; go_step) | (refine wpl (by kernel_rfl) ?_; apply wp_loadA hS 32 _ rfl _ rfl 3 (row_of rfl) _; (case hp => (repeat (first | with_reducible exact Pull.head | apply Pull.tail))); refine put_move ?_; go_step) | (refine wpl (by kernel_rfl) ?_; apply wp_loadG hS 32 _ rfl _ rfl 3 (row_of rfl) _; (case hp => (repeat (first | with_reducible exact Pull.head | apply Pull.tail))); (case hn => rfl); refine put_move ?_; go_step) | (refine wpl (by kernel_rfl) ?_; apply wp_loadRW hS 32 _ rfl _ _ rfl 3 (row_of rfl) _; (case hc => with_reducible assumption); (case hn => rfl); refine put_move ?_; go_step)); refine wpList_nil ?_; exact ⟨rfl, rfl⟩
        case hd => rfl
        refine takeM 16 _ (by (repeat (first | with_reducible exact AtL.head | apply AtL.tail))) (by kernel_rfl) (by kernel_rfl) (by kernel_rfl) (by exact fun _ _ _ _ h => h) rfl ?_
        go_step
        first | (refine takeV 17 _ (by (repeat (first | with_reducible exact AtL.head | apply AtL.tail))) (by kernel_rfl) (by kernel_rfl) (by kernel_rfl) (by exact fun _ _ _ _ h => h) (V.indexSl Try.underlying25 isz32 rfl rfl (show IsN 0 0 from rfl) (by omega) (show 0 * 3 = 0 from rfl) (by first | with_reducible exact Nat.zero_add _ | with_reducible exact Nat.add_zero _ | exact rfl)) rfl ?_)
        go_step
        apply takeS 18 (by (repeat (first | with_reducible exact AtL.head | apply AtL.tail))) (by kernel_rfl) (by kernel_rfl) (by kernel_rfl) (by exact fun _ _ _ _ h => h) [19, 23, 24, 25] (by kernel_rfl) (hS.sub (by (repeat (first | exact Sub.nil | with_reducible exact Sub.refl | (refine Sub.cons (by (repeat (first | with_reducible exact Pull.head | apply Pull.tail))) ?_) | apply Sub.skip))))
        case hfr => intro w hS; (first | (refine wpl (by kernel_rfl) ?_; apply wp_loadROE hS 32 _ rfl _ _ rfl 3 (row_of rfl) _ _ _ _ _; (case hp => (repeat (first | with_reducible exact Pull.head | apply Pull.tail))); (case hi => omega); (case hl' => with_reducible assumption); refine put_move ?_; go_step) | (refine wpl (by kernel_rfl) ?_; apply wp_loadRI hS 32 _ rfl _ _ rfl 3 (row_of rfl) _; (case hl => with_reducible assumption); (case hr => with_reducible assumption); refine put_move ?_; go_step) | (refine wpl (by kernel_rfl) ?_; apply wp_loadRO hS 32 _ rfl _ _ rfl 3 (row_of rfl) _ _ _ _ _; (case hp => (repeat (first | with_reducible exact Pull.head | apply Pull.tail))); (case hi => omega); refine put_move ?_; go_step) | (refine wpl (by kernel_rfl) ?_; apply wp_loadA hS 32 _ rfl _ rfl 3 (row_of rfl) _; (case hp => (repeat (first | with_reducible exact Pull.head | apply Pull.tail))); refine put_move ?_; go_step) | (refine wpl (by kernel_rfl) ?_; apply wp_loadG hS 32 _ rfl _ rfl 3 (row_of rfl) _; (case hp => (repeat (first | with_reducible exact Pull.head | apply Pull.tail))); (case hn => rfl); refine put_move ?_; go_step) | (refine wpl (by kernel_rfl) ?_; apply wp_loadRW hS 32 _ rfl _ _ rfl 3 (row_of rfl) _; (case hc => with_reducible assumption); (case hn => rfl); refine put_move ?_; go_step)); refine wpList_nil ?_; exact ⟨rfl, rfl⟩
        case hd => rfl
        first | (refine takeV 19 _ (by (repeat (first | with_reducible exact AtL.head | apply AtL.tail))) (by kernel_rfl) (by kernel_rfl) (by kernel_rfl) (by exact fun _ _ _ _ h => h) (V.eqlA eqt32 rfl rfl (by (repeat (first | assumption | exact Len.rep | apply Len.set | exact rfl))) (by (repeat (first | assumption | exact Len.rep | apply Len.set | exact rfl)))) rfl ?_)
        go_step
        refine takeM 20 _ (by (repeat (first | with_reducible exact AtL.head | apply AtL.tail))) (by kernel_rfl) (by kernel_rfl) (by kernel_rfl) (by exact fun _ _ _ _ h => h) rfl ?_
        go_step
        refine takeM 21 _ (by (repeat (first | with_reducible exact AtL.head | apply AtL.tail))) (by kernel_rfl) (by kernel_rfl) (by kernel_rfl) (by exact fun _ _ _ _ h => h) rfl ?_
        go_step
        first | (refine takeV 22 _ (by (repeat (first | with_reducible exact AtL.head | apply AtL.tail))) (by kernel_rfl) (by kernel_rfl) (by kernel_rfl) (by exact fun _ _ _ _ h => h) (V.eql rfl rfl) rfl ?_)
        go_step
        first | (refine takeV 23 _ (by (repeat (first | with_reducible exact AtL.head | apply AtL.tail))) (by kernel_rfl) (by kernel_rfl) (by kernel_rfl) (by exact fun _ _ _ _ h => h) (V.eqlBD Try.underlying4 rfl rfl) rfl ?_) | (refine takeV 23 _ (by (repeat (first | with_reducible exact AtL.head | apply AtL.tail))) (by kernel_rfl) (by kernel_rfl) (by kernel_rfl) (by exact fun _ _ _ _ h => h) (V.eqlB Try.underlying4 rfl rfl) rfl ?_)
        go_step
        refine takePickT 24 (by (repeat (first | with_reducible exact AtL.head | apply AtL.tail))) (by kernel_rfl) (by kernel_rfl) (by kernel_rfl) (by exact fun _ _ _ _ h => h) rfl rfl ?_
        go_step
        refine takeA 25 _ (by (repeat (first | with_reducible exact AtL.head | apply AtL.tail))) (by kernel_rfl) (by kernel_rfl) (by kernel_rfl) (by exact fun _ _ _ _ h => h) rfl ?_
        go_step
        refine drawn_done (by kernel_rfl) ?_ _
  repeat' (first
    | go_skip
    | go_big_skip
    | ((with_reducible show wpList _ _ _ (⟨_, .move _, _, _, _, _⟩ :: _) _ _); (first | go_big_want | go_step); go_step)
    | ((with_reducible show wpList _ _ _ (⟨_, .assign _, _, _, _, _⟩ :: _) _ _); (first | go_big_want | go_step); go_step)
    | ((with_reducible show wpList _ _ _ (⟨_, .pick _ _ _, _, _, _, _⟩ :: _) _ _); first | (refine wplPickT rfl (by kernel_rfl) ?_; go_step) | (refine wplPickF rfl (by kernel_rfl) ?_; go_step))
    | ((with_reducible show wpList _ _ _ (⟨some 35, .binOp .eql 3 _ _ _, _, _, _, _⟩ :: _) _ _); first | (refine wplD _ (V.eql rfl rfl) (by kernel_rfl) (fun hB => ?_) (fun hB => ?_) <;> (try (have hF : False := (by omega); cases hF)) <;> go_step) | (refine wplB _ (V.eql rfl rfl) (by kernel_rfl) (fun hB => ?_) (fun hB => ?_) <;> (try (have hF : False := (absurd hB (by decide)); cases hF)) <;> go_step))
    | ((with_reducible show wpList _ _ _ (⟨_, .call ⟨.builtin .len, _, _⟩, _, _, _, _⟩ :: _) _ _); first | (refine wplV _ (V.len Try.underlying25 rfl) (by kernel_rfl) ?_; go_step))
    | ((with_reducible show wpList _ _ _ (⟨_, .slice 25 _ _ _ _, _, _, _, _⟩ :: _) _ _); first | (refine wplV _ (V.slice Try.underlying25 isz32 rfl (by (first | exact Lo.none | exact Lo.some rfl (by (repeat (first | exact IsN.auto | with_reducible apply IsN.add | with_reducible apply IsN.sub | with_reducible apply IsN.mul | with_reducible apply IsN.div | with_reducible apply IsN.mod | with_reducible apply IsN.min | with_reducible apply IsN.max | (with_reducible show (_ : Nat) ≤ _; omega) | exact IsN.toNat (by omega)))))) (by (first | exact Up.none | exact Up.some rfl (by (repeat (first | exact IsN.auto | with_reducible apply IsN.add | with_reducible apply IsN.sub | with_reducible apply IsN.mul | with_reducible apply IsN.div | with_reducible apply IsN.mod | with_reducible apply IsN.min | with_reducible apply IsN.max | (with_reducible show (_ : Nat) ≤ _; omega) | exact IsN.toNat (by omega)))))) (by omega) (by omega)) (by kernel_rfl) ?_; go_step))
    | ((with_reducible show wpList _ _ _ (⟨some 45, .indexAddr 25 _ _, _, _, _, _⟩ :: _) _ _); first | (refine wplV _ (V.indexSl Try.underlying25 isz32 rfl rfl (show IsN 0 0 from rfl) (by omega) (show 0 * 3 = 0 from rfl) (by first | with_reducible exact Nat.zero_add _ | with_reducible exact Nat.add_zero _ | exact rfl)) (by kernel_rfl) ?_; go_step) | (refine wpl_indexS (by with_reducible assumption) Try.underlying25 isz32 rfl rfl (show IsN 0 0 from rfl) (by omega) rfl ?_; intro b45 o45 hl45 hc45; go_step) | (refine wpl_indexW (by with_reducible assumption) Try.underlying25 isz32 rfl rfl (show IsN 0 0 from rfl) (by omega) rfl ?_; intro b45 o45 hc45; go_step) | (refine wpl_indexO hS rfl (by (repeat (first | with_reducible exact Pull.head | apply Pull.tail))) Try.underlying25 isz32 rfl (show IsN 0 0 from rfl) (by omega) (show 0 * 3 = 0 from rfl) rfl ?_; (first | (rintro b45 rfl) | (intro b45 hb45; cases hb45)); go_step))
    | ((with_reducible show wpList _ _ _ (⟨some 48, .indexAddr 25 _ _, _, _, _, _⟩ :: _) _ _); first | (refine wplV _ (V.indexSl Try.underlying25 isz32 rfl rfl (show IsN 0 0 from rfl) (by omega) (show 0 * 3 = 0 from rfl) (by first | with_reducible exact Nat.zero_add _ | with_reducible exact Nat.add_zero _ | exact rfl)) (by kernel_rfl) ?_; go_step) | (refine wpl_indexS (by with_reducible assumption) Try.underlying25 isz32 rfl rfl (show IsN 0 0 from rfl) (by omega) rfl ?_; intro b48 o48 hl48 hc48; go_step) | (refine wpl_indexW (by with_reducible assumption) Try.underlying25 isz32 rfl rfl (show IsN 0 0 from rfl) (by omega) rfl ?_; intro b48 o48 hc48; go_step) | (refine wpl_indexO hS rfl (by (repeat (first | with_reducible exact Pull.head | apply Pull.tail))) Try.underlying25 isz32 rfl (show IsN 0 0 from rfl) (by omega) (show 0 * 3 = 0 from rfl) rfl ?_; (first | (rintro b48 rfl) | (intro b48 hb48; cases hb48)); go_step))
    | ((with_reducible show wpList _ _ _ (⟨_, .binOp .eql 32 _ _ _, _, _, _, _⟩ :: _) _ _); first | (refine wplV _ (V.eqlA eqt32 rfl rfl (by (repeat (first | assumption | exact Len.rep | apply Len.set | exact rfl))) (by (repeat (first | assumption | exact Len.rep | apply Len.set | exact rfl)))) (by kernel_rfl) ?_; go_step))
    | ((with_reducible show wpList _ _ _ (⟨_, .binOp .eql 3 _ _ _, _, _, _, _⟩ :: _) _ _); first | (refine wplV _ (V.eql rfl rfl) (by kernel_rfl) ?_; go_step))
    | ((with_reducible show wpList _ _ _ (⟨_, .binOp .eql 4 _ _ _, _, _, _, _⟩ :: _) _ _); first | (refine wplV _ (V.eqlBD Try.underlying4 rfl rfl) (by kernel_rfl) ?_; go_step) | (refine wplV _ (V.eqlB Try.underlying4 rfl rfl) (by kernel_rfl) ?_; go_step))
    | ((with_reducible show wpList _ _ _ (⟨_, .load 32 _, _, _, _, _⟩ :: _) _ _); first | (refine wpl (by kernel_rfl) ?_; apply wp_loadROE hS 32 _ rfl _ _ rfl 3 (row_of rfl) _ _ _ _ _; (case hp => (repeat (first | with_reducible exact Pull.head | apply Pull.tail))); (case hi => omega); (case hl' => with_reducible assumption); refine put_move ?_; go_step) | (refine wpl (by kernel_rfl) ?_; apply wp_loadRI hS 32 _ rfl _ _ rfl 3 (row_of rfl) _; (case hl => with_reducible assumption); (case hr => with_reducible assumption); refine put_move ?_; go_step) | (refine wpl (by kernel_rfl) ?_; apply wp_loadRO hS 32 _ rfl _ _ rfl 3 (row_of rfl) _ _ _ _ _; (case hp => (repeat (first | with_reducible exact Pull.head | apply Pull.tail))); (case hi => omega); refine put_move ?_; go_step) | (refine wpl (by kernel_rfl) ?_; apply wp_loadA hS 32 _ rfl _ rfl 3 (row_of rfl) _; (case hp => (repeat (first | with_reducible exact Pull.head | apply Pull.tail))); refine put_move ?_; go_step) | (refine wpl (by kernel_rfl) ?_; apply wp_loadG hS 32 _ rfl _ rfl 3 (row_of rfl) _; (case hp => (repeat (first | with_reducible exact Pull.head | apply Pull.tail))); (case hn => rfl); refine put_move ?_; go_step) | (refine wpl (by kernel_rfl) ?_; apply wp_loadRW hS 32 _ rfl _ _ rfl 3 (row_of rfl) _; (case hc => with_reducible assumption); (case hn => rfl); refine put_move ?_; go_step))
    | ((fail_if_success (with_reducible show wpList _ _ _ (_ :: _) _ _)); go_step))
  go_ret
  exact ⟨ret_bool (decide_eq_true HIff.out), hS.1⟩
end Go.Proofs.Ythkdckmhmiebfaa
