/- The walk of run.Block. -/
import Derived.Test.YtccgcefeenloiaaRunFrom
namespace Go.Proofs.Ytccgcefeenloiaa
open Go.RowKit
set_option linter.unusedVariables false
theorem bl72_  (w : World) : (Instr.build 72 #[]).run Try.prog w = .ok (.agg #[.int .i64 0, .int .i64 0, .int .i64 0]) w := by kernel_rfl
theorem bl79_0 (a0 : Option Addr) (n0 c0 : Nat) (w : World) : (Instr.build 79 #[(0, .slice a0 n0 c0)]).run Try.prog w = .ok (.agg #[.slice a0 n0 c0]) w := by kernel_rfl
theorem Sl.capT {w : World} {s n m c : Nat} {a : Option Addr} {cs : List Value} (h : Sl w s (.slice a n c) m cs) : n ≤ c := by
  obtain ⟨_, a', c', e, h1, _⟩ := h
  cases e; exact h1
/-- A slice of tokens that came in. -/
structure TokSl (W : World) (a : Option Addr) (n c : Nat) (s : List Tok) : Prop where
  sl : Sl W 3 (.slice a n c) n ((flt s).map (Value.int .i64))
theorem TokSl.len {W : World} {a : Option Addr} {n c : Nat} {s : List Tok} (h : TokSl W a n c s) : s.length = n := by
  have := h.sl.1
  rw [List.length_map, flt_len] at this; omega
theorem TokSl.tail {W : World} {a : Option Addr} {n c : Nat} {t : Tok} {r : List Tok} (h : TokSl W a n c (t :: r)) : TokSl W (cutAt a c 1 3) (n - 1) (c - 1) r := by
  have hl := h.len
  rw [List.length_cons] at hl
  have h2 := h.sl.cutAt 1 n (by omega) (Nat.le_refl _)
  have e : (((flt (t :: r)).map (Value.int .i64)).drop (1 * 3)).take ((n - 1) * 3) = (flt r).map (Value.int .i64) := by
    rw [← List.map_drop, show flt (t :: r) = [t.1, t.2.1, t.2.2] ++ flt r from rfl, List.drop_left' (by rfl), List.take_of_length_le]
    rw [List.length_map, flt_len]; omega
  rw [e] at h2
  exact ⟨h2⟩
/-- The list at block g. -/
def lst (W : World) (g : Nat) (s : List Tok) : Res := bag fun x : { x : Option Addr × Nat × Nat // TokSl W x.1 x.2.1 x.2.2 s } => [blk g [.slice x.1.1 x.1.2.1 x.1.2.2]]
theorem lst_close {W w : World} {g n c : Nat} {a : Option Addr} {s : List Tok} {rs : List Res} (hv : TokSl W a n c s) (hS : St W w (blk g [.slice a n c] :: rs)) : St W w (lst W g s :: rs) := St.close ⟨(a, n, c), hv⟩ hS
set_option maxRecDepth 100000 in
set_option maxHeartbeats 4000000 in
theorem listTok_any (W w0 : World) (rs rs' : List Res) (g : Nat) (s : List Tok) (b : Bool) (t0 t1 t2 er : Int) (s' : List Tok) (hS : St W w0 rs) (hp : Pull (lst W g s) rs rs') (hn : nextL s b = ((t0, t1, t2), er, s')) :
    Calls Try.prog 61 #[.pointer (some ⟨g, 0, none⟩), .bool b] w0 fun e w => e = .returned (.tuple #[.agg #[.int .i64 t0, .int .i64 t1, .int .i64 t2], .int .i64 er]) ∧ St W w (lst W g s' :: rs') := by
  obtain ⟨⟨⟨a, n, c⟩, hv⟩, hS⟩ := (hS.pull hp).open
  dsimp only [List.cons_append, List.nil_append] at hS hv
  have hlen := hv.len
  cases s with
  | nil =>
    obtain rfl : n = 0 := hlen.symm
    simp only [nextL, Prod.mk.injEq] at hn
    obtain ⟨⟨rfl, rfl, rfl⟩, rfl, rfl⟩ := hn
    clear hlen
    go_enter Try.func61, Try.ntmps61
    repeat' (first
      | go_skip
      | go_big_skip
      | ((with_reducible show wpList _ _ _ (⟨_, .move _, _, _, _, _⟩ :: _) _ _); (first | go_big_want | go_step); go_step)
      | ((with_reducible show wpList _ _ _ (⟨_, .assign _, _, _, _, _⟩ :: _) _ _); (first | go_big_want | go_step); go_step)
      | ((with_reducible show wpList _ _ _ (⟨_, .pick _ _ _, _, _, _, _⟩ :: _) _ _); first | (refine wplPickT rfl (by kernel_rfl) ?_; go_step) | (refine wplPickF rfl (by kernel_rfl) ?_; go_step))
      | ((with_reducible show wpList _ _ _ (⟨_, .nilCheck _, _, _, _, _⟩ :: _) _ _); first | (refine wplV _ (V.nilCheck rfl) (by kernel_rfl) ?_; go_step) | (refine wplV _ (V.nilCheckF rfl) (by kernel_rfl) ?_; go_step))
      | ((with_reducible show wpList _ _ _ (⟨_, .fieldAddr 79 _ 0, _, _, _, _⟩ :: _) _ _); first | (refine wplV _ (V.fieldAddr fo79_0 rfl (by first | with_reducible exact Nat.zero_add _ | with_reducible exact Nat.add_zero _ | exact rfl)) (by kernel_rfl) ?_; go_step))
      | ((with_reducible show wpList _ _ _ (⟨_, .call ⟨.builtin .len, _, _⟩, _, _, _, _⟩ :: _) _ _); first | (refine wplV _ (V.len Try.underlying39 rfl) (by kernel_rfl) ?_; go_step))
      | ((with_reducible show wpList _ _ _ (⟨_, .binOp .eql 3 _ _ _, _, _, _, _⟩ :: _) _ _); first | (refine wplV _ (V.eql rfl rfl) (by kernel_rfl) ?_; go_step))
      | ((with_reducible show wpList _ _ _ (⟨some 13, .build 72 _, _, _, _, _⟩ :: _) _ _); first | (refine wplV _ (V.build (vs := []) rfl (bl72_)) (by kernel_rfl) ?_; go_step))
      | ((with_reducible show wpList _ _ _ (⟨some 18, .indexAddr 39 _ _, _, _, _, _⟩ :: _) _ _); first | (refine wplV _ (V.indexSl Try.underlying39 isz72 rfl rfl (show IsN 0 0 from rfl) (by omega) (show 0 * 3 = 0 from rfl) (by first | with_reducible exact Nat.zero_add _ | with_reducible exact Nat.add_zero _ | exact rfl)) (by kernel_rfl) ?_; go_step) | (refine wpl_indexS (by with_reducible assumption) Try.underlying39 isz72 rfl rfl (show IsN 0 0 from rfl) (by omega) rfl ?_; intro b18 o18 hl18 hc18; go_step) | (refine wpl_indexW (by with_reducible assumption) Try.underlying39 isz72 rfl rfl (show IsN 0 0 from rfl) (by omega) rfl ?_; intro b18 o18 hc18; go_step) | (refine wpl_indexO hS rfl (by (repeat (first | with_reducible exact Pull.head | apply Pull.tail))) Try.underlying39 isz72 rfl (show IsN 0 0 from rfl) (by omega) (show 0 * 3 = 0 from rfl) rfl ?_; (first | (rintro b18 rfl) | (intro b18 hb18; cases hb18)); go_step))
      | ((with_reducible show wpList _ _ _ (⟨_, .slice 39 _ _ _ _, _, _, _, _⟩ :: _) _ _); first | (refine wplV _ (V.slice Try.underlying39 isz72 rfl (by (first | exact Lo.none | exact Lo.some rfl (by (repeat (first | exact IsN.auto | with_reducible apply IsN.add | with_reducible apply IsN.sub | with_reducible apply IsN.mul | with_reducible apply IsN.div | with_reducible apply IsN.mod | with_reducible apply IsN.min | with_reducible apply IsN.max | (with_reducible show (_ : Nat) ≤ _; omega) | exact IsN.toNat (by omega)))))) (by (first | exact Up.none | exact Up.some rfl (by (repeat (first | exact IsN.auto | with_reducible apply IsN.add | with_reducible apply IsN.sub | with_reducible apply IsN.mul | with_reducible apply IsN.div | with_reducible apply IsN.mod | with_reducible apply IsN.min | with_reducible apply IsN.max | (with_reducible show (_ : Nat) ≤ _; omega) | exact IsN.toNat (by omega)))))) (by omega) (by omega)) (by kernel_rfl) ?_; go_step))
      | ((with_reducible show wpList _ _ _ (⟨some 4, .alloc 72, _, _, _, _⟩ :: _) _ _); first | (refine wpl (by kernel_rfl) ?_; apply wp_alloc (o := ⟨some 4, _, _, _, _, _⟩) hS 72 rfl (.agg #[.int .i64 0, .int .i64 0, .int .i64 0]) [.int .i64 0, .int .i64 0, .int .i64 0] (fun w => Try.zeroValue72 w) rfl; clear hS; intro g4 w hS; refine put_move ?_; go_step))
      | ((with_reducible show wpList _ _ _ (⟨_, .load 39 _, _, _, _, _⟩ :: _) _ _); first | (refine wpl (by kernel_rfl) ?_; apply wp_load1 hS 39 _ rfl _ _ rfl (one_of rfl) _; (case hp => (repeat (first | with_reducible exact Pull.head | apply Pull.tail))); (case hc => rfl); refine put_move ?_; go_step) | (refine wpl (by kernel_rfl) ?_; apply wp_load1O hS 39 _ rfl _ _ rfl (one_of rfl) _ _ _ _ _; (case hp => (repeat (first | with_reducible exact Pull.head | apply Pull.tail))); (case hv => with_reducible assumption); refine put_move ?_; go_step) | (refine wpl (by kernel_rfl) ?_; apply wp_loadW hS 39 _ rfl _ rfl (one_of rfl) _; (case hc => with_reducible assumption); refine put_move ?_; go_step) | (refine wpl (by kernel_rfl) ?_; apply wp_load1E hS 39 _ rfl _ _ rfl (one_of rfl) _ _ _ _ _ _; (case hp => (repeat (first | with_reducible exact Pull.head | apply Pull.tail))); (case inst => infer_instance); (case he => with_reducible assumption); (case hq => exact rfl); (case hj => omega); (case hv => exact rfl); refine put_move ?_; go_step) | (refine wpl (by kernel_rfl) ?_; apply wp_load1E0 hS 39 _ rfl _ _ rfl (one_of rfl) _ _ _ _ _ _; (case hp => (repeat (first | with_reducible exact Pull.head | apply Pull.tail))); (case inst => infer_instance); (case he => with_reducible assumption); (case hq => exact rfl); (case hj => omega); (case hv => exact rfl); refine put_move ?_; go_step))
      | ((with_reducible show wpList _ _ _ (⟨_, .store 72 _ _, _, _, _, _⟩ :: _) _ _); first | (refine wpl (by kernel_rfl) ?_; apply wp_storeA hS 72 _ _ rfl _ rfl 3 (row_of rfl) _ _; (case hp => (repeat (first | with_reducible exact Pull.head | apply Pull.tail))); (case hy => rfl); (case hm => (repeat (first | assumption | exact Len.rep | apply Len.set | ((with_reducible show Len (_ :: _) _); exact rfl)))); (case hd => exact rfl); clear hS; intro w hS) | (refine wpl (by kernel_rfl) ?_; apply wp_storeG hS 72 _ _ rfl _ rfl 3 (row_of rfl) _ _; (case hp => (repeat (first | with_reducible exact Pull.head | apply Pull.tail))); (case hy => rfl); (case hn => rfl); (case hn' => rfl); (case hv => rfl); (case hd => exact rfl); clear hS; intro w hS))
      | ((with_reducible show wpList _ _ _ (⟨_, .load 72 _, _, _, _, _⟩ :: _) _ _); first | (refine wpl (by kernel_rfl) ?_; apply wp_loadROE hS 72 _ rfl _ _ rfl 3 (row_of rfl) _ _ _ _ _; (case hp => (repeat (first | with_reducible exact Pull.head | apply Pull.tail))); (case hi => omega); (case hl' => with_reducible assumption); refine put_move ?_; go_step) | (refine wpl (by kernel_rfl) ?_; apply wp_loadRI hS 72 _ rfl _ _ rfl 3 (row_of rfl) _; (case hl => with_reducible assumption); (case hr => with_reducible assumption); refine put_move ?_; go_step) | (refine wpl (by kernel_rfl) ?_; apply wp_loadRO hS 72 _ rfl _ _ rfl 3 (row_of rfl) _ _ _ _ _; (case hp => (repeat (first | with_reducible exact Pull.head | apply Pull.tail))); (case hi => omega); refine put_move ?_; go_step) | (refine wpl (by kernel_rfl) ?_; apply wp_loadA hS 72 _ rfl _ rfl 3 (row_of rfl) _; (case hp => (repeat (first | with_reducible exact Pull.head | apply Pull.tail))); refine put_move ?_; go_step) | (refine wpl (by kernel_rfl) ?_; apply wp_loadG hS 72 _ rfl _ rfl 3 (row_of rfl) _; (case hp => (repeat (first | with_reducible exact Pull.head | apply Pull.tail))); (case hn => rfl); refine put_move ?_; go_step) | (refine wpl (by kernel_rfl) ?_; apply wp_loadRW hS 72 _ rfl _ _ rfl 3 (row_of rfl) _; (case hc => with_reducible assumption); (case hn => rfl); refine put_move ?_; go_step))
      | ((with_reducible show wpList _ _ _ (⟨some 6, .alloc 72, _, _, _, _⟩ :: _) _ _); first | (refine wpl (by kernel_rfl) ?_; apply wp_alloc (o := ⟨some 6, _, _, _, _, _⟩) hS 72 rfl (.agg #[.int .i64 0, .int .i64 0, .int .i64 0]) [.int .i64 0, .int .i64 0, .int .i64 0] (fun w => Try.zeroValue72 w) rfl; clear hS; intro g6 w hS; refine put_move ?_; go_step))
      | ((with_reducible show wpList _ _ _ (⟨_, .store 39 _ _, _, _, _, _⟩ :: _) _ _); first | (refine wpl (by kernel_rfl) ?_; apply wp_store1 hS 39 _ _ rfl _ _ rfl (one_of rfl) _ _; (case hp => (repeat (first | with_reducible exact Pull.head | apply Pull.tail))); (case hy => (first | exact IsV.int rfl | exact IsV.bool rfl | exact IsV.slice rfl | exact IsV.pointer rfl | exact IsV.string rfl | exact IsV.map rfl | exact IsV.func rfl)); (case hv => rfl); (case hc => (repeat (first | with_reducible exact SetAt.head | apply SetAt.tail))); (case hd => exact rfl); clear hS; intro w hS) | (refine wpl (by kernel_rfl) ?_; apply wp_store1O hS 39 _ _ rfl _ _ rfl (one_of rfl) _ _ _ _ _; (case hp => (repeat (first | with_reducible exact Pull.head | apply Pull.tail))); (case hy => (first | exact IsV.int rfl | exact IsV.bool rfl | exact IsV.slice rfl | exact IsV.pointer rfl | exact IsV.string rfl | exact IsV.map rfl | exact IsV.func rfl)); (case hv => rfl); (case hi => omega); (case hd => exact rfl); clear hS; intro w hS))
      | ((fail_if_success (with_reducible show wpList _ _ _ (_ :: _) _ _)); go_step))
    all_goals (try (have hF : False := (by omega); cases hF))
    refine ret_all (xs := [_, _]) rfl (.cons (OneRes.blk hS rfl (row_of (n := 3) rfl) (by (repeat (first | with_reducible exact Pull.head | apply Pull.tail))) rfl) (.cons (OneRes.tmp rfl) (.nil))) (by simp) rfl ?_
    refine ⟨rfl, St.close ⟨(a, 0, c), hv⟩ ?_⟩
    dsimp only [List.cons_append, List.nil_append]
    exact hS.sub (by (repeat (first | exact Sub.nil | with_reducible exact Sub.refl | (apply Sub.cons; (case p => (repeat (first | with_reducible exact Pull.head | apply Pull.tail)))) | apply Sub.skip)))
  | cons t r =>
    obtain ⟨u0, u1, u2⟩ := t
    simp only [nextL, Prod.mk.injEq] at hn
    obtain ⟨⟨rfl, rfl, rfl⟩, rfl, rfl⟩ := hn
    rw [List.length_cons] at hlen
    have hn0 : 0 < n := by omega
    have hcap := hv.sl.capT
    have HTail := hid hv.tail
    obtain ⟨b0, off, rfl, hr⟩ := trip_at hv.sl 0 hn0
    have hr2 : W.rangeAt b0 off ([u0, u1, u2].map (Value.int .i64)) := by
      rw [Nat.zero_mul, Nat.add_zero] at hr
      exact hr
    have hl3 : Len [u0, u1, u2] 3 := rfl
    clear hr hlen
    go_enter Try.func61, Try.ntmps61
    repeat' (first
      | go_skip
      | go_big_skip
      | ((with_reducible show wpList _ _ _ (⟨_, .move _, _, _, _, _⟩ :: _) _ _); (first | go_big_want | go_step); go_step)
      | ((with_reducible show wpList _ _ _ (⟨_, .assign _, _, _, _, _⟩ :: _) _ _); (first | go_big_want | go_step); go_step)
      | ((with_reducible show wpList _ _ _ (⟨_, .pick _ _ _, _, _, _, _⟩ :: _) _ _); first | (refine wplPickT rfl (by kernel_rfl) ?_; go_step) | (refine wplPickF rfl (by kernel_rfl) ?_; go_step))
      | ((with_reducible show wpList _ _ _ (⟨_, .nilCheck _, _, _, _, _⟩ :: _) _ _); first | (refine wplV _ (V.nilCheck rfl) (by kernel_rfl) ?_; go_step) | (refine wplV _ (V.nilCheckF rfl) (by kernel_rfl) ?_; go_step))
      | ((with_reducible show wpList _ _ _ (⟨_, .fieldAddr 79 _ 0, _, _, _, _⟩ :: _) _ _); first | (refine wplV _ (V.fieldAddr fo79_0 rfl (by first | with_reducible exact Nat.zero_add _ | with_reducible exact Nat.add_zero _ | exact rfl)) (by kernel_rfl) ?_; go_step))
      | ((with_reducible show wpList _ _ _ (⟨_, .call ⟨.builtin .len, _, _⟩, _, _, _, _⟩ :: _) _ _); first | (refine wplV _ (V.len Try.underlying39 rfl) (by kernel_rfl) ?_; go_step))
      | ((with_reducible show wpList _ _ _ (⟨_, .binOp .eql 3 _ _ _, _, _, _, _⟩ :: _) _ _); first | (refine wplV _ (V.eql rfl rfl) (by kernel_rfl) ?_; go_step))
      | ((with_reducible show wpList _ _ _ (⟨some 13, .build 72 _, _, _, _, _⟩ :: _) _ _); first | (refine wplV _ (V.build (vs := []) rfl (bl72_)) (by kernel_rfl) ?_; go_step))
      | ((with_reducible show wpList _ _ _ (⟨some 18, .indexAddr 39 _ _, _, _, _, _⟩ :: _) _ _); first | (refine wplV _ (V.indexSl Try.underlying39 isz72 rfl rfl (show IsN 0 0 from rfl) (by omega) (show 0 * 3 = 0 from rfl) (by first | with_reducible exact Nat.zero_add _ | with_reducible exact Nat.add_zero _ | exact rfl)) (by kernel_rfl) ?_; go_step) | (refine wpl_indexS (by with_reducible assumption) Try.underlying39 isz72 rfl rfl (show IsN 0 0 from rfl) (by omega) rfl ?_; intro b18 o18 hl18 hc18; go_step) | (refine wpl_indexW (by with_reducible assumption) Try.underlying39 isz72 rfl rfl (show IsN 0 0 from rfl) (by omega) rfl ?_; intro b18 o18 hc18; go_step) | (refine wpl_indexO hS rfl (by (repeat (first | with_reducible exact Pull.head | apply Pull.tail))) Try.underlying39 isz72 rfl (show IsN 0 0 from rfl) (by omega) (show 0 * 3 = 0 from rfl) rfl ?_; (first | (rintro b18 rfl) | (intro b18 hb18; cases hb18)); go_step))
      | ((with_reducible show wpList _ _ _ (⟨_, .slice 39 _ _ _ _, _, _, _, _⟩ :: _) _ _); first | (refine wplV _ (V.slice Try.underlying39 isz72 rfl (by (first | exact Lo.none | exact Lo.some rfl (by (repeat (first | exact IsN.auto | with_reducible apply IsN.add | with_reducible apply IsN.sub | with_reducible apply IsN.mul | with_reducible apply IsN.div | with_reducible apply IsN.mod | with_reducible apply IsN.min | with_reducible apply IsN.max | (with_reducible show (_ : Nat) ≤ _; omega) | exact IsN.toNat (by omega)))))) (by (first | exact Up.none | exact Up.some rfl (by (repeat (first | exact IsN.auto | with_reducible apply IsN.add | with_reducible apply IsN.sub | with_reducible apply IsN.mul | with_reducible apply IsN.div | with_reducible apply IsN.mod | with_reducible apply IsN.min | with_reducible apply IsN.max | (with_reducible show (_ : Nat) ≤ _; omega) | exact IsN.toNat (by omega)))))) (by omega) (by omega)) (by kernel_rfl) ?_; go_step))
      | ((with_reducible show wpList _ _ _ (⟨some 4, .alloc 72, _, _, _, _⟩ :: _) _ _); first | (refine wpl (by kernel_rfl) ?_; apply wp_alloc (o := ⟨some 4, _, _, _, _, _⟩) hS 72 rfl (.agg #[.int .i64 0, .int .i64 0, .int .i64 0]) [.int .i64 0, .int .i64 0, .int .i64 0] (fun w => Try.zeroValue72 w) rfl; clear hS; intro g4 w hS; refine put_move ?_; go_step))
      | ((with_reducible show wpList _ _ _ (⟨_, .load 39 _, _, _, _, _⟩ :: _) _ _); first | (refine wpl (by kernel_rfl) ?_; apply wp_load1 hS 39 _ rfl _ _ rfl (one_of rfl) _; (case hp => (repeat (first | with_reducible exact Pull.head | apply Pull.tail))); (case hc => rfl); refine put_move ?_; go_step) | (refine wpl (by kernel_rfl) ?_; apply wp_load1O hS 39 _ rfl _ _ rfl (one_of rfl) _ _ _ _ _; (case hp => (repeat (first | with_reducible exact Pull.head | apply Pull.tail))); (case hv => with_reducible assumption); refine put_move ?_; go_step) | (refine wpl (by kernel_rfl) ?_; apply wp_loadW hS 39 _ rfl _ rfl (one_of rfl) _; (case hc => with_reducible assumption); refine put_move ?_; go_step) | (refine wpl (by kernel_rfl) ?_; apply wp_load1E hS 39 _ rfl _ _ rfl (one_of rfl) _ _ _ _ _ _; (case hp => (repeat (first | with_reducible exact Pull.head | apply Pull.tail))); (case inst => infer_instance); (case he => with_reducible assumption); (case hq => exact rfl); (case hj => omega); (case hv => exact rfl); refine put_move ?_; go_step) | (refine wpl (by kernel_rfl) ?_; apply wp_load1E0 hS 39 _ rfl _ _ rfl (one_of rfl) _ _ _ _ _ _; (case hp => (repeat (first | with_reducible exact Pull.head | apply Pull.tail))); (case inst => infer_instance); (case he => with_reducible assumption); (case hq => exact rfl); (case hj => omega); (case hv => exact rfl); refine put_move ?_; go_step))
      | ((with_reducible show wpList _ _ _ (⟨_, .store 72 _ _, _, _, _, _⟩ :: _) _ _); first | (refine wpl (by kernel_rfl) ?_; apply wp_storeA hS 72 _ _ rfl _ rfl 3 (row_of rfl) _ _; (case hp => (repeat (first | with_reducible exact Pull.head | apply Pull.tail))); (case hy => rfl); (case hm => (repeat (first | assumption | exact Len.rep | apply Len.set | ((with_reducible show Len (_ :: _) _); exact rfl)))); (case hd => exact rfl); clear hS; intro w hS) | (refine wpl (by kernel_rfl) ?_; apply wp_storeG hS 72 _ _ rfl _ rfl 3 (row_of rfl) _ _; (case hp => (repeat (first | with_reducible exact Pull.head | apply Pull.tail))); (case hy => rfl); (case hn => rfl); (case hn' => rfl); (case hv => rfl); (case hd => exact rfl); clear hS; intro w hS))
      | ((with_reducible show wpList _ _ _ (⟨_, .load 72 _, _, _, _, _⟩ :: _) _ _); first | (refine wpl (by kernel_rfl) ?_; apply wp_loadROE hS 72 _ rfl _ _ rfl 3 (row_of rfl) _ _ _ _ _; (case hp => (repeat (first | with_reducible exact Pull.head | apply Pull.tail))); (case hi => omega); (case hl' => with_reducible assumption); refine put_move ?_; go_step) | (refine wpl (by kernel_rfl) ?_; apply wp_loadRI hS 72 _ rfl _ _ rfl 3 (row_of rfl) _; (case hl => with_reducible assumption); (case hr => with_reducible assumption); refine put_move ?_; go_step) | (refine wpl (by kernel_rfl) ?_; apply wp_loadRO hS 72 _ rfl _ _ rfl 3 (row_of rfl) _ _ _ _ _; (case hp => (repeat (first | with_reducible exact Pull.head | apply Pull.tail))); (case hi => omega); refine put_move ?_; go_step) | (refine wpl (by kernel_rfl) ?_; apply wp_loadA hS 72 _ rfl _ rfl 3 (row_of rfl) _; (case hp => (repeat (first | with_reducible exact Pull.head | apply Pull.tail))); refine put_move ?_; go_step) | (refine wpl (by kernel_rfl) ?_; apply wp_loadG hS 72 _ rfl _ rfl 3 (row_of rfl) _; (case hp => (repeat (first | with_reducible exact Pull.head | apply Pull.tail))); (case hn => rfl); refine put_move ?_; go_step) | (refine wpl (by kernel_rfl) ?_; apply wp_loadRW hS 72 _ rfl _ _ rfl 3 (row_of rfl) _; (case hc => with_reducible assumption); (case hn => rfl); refine put_move ?_; go_step))
      | ((with_reducible show wpList _ _ _ (⟨some 6, .alloc 72, _, _, _, _⟩ :: _) _ _); first | (refine wpl (by kernel_rfl) ?_; apply wp_alloc (o := ⟨some 6, _, _, _, _, _⟩) hS 72 rfl (.agg #[.int .i64 0, .int .i64 0, .int .i64 0]) [.int .i64 0, .int .i64 0, .int .i64 0] (fun w => Try.zeroValue72 w) rfl; clear hS; intro g6 w hS; refine put_move ?_; go_step))
      | ((with_reducible show wpList _ _ _ (⟨_, .store 39 _ _, _, _, _, _⟩ :: _) _ _); first | (refine wpl (by kernel_rfl) ?_; apply wp_store1 hS 39 _ _ rfl _ _ rfl (one_of rfl) _ _; (case hp => (repeat (first | with_reducible exact Pull.head | apply Pull.tail))); (case hy => (first | exact IsV.int rfl | exact IsV.bool rfl | exact IsV.slice rfl | exact IsV.pointer rfl | exact IsV.string rfl | exact IsV.map rfl | exact IsV.func rfl)); (case hv => rfl); (case hc => (repeat (first | with_reducible exact SetAt.head | apply SetAt.tail))); (case hd => exact rfl); clear hS; intro w hS) | (refine wpl (by kernel_rfl) ?_; apply wp_store1O hS 39 _ _ rfl _ _ rfl (one_of rfl) _ _ _ _ _; (case hp => (repeat (first | with_reducible exact Pull.head | apply Pull.tail))); (case hy => (first | exact IsV.int rfl | exact IsV.bool rfl | exact IsV.slice rfl | exact IsV.pointer rfl | exact IsV.string rfl | exact IsV.map rfl | exact IsV.func rfl)); (case hv => rfl); (case hi => omega); (case hd => exact rfl); clear hS; intro w hS))
      | ((fail_if_success (with_reducible show wpList _ _ _ (_ :: _) _ _)); go_step))
    all_goals (try (have hF : False := (by omega); cases hF))
    refine ret_all (xs := [_, _]) rfl (.cons (OneRes.blk hS rfl (row_of (n := 3) rfl) (by (repeat (first | with_reducible exact Pull.head | apply Pull.tail))) rfl) (.cons (OneRes.tmp rfl) (.nil))) (by simp) rfl ?_
    refine ⟨rfl, St.close ⟨(cutAt (some ⟨b0, off, none⟩) c 1 3, n - 1, c - 1), HTail.out⟩ ?_⟩
    dsimp only [List.cons_append, List.nil_append]
    exact hS.sub (by (repeat (first | exact Sub.nil | with_reducible exact Sub.refl | (apply Sub.cons; (case p => (repeat (first | with_reducible exact Pull.head | apply Pull.tail)))) | apply Sub.skip)))
theorem V.mkIface {P : Program} {t ty : TypeId} {x : Operand} {a : Act} {v : Value} (hx : a.eval x = v) (hr : ∀ w : World, (Instr.makeInterface t v).run P w = .ok (.iface t v) w) : Val P (.makeInterface t x) ty a (.iface t v) := fun d pos af g w => by
  simp only [execOp, hx, Sem.run_bind, hr, Result.andThen_ok, Sem.run_pure]
/-- The source that a list is. -/
def listSrc (W : World) (g : Nat) : Src W (List Tok) where
  next := nextL
  res := lst W g
  tid := 77
  ptr := .pointer (some ⟨g, 0, none⟩)
  f := 61
  inv := fun b w => by kernel_rfl
  call := fun w rs rs' s b t0 t1 t2 er s' hS hp hn => listTok_any W w rs rs' g s b t0 t1 t2 er s' hS hp hn
theorem frm_len {σ : Type} (next : σ → Bool → Tok × Int × σ) (before : Int) (s : σ) : (frm next before s).2.1.length = 64 := by
  have hz : (List.replicate 64 (0 : Int)).length = 64 := List.length_replicate
  have key : ∀ q : Int × List Int × List Tok × σ, ((if q.1 ≠ 0 then (q.1, List.replicate 64 0, [], q.2.2.2) else if toksOf before q.2.1 = q.2.2.1 then (0, zfrom q.2.1, q.2.2.1, q.2.2.2) else (4, List.replicate 64 0, [], q.2.2.2)) : Int × List Int × List Tok × σ).2.1.length = 64 := fun q => by
    by_cases h1 : q.1 ≠ 0
    · rw [if_pos h1]; exact hz
    · rw [if_neg h1]
      by_cases h2 : toksOf before q.2.1 = q.2.2.1
      · rw [if_pos h2]
        have h3 := zfrom_len q.2.1
        generalize zfrom q.2.1 = y at h3 ⊢
        exact h3
      · rw [if_neg h2]; exact hz
  unfold frm
  by_cases h1 : (next s true).2.1 ≠ 0
  · rw [if_pos h1]; exact hz
  · rw [if_neg h1]
    by_cases h2 : okFirst before (next s true).1 = false
    · rw [if_pos h2]; exact hz
    · rw [if_neg h2]; exact key _
/-- What Block gives: what goes wrong, the block, the tokens that it has read. -/
def blkR (before : Int) (s : List Tok) : Int × List Int × List Tok := if isC before = true then ((frm nextL before s).1, (frm nextL before s).2.1, (frm nextL before s).2.2.1) else (1, nought0, [])
set_option maxRecDepth 100000 in
set_option maxHeartbeats 4000000 in
theorem block_any (w0 : World) (before : Int) (a : Option Addr) (n c : Nat) (s : List Tok) (R : Int × List Int × List Tok) (hv : TokSl w0 a n c s) (hR : blkR before s = R) :
    Calls Try.prog 13 #[.int .i64 before, .slice a n c] w0 fun e w => e = .returned (.tuple #[.agg (iv R.2.1), .int .i64 (R.2.2.length : Nat), .int .i64 R.1]) ∧ Ext w0 w := by
  have hS := St.start w0
  have hZ0 : Len nought0 64 := List.length_replicate
  obtain ⟨q, hq⟩ : ∃ q, isC before = q := ⟨_, rfl⟩
  cases q
  case false =>
    have hR2 : R = (1, nought0, []) := by rw [← hR, blkR, hq]; rfl
    have HQ := hid hq
    clear hR hq
    subst hR2
    go_enter Try.func13, Try.ntmps13
    repeat' (first
      | ((with_reducible show wpList _ _ _ (⟨_, .call ⟨.value (.func 26), _, _⟩, _, _, _, _⟩ :: _) _ _); refine wpl_call (f := 26) Try.call26 (by kernel_rfl) ?_; refine ⟨_, (isCoef_any before _), ?_⟩; rintro e w' ⟨rfl, rfl⟩; rw [HQ.out]; refine ⟨_, rfl, ?_⟩; refine put_move ?_; go_step)
      | go_skip
      | go_big_skip
      | ((with_reducible show wpList _ _ _ (⟨_, .move _, _, _, _, _⟩ :: _) _ _); (first | go_big_want | go_step); go_step)
      | ((with_reducible show wpList _ _ _ (⟨_, .assign _, _, _, _, _⟩ :: _) _ _); (first | go_big_want | go_step); go_step)
      | ((with_reducible show wpList _ _ _ (⟨_, .pick _ _ _, _, _, _, _⟩ :: _) _ _); first | (refine wplPickT rfl (by kernel_rfl) ?_; go_step) | (refine wplPickF rfl (by kernel_rfl) ?_; go_step))
      | ((with_reducible show wpList _ _ _ (⟨_, .unOp .not _ _, _, _, _, _⟩ :: _) _ _); first | (refine wplV _ (V.notD rfl) (by kernel_rfl) ?_; go_step) | (refine wplV _ (V.not rfl) (by kernel_rfl) ?_; go_step))
      | ((with_reducible show wpList _ _ _ (⟨some 13, .build 38 _, _, _, _, _⟩ :: _) _ _); first | (refine wplV _ (V.build (vs := []) rfl (bl38_)) (by kernel_rfl) ?_; go_step))
      | ((with_reducible show wpList _ _ _ (⟨some 17, .build 79 _, _, _, _, _⟩ :: _) _ _); first | (refine wplV _ (V.build (vs := [(0, _)]) rfl (bl79_0 _ _ _)) (by kernel_rfl) ?_; go_step))
      | ((with_reducible show wpList _ _ _ (⟨_, .extract _ _, _, _, _, _⟩ :: _) _ _); first | (refine wplV _ (V.extract rfl rfl) (by kernel_rfl) ?_; go_step))
      | ((with_reducible show wpList _ _ _ (⟨_, .call ⟨.builtin .len, _, _⟩, _, _, _, _⟩ :: _) _ _); first | (refine wplV _ (V.len Try.underlying39 rfl) (by kernel_rfl) ?_; go_step))
      | ((with_reducible show wpList _ _ _ (⟨some 4, .alloc 38, _, _, _, _⟩ :: _) _ _); first | (refine wpl (by kernel_rfl) ?_; apply wp_allocA (o := ⟨some 4, _, _, _, _, _⟩) hS 38 rfl (List.replicate 64 0) 64 List.length_replicate za38; clear hS; intro g4 w hS; refine put_move ?_; go_step))
      | ((with_reducible show wpList _ _ _ (⟨_, .store 38 _ _, _, _, _, _⟩ :: _) _ _); first | (refine wpl (by kernel_rfl) ?_; apply wp_storeA hS 38 _ _ rfl _ rfl 64 (row_of rfl) _ _; (case hp => (repeat (first | with_reducible exact Pull.head | apply Pull.tail))); (case hy => rfl); (case hm => (repeat (first | assumption | exact Len.rep | apply Len.set | ((with_reducible show Len (_ :: _) _); exact rfl)))); (case hd => exact rfl); clear hS; intro w hS) | (refine wpl (by kernel_rfl) ?_; apply wp_storeG hS 38 _ _ rfl _ rfl 64 (row_of rfl) _ _; (case hp => (repeat (first | with_reducible exact Pull.head | apply Pull.tail))); (case hy => rfl); (case hn => rfl); (case hn' => rfl); (case hv => rfl); (case hd => exact rfl); clear hS; intro w hS))
      | ((with_reducible show wpList _ _ _ (⟨some 18, .box 79 _, _, _, _, _⟩ :: _) _ _); first | (refine wpl (by kernel_rfl) ?_; apply wp_boxG (o := ⟨some 18, _, _, _, _, _⟩) hS 79 _ rfl _ rfl; clear hS; intro g18 w hS; refine put_move ?_; go_step))
      | ((with_reducible show wpList _ _ _ (⟨some 7, .alloc 38, _, _, _, _⟩ :: _) _ _); first | (refine wpl (by kernel_rfl) ?_; apply wp_allocA (o := ⟨some 7, _, _, _, _, _⟩) hS 38 rfl (List.replicate 64 0) 64 List.length_replicate za38; clear hS; intro g7 w hS; refine put_move ?_; go_step))
      | ((with_reducible show wpList _ _ _ (⟨_, .load 38 _, _, _, _, _⟩ :: _) _ _); first | (refine wpl (by kernel_rfl) ?_; apply wp_loadRI hS 38 _ rfl _ _ rfl 64 (row_of rfl) _; (case hl => with_reducible assumption); (case hr => with_reducible assumption); refine put_move ?_; go_step) | (refine wpl (by kernel_rfl) ?_; apply wp_loadRO hS 38 _ rfl _ _ rfl 64 (row_of rfl) _ _ _ _ _; (case hp => (repeat (first | with_reducible exact Pull.head | apply Pull.tail))); (case hi => omega); refine put_move ?_; go_step) | (refine wpl (by kernel_rfl) ?_; apply wp_loadA hS 38 _ rfl _ rfl 64 (row_of rfl) _; (case hp => (repeat (first | with_reducible exact Pull.head | apply Pull.tail))); refine put_move ?_; go_step) | (refine wpl (by kernel_rfl) ?_; apply wp_loadG hS 38 _ rfl _ rfl 64 (row_of rfl) _; (case hp => (repeat (first | with_reducible exact Pull.head | apply Pull.tail))); (case hn => rfl); refine put_move ?_; go_step) | (refine wpl (by kernel_rfl) ?_; apply wp_loadRW hS 38 _ rfl _ _ rfl 64 (row_of rfl) _; (case hc => with_reducible assumption); (case hn => rfl); refine put_move ?_; go_step))
      | ((fail_if_success (with_reducible show wpList _ _ _ (_ :: _) _ _)); go_step))
    all_goals (try (have hF : False := (by omega); cases hF))
    refine ret_all (xs := [_, _, _]) rfl (.cons (OneRes.arr hS rfl (row_of (n := 64) rfl) (by (repeat (first | with_reducible exact Pull.head | apply Pull.tail)))) (.cons (OneRes.tmp rfl) (.cons (OneRes.tmp rfl) (.nil)))) (by simp) rfl ?_
    exact ⟨rfl, hS.1⟩
  case true =>
    have hb := (isC_iff _).1 hq
    obtain ⟨F, hF⟩ : ∃ F, frm nextL before s = F := ⟨_, rfl⟩
    have hR2 : R = (F.1, F.2.1, F.2.2.1) := by rw [← hR, blkR, hq, if_pos rfl, hF]
    obtain ⟨E, bl, all, s'⟩ := F
    subst hR2
    have HQ := hid hq
    have HF : Veil (frm nextL before s = (E, bl, all, s')) := ⟨hF⟩
    have hbl : Len bl 64 := by have := frm_len nextL before s; rw [hF] at this; exact this
    clear hR hq hF
    go_enter Try.func13, Try.ntmps13
    repeat' (first
      | ((with_reducible show wpList _ _ _ (⟨_, .call ⟨.value (.func 26), _, _⟩, _, _, _, _⟩ :: _) _ _); refine wpl_call (f := 26) Try.call26 (by kernel_rfl) ?_; refine ⟨_, (isCoef_any before _), ?_⟩; rintro e w' ⟨rfl, rfl⟩; rw [HQ.out]; refine ⟨_, rfl, ?_⟩; refine put_move ?_; go_step)
      | ((with_reducible show wpList _ _ _ (⟨some 19, _, _, _, _, _⟩ :: _) _ _); refine wplV (.iface 77 (.pointer (some ⟨g18, 0, none⟩))) (V.mkIface rfl (fun w => by kernel_rfl)) (by kernel_rfl) ?_; go_step)
      | ((with_reducible show wpList _ _ _ (⟨some 20, _, _, _, _, _⟩ :: _) _ _); refine wpl_call (f := 30) Try.call30 (by kernel_rfl) ?_; refine ⟨_, (from_any (listSrc w0 g18) w _ _ s before hb (lst_close hv hS) Pull.head), ?_⟩; rintro e w ⟨ad5, c5, rfl, hS2⟩; have hq : frm (listSrc w0 g18).next before s = (E, bl, all, s') := HF.out; rw [hq] at hS2; rw [hq]; clear hq; dsimp only at hS2; dsimp only; clear hS; have hS := hS2; clear hS2; refine ⟨_, rfl, ?_⟩; refine put_move ?_; go_step)
      | go_skip
      | go_big_skip
      | ((with_reducible show wpList _ _ _ (⟨_, .move _, _, _, _, _⟩ :: _) _ _); (first | go_big_want | go_step); go_step)
      | ((with_reducible show wpList _ _ _ (⟨_, .assign _, _, _, _, _⟩ :: _) _ _); (first | go_big_want | go_step); go_step)
      | ((with_reducible show wpList _ _ _ (⟨_, .pick _ _ _, _, _, _, _⟩ :: _) _ _); first | (refine wplPickT rfl (by kernel_rfl) ?_; go_step) | (refine wplPickF rfl (by kernel_rfl) ?_; go_step))
      | ((with_reducible show wpList _ _ _ (⟨_, .unOp .not _ _, _, _, _, _⟩ :: _) _ _); first | (refine wplV _ (V.notD rfl) (by kernel_rfl) ?_; go_step) | (refine wplV _ (V.not rfl) (by kernel_rfl) ?_; go_step))
      | ((with_reducible show wpList _ _ _ (⟨some 13, .build 38 _, _, _, _, _⟩ :: _) _ _); first | (refine wplV _ (V.build (vs := []) rfl (bl38_)) (by kernel_rfl) ?_; go_step))
      | ((with_reducible show wpList _ _ _ (⟨some 17, .build 79 _, _, _, _, _⟩ :: _) _ _); first | (refine wplV _ (V.build (vs := [(0, _)]) rfl (bl79_0 _ _ _)) (by kernel_rfl) ?_; go_step))
      | ((with_reducible show wpList _ _ _ (⟨_, .extract _ _, _, _, _, _⟩ :: _) _ _); first | (refine wplV _ (V.extract rfl rfl) (by kernel_rfl) ?_; go_step))
      | ((with_reducible show wpList _ _ _ (⟨_, .call ⟨.builtin .len, _, _⟩, _, _, _, _⟩ :: _) _ _); first | (refine wplV _ (V.len Try.underlying39 rfl) (by kernel_rfl) ?_; go_step))
      | ((with_reducible show wpList _ _ _ (⟨some 4, .alloc 38, _, _, _, _⟩ :: _) _ _); first | (refine wpl (by kernel_rfl) ?_; apply wp_allocA (o := ⟨some 4, _, _, _, _, _⟩) hS 38 rfl (List.replicate 64 0) 64 List.length_replicate za38; clear hS; intro g4 w hS; refine put_move ?_; go_step))
      | ((with_reducible show wpList _ _ _ (⟨_, .store 38 _ _, _, _, _, _⟩ :: _) _ _); first | (refine wpl (by kernel_rfl) ?_; apply wp_storeA hS 38 _ _ rfl _ rfl 64 (row_of rfl) _ _; (case hp => (repeat (first | with_reducible exact Pull.head | apply Pull.tail))); (case hy => rfl); (case hm => (repeat (first | assumption | exact Len.rep | apply Len.set | ((with_reducible show Len (_ :: _) _); exact rfl)))); (case hd => exact rfl); clear hS; intro w hS) | (refine wpl (by kernel_rfl) ?_; apply wp_storeG hS 38 _ _ rfl _ rfl 64 (row_of rfl) _ _; (case hp => (repeat (first | with_reducible exact Pull.head | apply Pull.tail))); (case hy => rfl); (case hn => rfl); (case hn' => rfl); (case hv => rfl); (case hd => exact rfl); clear hS; intro w hS))
      | ((with_reducible show wpList _ _ _ (⟨some 18, .box 79 _, _, _, _, _⟩ :: _) _ _); first | (refine wpl (by kernel_rfl) ?_; apply wp_boxG (o := ⟨some 18, _, _, _, _, _⟩) hS 79 _ rfl _ rfl; clear hS; intro g18 w hS; refine put_move ?_; go_step))
      | ((with_reducible show wpList _ _ _ (⟨some 7, .alloc 38, _, _, _, _⟩ :: _) _ _); first | (refine wpl (by kernel_rfl) ?_; apply wp_allocA (o := ⟨some 7, _, _, _, _, _⟩) hS 38 rfl (List.replicate 64 0) 64 List.length_replicate za38; clear hS; intro g7 w hS; refine put_move ?_; go_step))
      | ((with_reducible show wpList _ _ _ (⟨_, .load 38 _, _, _, _, _⟩ :: _) _ _); first | (refine wpl (by kernel_rfl) ?_; apply wp_loadRI hS 38 _ rfl _ _ rfl 64 (row_of rfl) _; (case hl => with_reducible assumption); (case hr => with_reducible assumption); refine put_move ?_; go_step) | (refine wpl (by kernel_rfl) ?_; apply wp_loadRO hS 38 _ rfl _ _ rfl 64 (row_of rfl) _ _ _ _ _; (case hp => (repeat (first | with_reducible exact Pull.head | apply Pull.tail))); (case hi => omega); refine put_move ?_; go_step) | (refine wpl (by kernel_rfl) ?_; apply wp_loadA hS 38 _ rfl _ rfl 64 (row_of rfl) _; (case hp => (repeat (first | with_reducible exact Pull.head | apply Pull.tail))); refine put_move ?_; go_step) | (refine wpl (by kernel_rfl) ?_; apply wp_loadG hS 38 _ rfl _ rfl 64 (row_of rfl) _; (case hp => (repeat (first | with_reducible exact Pull.head | apply Pull.tail))); (case hn => rfl); refine put_move ?_; go_step) | (refine wpl (by kernel_rfl) ?_; apply wp_loadRW hS 38 _ rfl _ _ rfl 64 (row_of rfl) _; (case hc => with_reducible assumption); (case hn => rfl); refine put_move ?_; go_step))
      | ((fail_if_success (with_reducible show wpList _ _ _ (_ :: _) _ _)); go_step))
    all_goals (try (have hF : False := (by omega); cases hF))
    refine ret_all (xs := [_, _, _]) rfl (.cons (OneRes.arr hS rfl (row_of (n := 64) rfl) (by (repeat (first | with_reducible exact Pull.head | apply Pull.tail)))) (.cons (OneRes.tmp rfl) (.cons (OneRes.tmp rfl) (.nil)))) (by simp) rfl ?_
    exact ⟨rfl, hS.1⟩
end Go.Proofs.Ytccgcefeenloiaa
