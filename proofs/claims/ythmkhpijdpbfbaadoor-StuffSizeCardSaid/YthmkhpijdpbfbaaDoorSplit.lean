/- stuff.Split: what it computes, and its walk. -/
import Derived.Test.YthmkhpijdpbfbaaDoorSplit0
namespace Go.Proofs.YthmkhpijdpbfbaaDoor
open Go.RowKit
set_option linter.unusedVariables false
/-- A piece of bytes: where it lies, and what it is. -/
structure Pc where
  ad : Option Addr
  c : Nat
  xs : List Int
def Pc.val (p : Pc) : Value := .slice p.ad p.xs.length p.c
def Pc.res (p : Pc) : Res := own 5 1 p.ad p.xs.length p.c (p.xs.map (Value.int .u8))
theorem pcs_get {W w : World} {pcs : List Pc} {rs rs' : List Res} (h : St W w rs) (p : Pull (star (pcs.map Pc.res)) rs rs') {x : Pc} (hx : x ∈ pcs) : Sl w 1 x.val x.xs.length (x.xs.map (Value.int .u8)) := by
  obtain ⟨s, hs⟩ := h.starGet p (List.mem_map.2 ⟨x, hx, rfl⟩)
  exact hs.sl (show Pull (own 5 1 x.ad x.xs.length x.c (x.xs.map (Value.int .u8))) (Pc.res x :: s) s from .head)
/-- Splitting: the pieces and marks ahead, the piece at hand. -/
def spf : List Int → List (List Int) → List Int → List Int → Option (List (List Int) × List Int)
  | [], o, m, p => some (o ++ [p], m)
  | x :: l, o, m, p => if x = 255 then (match l with
    | [] => none
    | y :: l' => if y = 255 then none else if y = 0 then spf l' o m (p ++ [255, 0]) else spf l' (o ++ [p]) (m ++ [y]) []) else spf l o m (p ++ [x])
theorem spf_at (xs : List Int) (i : Nat) (o : List (List Int)) (m p : List Int) (h : i < xs.length) (hx : nth xs i ≠ 255) : spf (xs.drop i) o m p = spf (xs.drop (i + 1)) o m (p ++ [nth xs i]) := by
  have e : xs.drop i = nth xs i :: xs.drop (i + 1) := by rw [List.drop_eq_getElem_cons h]; simp [nth, List.getD, h]
  rw [e, spf.eq_def]; dsimp only; rw [if_neg hx]
theorem spf_end (xs : List Int) (i : Nat) (o : List (List Int)) (m p : List Int) (h : i + 1 = xs.length) (hx : nth xs i = 255) : spf (xs.drop i) o m p = none := by
  have e : xs.drop i = nth xs i :: xs.drop (i + 1) := by rw [List.drop_eq_getElem_cons (by omega)]; simp [nth, List.getD, show i < xs.length by omega]
  rw [e, List.drop_of_length_le (by omega)]; simp only [spf]; rw [if_pos hx]
theorem spf_two (xs : List Int) (i : Nat) (o : List (List Int)) (m p : List Int) (h : i + 1 < xs.length) (hx : nth xs i = 255) :
    spf (xs.drop i) o m p = if nth xs (i + 1) = 255 then none else if nth xs (i + 1) = 0 then spf (xs.drop (i + 2)) o m (p ++ [255, 0]) else spf (xs.drop (i + 2)) (o ++ [p]) (m ++ [nth xs (i + 1)]) [] := by
  have e : xs.drop i = nth xs i :: xs.drop (i + 1) := by rw [List.drop_eq_getElem_cons (by omega)]; simp [nth, List.getD, show i < xs.length by omega]
  have e2 : xs.drop (i + 1) = nth xs (i + 1) :: xs.drop (i + 2) := by rw [List.drop_eq_getElem_cons h]; simp [nth, List.getD, h]
  rw [e, e2]; simp only [spf]; rw [if_pos hx]
theorem spf_out (xs : List Int) (i : Nat) (o : List (List Int)) (m p : List Int) (h : xs.length ≤ i) : spf (xs.drop i) o m p = some (o ++ [p], m) := by
  rw [List.drop_of_length_le h, spf]
set_option maxRecDepth 100000 in
set_option maxHeartbeats 8000000 in
theorem split_any (w0 : World) (a : Option Addr) (n c : Nat) (xs : List Int) (hs : Sl w0 1 (.slice a n c) n (xs.map (Value.int .u8))) (hx : ∀ x ∈ xs, 0 ≤ x ∧ x < 256) (hb : n ≤ 1000000000) :
    Calls Tryd.prog 6 #[.slice a n c] w0 fun e w => (spf xs [] [] [] = none → e = .returned (.tuple #[.slice none 0 0, .slice none 0 0, .int .i64 4]) ∧ Ext w0 w) ∧
      (∀ ps ms, spf xs [] [] [] = some (ps, ms) → ∃ (pcs : List Pc) (ao am : Option Addr) (co cm lo lm : Nat), lo = ps.length ∧ lm = ms.length ∧ pcs.map (·.xs) = ps ∧ e = .returned (.tuple #[.slice ao lo co, .slice am lm cm, .int .i64 0]) ∧
        St w0 w [own 22 1 ao lo co (pcs.map Pc.val), own 3 1 am lm cm (ms.map (Value.int .i64)), star (pcs.map Pc.res)]) := by
  have hS := St.start w0
  have hln : xs.length = n := by have := hs.1; simpa using this
  have hcell : ∃ b0 o0, ∀ i, i < n → a = some ⟨b0, o0, none⟩ ∧ w0.cell? ⟨b0, o0 + i, none⟩ = some (.int .u8 (nth xs i)) := by
    obtain ⟨_, a1, c1, e1, _, _, hor⟩ := hs
    cases e1
    rcases hor with h0 | ⟨b0, o0, e2, hc⟩
    · exact ⟨0, 0, fun i hi => by omega⟩
    · refine ⟨b0, o0, fun i hi => ⟨e2, ?_⟩⟩
      rw [hc i (by omega), List.getElem?_map, get_nth xs i (by omega)]; rfl
  obtain ⟨b0, o0, hcell⟩ := hcell
  have hrng : ∀ i, i < n → 0 ≤ nth xs i ∧ nth xs i < 256 := fun i hi => hx _ (by simp [nth, List.getD, show i < xs.length by omega])
  have HC := hid hcell
  have HR := hid hrng
  have HT : Hid (∃ T, spf xs [] [] [] = T) := ⟨_, rfl⟩
  obtain ⟨T, hT⟩ := HT.out
  rw [hT]
  clear hcell hrng HT hx hs
  go_enter Tryd.func6, Tryd.ntmps6
  repeat' (first
    | go_skip
    | go_big_skip
    | ((with_reducible show wpList _ _ _ (⟨_, .move _, _, _, _, _⟩ :: _) _ _); (first | go_big_want | go_step); go_step)
    | ((with_reducible show wpList _ _ _ (⟨_, .assign _, _, _, _, _⟩ :: _) _ _); (first | go_big_want | go_step); go_step)
    | ((with_reducible show wpList _ _ _ (⟨_, .pick _ _ _, _, _, _, _⟩ :: _) _ _); first | (refine wplPickT rfl (by kernel_rfl) ?_; go_step) | (refine wplPickF rfl (by kernel_rfl) ?_; go_step))
    | ((fail_if_success (with_reducible show wpList _ _ _ (_ :: _) _ _)); go_step))
  go_loopg [5, 6, 7, 8] n (fun gk ov mv pv iv w => ∃ (i lo lm lp : Nat) (pcs : List Pc) (m p : List Int) (ao am ap : Option Addr) (co cm cp : Nat), gk + i = n ∧ lo = pcs.length ∧ lm = m.length ∧ lp = p.length ∧ lo ≤ i ∧ lm ≤ i ∧ lp ≤ i ∧ ov = .slice ao lo co ∧ mv = .slice am lm cm ∧ pv = .slice ap lp cp ∧ iv = .int .i64 i ∧
    spf (xs.drop i) (pcs.map (·.xs)) m p = T ∧ St w0 w [own 22 1 ao lo co (pcs.map Pc.val), own 3 1 am lm cm (m.map (Value.int .i64)), own 5 1 ap lp cp (p.map (Value.int .u8)), star (pcs.map Pc.res)])
  case atStart => exact ⟨0, 0, 0, 0, [], [], [], none, none, none, 0, 0, 0, by omega, rfl, rfl, rfl, by omega, by omega, by omega, rfl, rfl, rfl, rfl, hT, (((hS.star0).nilk 5 1 .u8).nilk 3 1 .i64).nil 22 1⟩
  case round =>
    clear hS hT
    obtain ⟨i, lo, lm, lp, pcs, m, p, ao, am, ap, co, cm, cp, hi, hlo, hlm, hlp, hlo2, hlm2, hlp2, rfl, rfl, rfl, rfl, hT, hS⟩ := hrel
    by_cases hlt : i < n
    · obtain ⟨rfl, hc0⟩ := HC.out i hlt
      by_cases hx : nth xs i = 255
      · by_cases hend : i + 1 = n
        · rw [spf_end xs i _ _ _ (by omega) hx] at hT
          have HT := hid hT
          rw [hx] at hc0
          clear hT hx
          repeat' (first
            | go_skip
            | go_big_skip
            | ((with_reducible show wpList _ _ _ (⟨_, .move _, _, _, _, _⟩ :: _) _ _); (first | go_big_want | go_step); go_step)
            | ((with_reducible show wpList _ _ _ (⟨_, .assign _, _, _, _, _⟩ :: _) _ _); (first | go_big_want | go_step); go_step)
            | ((with_reducible show wpList _ _ _ (⟨_, .pick _ _ _, _, _, _, _⟩ :: _) _ _); first | (refine wplPickT rfl (by kernel_rfl) ?_; go_step) | (refine wplPickF rfl (by kernel_rfl) ?_; go_step))
            | ((with_reducible show wpList _ _ _ (⟨some 11, .call ⟨.builtin .len, _, _⟩, _, _, _, _⟩ :: _) _ _); first | (refine wplV _ (V.len Tryd.underlying22 rfl) (by kernel_rfl) ?_; go_step))
            | ((with_reducible show wpList _ _ _ (⟨some 12, .binOp .lss _ _ _ _, _, _, _, _⟩ :: _) _ _); first | (refine wplV _ (V.lss rfl rfl) (by kernel_rfl) ?_; go_step))
            | ((fail_if_success (with_reducible show wpList _ _ _ (_ :: _) _ _)); go_step))
          repeat' (first
            | go_skip
            | go_big_skip
            | ((with_reducible show wpList _ _ _ (⟨_, .move _, _, _, _, _⟩ :: _) _ _); (first | go_big_want | go_step); go_step)
            | ((with_reducible show wpList _ _ _ (⟨_, .assign _, _, _, _, _⟩ :: _) _ _); (first | go_big_want | go_step); go_step)
            | ((with_reducible show wpList _ _ _ (⟨_, .pick _ _ _, _, _, _, _⟩ :: _) _ _); first | (refine wplPickT rfl (by kernel_rfl) ?_; go_step) | (refine wplPickF rfl (by kernel_rfl) ?_; go_step))
            | ((with_reducible show wpList _ _ _ (⟨some 17, .indexAddr 22 _ _, _, _, _, _⟩ :: _) _ _); first | (refine wplV _ (V.indexSl Tryd.underlying22 isz5 rfl rfl (by (repeat (first | exact IsN.auto | with_reducible apply IsN.add | with_reducible apply IsN.sub | with_reducible apply IsN.mul | with_reducible apply IsN.div | with_reducible apply IsN.mod | with_reducible apply IsN.min | with_reducible apply IsN.max | (with_reducible show (_ : Nat) ≤ _; omega) | exact IsN.toNat (by omega)))) (by omega) (Nat.mul_one _) (by first | with_reducible exact Nat.zero_add _ | with_reducible exact Nat.add_zero _ | exact rfl)) (by kernel_rfl) ?_; go_step) | (refine wpl_indexW (by with_reducible assumption) Tryd.underlying22 isz5 rfl rfl (by (repeat (first | exact IsN.auto | with_reducible apply IsN.add | with_reducible apply IsN.sub | with_reducible apply IsN.mul | with_reducible apply IsN.div | with_reducible apply IsN.mod | with_reducible apply IsN.min | with_reducible apply IsN.max | (with_reducible show (_ : Nat) ≤ _; omega) | exact IsN.toNat (by omega)))) (by omega) rfl ?_; intro b17 o17 hc17; go_step) | (refine wpl_indexO hS rfl (by (repeat (first | with_reducible exact Pull.head | apply Pull.tail))) Tryd.underlying22 isz5 rfl (by (repeat (first | exact IsN.auto | with_reducible apply IsN.add | with_reducible apply IsN.sub | with_reducible apply IsN.mul | with_reducible apply IsN.div | with_reducible apply IsN.mod | with_reducible apply IsN.min | with_reducible apply IsN.max | (with_reducible show (_ : Nat) ≤ _; omega) | exact IsN.toNat (by omega)))) (by omega) (Nat.mul_one _) rfl ?_; (first | (rintro b17 rfl) | (intro b17 hb17; cases hb17)); go_step))
            | ((with_reducible show wpList _ _ _ (⟨some 19, .binOp .neq 5 _ _ _, _, _, _, _⟩ :: _) _ _); first | (refine wplV _ (V.neq rfl rfl) (by kernel_rfl) ?_; go_step))
            | ((with_reducible show wpList _ _ _ (⟨_, .load 5 _, _, _, _, _⟩ :: _) _ _); first | (refine wpl (by kernel_rfl) ?_; apply wp_load1 hS 5 _ rfl _ _ rfl (one_of rfl) _; (case hp => (repeat (first | with_reducible exact Pull.head | apply Pull.tail))); (case hc => rfl); refine put_move ?_; go_step) | (refine wpl (by kernel_rfl) ?_; apply wp_load1O hS 5 _ rfl _ _ rfl (one_of rfl) _ _ _ _ _; (case hp => (repeat (first | with_reducible exact Pull.head | apply Pull.tail))); (case hv => with_reducible assumption); refine put_move ?_; go_step) | (refine wpl (by kernel_rfl) ?_; apply wp_loadW hS 5 _ rfl _ rfl (one_of rfl) _; (case hc => with_reducible assumption); refine put_move ?_; go_step))
            | ((fail_if_success (with_reducible show wpList _ _ _ (_ :: _) _ _)); go_step))
          repeat' (first
            | ((with_reducible show wpList _ _ _ (⟨some 28, .binOp .add _ _ _ _, _, _, _, _⟩ :: _) _ _); first | (refine wplV (.int _ (((i + 1 : Nat) : Int))) (V.as (V.addI rfl rfl (by omega)) (by omega)) rfl ?_; go_step) | (refine wplV (.int _ (((i + 1 : Nat) : Int))) (V.as (V.addR (by decide) rfl rfl) (by omega)) rfl ?_; go_step))
            | go_skip
            | go_big_skip
            | ((with_reducible show wpList _ _ _ (⟨_, .move _, _, _, _, _⟩ :: _) _ _); (first | go_big_want | go_step); go_step)
            | ((with_reducible show wpList _ _ _ (⟨_, .assign _, _, _, _, _⟩ :: _) _ _); (first | go_big_want | go_step); go_step)
            | ((with_reducible show wpList _ _ _ (⟨_, .pick _ _ _, _, _, _, _⟩ :: _) _ _); first | (refine wplPickT rfl (by kernel_rfl) ?_; go_step) | (refine wplPickF rfl (by kernel_rfl) ?_; go_step))
            | ((with_reducible show wpList _ _ _ (⟨some 28, .binOp .add _ _ _ _, _, _, _, _⟩ :: _) _ _); first | (refine wplV _ (V.addI rfl rfl (by omega)) (by kernel_rfl) ?_; go_step) | (refine wplV _ (V.addR (by decide) rfl rfl) (by kernel_rfl) ?_; go_step))
            | ((fail_if_success (with_reducible show wpList _ _ _ (_ :: _) _ _)); go_step))
          repeat' (first
            | go_skip
            | go_big_skip
            | ((with_reducible show wpList _ _ _ (⟨_, .move _, _, _, _, _⟩ :: _) _ _); (first | go_big_want | go_step); go_step)
            | ((with_reducible show wpList _ _ _ (⟨_, .assign _, _, _, _, _⟩ :: _) _ _); (first | go_big_want | go_step); go_step)
            | ((with_reducible show wpList _ _ _ (⟨_, .pick _ _ _, _, _, _, _⟩ :: _) _ _); first | (refine wplPickT rfl (by kernel_rfl) ?_; go_step) | (refine wplPickF rfl (by kernel_rfl) ?_; go_step))
            | ((with_reducible show wpList _ _ _ (⟨some 45, .binOp .eql 3 _ _ _, _, _, _, _⟩ :: _) _ _); first | (refine wplD _ (V.eql rfl rfl) (by kernel_rfl) (fun hB => ?_) (fun hB => ?_) <;> (try (have hF : False := (by omega); cases hF)) <;> go_step) | (refine wplB _ (V.eql rfl rfl) (by kernel_rfl) (fun hB => ?_) (fun hB => ?_) <;> (try (have hF : False := (absurd hB (by decide)); cases hF)) <;> go_step))
            | ((with_reducible show wpList _ _ _ (⟨some 44, .call ⟨.builtin .len, _, _⟩, _, _, _, _⟩ :: _) _ _); first | (refine wplV _ (V.len Tryd.underlying22 rfl) (by kernel_rfl) ?_; go_step))
            | ((with_reducible show wpList _ _ _ (⟨some 49, .indexAddr 22 _ _, _, _, _, _⟩ :: _) _ _); first | (refine wplV _ (V.indexSl Tryd.underlying22 isz5 rfl rfl (by (repeat (first | exact IsN.auto | with_reducible apply IsN.add | with_reducible apply IsN.sub | with_reducible apply IsN.mul | with_reducible apply IsN.div | with_reducible apply IsN.mod | with_reducible apply IsN.min | with_reducible apply IsN.max | (with_reducible show (_ : Nat) ≤ _; omega) | exact IsN.toNat (by omega)))) (by omega) (Nat.mul_one _) (by first | with_reducible exact Nat.zero_add _ | with_reducible exact Nat.add_zero _ | exact rfl)) (by kernel_rfl) ?_; go_step) | (refine wpl_indexW (by with_reducible assumption) Tryd.underlying22 isz5 rfl rfl (by (repeat (first | exact IsN.auto | with_reducible apply IsN.add | with_reducible apply IsN.sub | with_reducible apply IsN.mul | with_reducible apply IsN.div | with_reducible apply IsN.mod | with_reducible apply IsN.min | with_reducible apply IsN.max | (with_reducible show (_ : Nat) ≤ _; omega) | exact IsN.toNat (by omega)))) (by omega) rfl ?_; intro b49 o49 hc49; go_step) | (refine wpl_indexO hS rfl (by (repeat (first | with_reducible exact Pull.head | apply Pull.tail))) Tryd.underlying22 isz5 rfl (by (repeat (first | exact IsN.auto | with_reducible apply IsN.add | with_reducible apply IsN.sub | with_reducible apply IsN.mul | with_reducible apply IsN.div | with_reducible apply IsN.mod | with_reducible apply IsN.min | with_reducible apply IsN.max | (with_reducible show (_ : Nat) ≤ _; omega) | exact IsN.toNat (by omega)))) (by omega) (Nat.mul_one _) rfl ?_; (first | (rintro b49 rfl) | (intro b49 hb49; cases hb49)); go_step))
            | ((with_reducible show wpList _ _ _ (⟨some 51, .binOp .eql 5 _ _ _, _, _, _, _⟩ :: _) _ _); first | (refine wplV _ (V.eql rfl rfl) (by kernel_rfl) ?_; go_step))
            | ((with_reducible show wpList _ _ _ (⟨_, .load 5 _, _, _, _, _⟩ :: _) _ _); first | (refine wpl (by kernel_rfl) ?_; apply wp_load1 hS 5 _ rfl _ _ rfl (one_of rfl) _; (case hp => (repeat (first | with_reducible exact Pull.head | apply Pull.tail))); (case hc => rfl); refine put_move ?_; go_step) | (refine wpl (by kernel_rfl) ?_; apply wp_load1O hS 5 _ rfl _ _ rfl (one_of rfl) _ _ _ _ _; (case hp => (repeat (first | with_reducible exact Pull.head | apply Pull.tail))); (case hv => with_reducible assumption); refine put_move ?_; go_step) | (refine wpl (by kernel_rfl) ?_; apply wp_loadW hS 5 _ rfl _ rfl (one_of rfl) _; (case hc => with_reducible assumption); refine put_move ?_; go_step))
            | ((fail_if_success (with_reducible show wpList _ _ _ (_ :: _) _ _)); go_step))
          refine ret_all (xs := [_, _, _]) rfl (.cons (OneRes.tmp rfl) (.cons (OneRes.tmp rfl) (.cons (OneRes.tmp rfl) (.nil)))) (by simp) rfl ?_
          exact ⟨fun _ => ⟨rfl, hS.1⟩, fun ps ms h => by rw [← HT.out] at h; cases h⟩
        · rw [spf_two xs i _ _ _ (by omega) hx] at hT
          obtain ⟨_, hc1⟩ := HC.out (i + 1) (by omega)
          have hr := HR.out (i + 1) (by omega)
          rw [hx] at hc0
          obtain ⟨y, hy⟩ : ∃ y, nth xs (i + 1) = y := ⟨_, rfl⟩
          rw [hy] at hT hc1 hr
          clear hx hy
          by_cases hy255 : y = 255
          · rw [if_pos hy255] at hT
            have HT := hid hT
            clear hT
            repeat' (first
              | go_skip
              | go_big_skip
              | ((with_reducible show wpList _ _ _ (⟨_, .move _, _, _, _, _⟩ :: _) _ _); (first | go_big_want | go_step); go_step)
              | ((with_reducible show wpList _ _ _ (⟨_, .assign _, _, _, _, _⟩ :: _) _ _); (first | go_big_want | go_step); go_step)
              | ((with_reducible show wpList _ _ _ (⟨_, .pick _ _ _, _, _, _, _⟩ :: _) _ _); first | (refine wplPickT rfl (by kernel_rfl) ?_; go_step) | (refine wplPickF rfl (by kernel_rfl) ?_; go_step))
              | ((with_reducible show wpList _ _ _ (⟨some 11, .call ⟨.builtin .len, _, _⟩, _, _, _, _⟩ :: _) _ _); first | (refine wplV _ (V.len Tryd.underlying22 rfl) (by kernel_rfl) ?_; go_step))
              | ((with_reducible show wpList _ _ _ (⟨some 12, .binOp .lss _ _ _ _, _, _, _, _⟩ :: _) _ _); first | (refine wplV _ (V.lss rfl rfl) (by kernel_rfl) ?_; go_step))
              | ((fail_if_success (with_reducible show wpList _ _ _ (_ :: _) _ _)); go_step))
            repeat' (first
              | go_skip
              | go_big_skip
              | ((with_reducible show wpList _ _ _ (⟨_, .move _, _, _, _, _⟩ :: _) _ _); (first | go_big_want | go_step); go_step)
              | ((with_reducible show wpList _ _ _ (⟨_, .assign _, _, _, _, _⟩ :: _) _ _); (first | go_big_want | go_step); go_step)
              | ((with_reducible show wpList _ _ _ (⟨_, .pick _ _ _, _, _, _, _⟩ :: _) _ _); first | (refine wplPickT rfl (by kernel_rfl) ?_; go_step) | (refine wplPickF rfl (by kernel_rfl) ?_; go_step))
              | ((with_reducible show wpList _ _ _ (⟨some 17, .indexAddr 22 _ _, _, _, _, _⟩ :: _) _ _); first | (refine wplV _ (V.indexSl Tryd.underlying22 isz5 rfl rfl (by (repeat (first | exact IsN.auto | with_reducible apply IsN.add | with_reducible apply IsN.sub | with_reducible apply IsN.mul | with_reducible apply IsN.div | with_reducible apply IsN.mod | with_reducible apply IsN.min | with_reducible apply IsN.max | (with_reducible show (_ : Nat) ≤ _; omega) | exact IsN.toNat (by omega)))) (by omega) (Nat.mul_one _) (by first | with_reducible exact Nat.zero_add _ | with_reducible exact Nat.add_zero _ | exact rfl)) (by kernel_rfl) ?_; go_step) | (refine wpl_indexW (by with_reducible assumption) Tryd.underlying22 isz5 rfl rfl (by (repeat (first | exact IsN.auto | with_reducible apply IsN.add | with_reducible apply IsN.sub | with_reducible apply IsN.mul | with_reducible apply IsN.div | with_reducible apply IsN.mod | with_reducible apply IsN.min | with_reducible apply IsN.max | (with_reducible show (_ : Nat) ≤ _; omega) | exact IsN.toNat (by omega)))) (by omega) rfl ?_; intro b17 o17 hc17; go_step) | (refine wpl_indexO hS rfl (by (repeat (first | with_reducible exact Pull.head | apply Pull.tail))) Tryd.underlying22 isz5 rfl (by (repeat (first | exact IsN.auto | with_reducible apply IsN.add | with_reducible apply IsN.sub | with_reducible apply IsN.mul | with_reducible apply IsN.div | with_reducible apply IsN.mod | with_reducible apply IsN.min | with_reducible apply IsN.max | (with_reducible show (_ : Nat) ≤ _; omega) | exact IsN.toNat (by omega)))) (by omega) (Nat.mul_one _) rfl ?_; (first | (rintro b17 rfl) | (intro b17 hb17; cases hb17)); go_step))
              | ((with_reducible show wpList _ _ _ (⟨some 19, .binOp .neq 5 _ _ _, _, _, _, _⟩ :: _) _ _); first | (refine wplV _ (V.neq rfl rfl) (by kernel_rfl) ?_; go_step))
              | ((with_reducible show wpList _ _ _ (⟨_, .load 5 _, _, _, _, _⟩ :: _) _ _); first | (refine wpl (by kernel_rfl) ?_; apply wp_load1 hS 5 _ rfl _ _ rfl (one_of rfl) _; (case hp => (repeat (first | with_reducible exact Pull.head | apply Pull.tail))); (case hc => rfl); refine put_move ?_; go_step) | (refine wpl (by kernel_rfl) ?_; apply wp_load1O hS 5 _ rfl _ _ rfl (one_of rfl) _ _ _ _ _; (case hp => (repeat (first | with_reducible exact Pull.head | apply Pull.tail))); (case hv => with_reducible assumption); refine put_move ?_; go_step) | (refine wpl (by kernel_rfl) ?_; apply wp_loadW hS 5 _ rfl _ rfl (one_of rfl) _; (case hc => with_reducible assumption); refine put_move ?_; go_step))
              | ((fail_if_success (with_reducible show wpList _ _ _ (_ :: _) _ _)); go_step))
            repeat' (first
              | ((with_reducible show wpList _ _ _ (⟨some 28, .binOp .add _ _ _ _, _, _, _, _⟩ :: _) _ _); first | (refine wplV (.int _ (((i + 1 : Nat) : Int))) (V.as (V.addI rfl rfl (by omega)) (by omega)) rfl ?_; go_step) | (refine wplV (.int _ (((i + 1 : Nat) : Int))) (V.as (V.addR (by decide) rfl rfl) (by omega)) rfl ?_; go_step))
              | go_skip
              | go_big_skip
              | ((with_reducible show wpList _ _ _ (⟨_, .move _, _, _, _, _⟩ :: _) _ _); (first | go_big_want | go_step); go_step)
              | ((with_reducible show wpList _ _ _ (⟨_, .assign _, _, _, _, _⟩ :: _) _ _); (first | go_big_want | go_step); go_step)
              | ((with_reducible show wpList _ _ _ (⟨_, .pick _ _ _, _, _, _, _⟩ :: _) _ _); first | (refine wplPickT rfl (by kernel_rfl) ?_; go_step) | (refine wplPickF rfl (by kernel_rfl) ?_; go_step))
              | ((with_reducible show wpList _ _ _ (⟨some 28, .binOp .add _ _ _ _, _, _, _, _⟩ :: _) _ _); first | (refine wplV _ (V.addI rfl rfl (by omega)) (by kernel_rfl) ?_; go_step) | (refine wplV _ (V.addR (by decide) rfl rfl) (by kernel_rfl) ?_; go_step))
              | ((fail_if_success (with_reducible show wpList _ _ _ (_ :: _) _ _)); go_step))
            repeat' (first
              | go_skip
              | go_big_skip
              | ((with_reducible show wpList _ _ _ (⟨_, .move _, _, _, _, _⟩ :: _) _ _); (first | go_big_want | go_step); go_step)
              | ((with_reducible show wpList _ _ _ (⟨_, .assign _, _, _, _, _⟩ :: _) _ _); (first | go_big_want | go_step); go_step)
              | ((with_reducible show wpList _ _ _ (⟨_, .pick _ _ _, _, _, _, _⟩ :: _) _ _); first | (refine wplPickT rfl (by kernel_rfl) ?_; go_step) | (refine wplPickF rfl (by kernel_rfl) ?_; go_step))
              | ((with_reducible show wpList _ _ _ (⟨some 45, .binOp .eql 3 _ _ _, _, _, _, _⟩ :: _) _ _); first | (refine wplD _ (V.eql rfl rfl) (by kernel_rfl) (fun hB => ?_) (fun hB => ?_) <;> (try (have hF : False := (by omega); cases hF)) <;> go_step) | (refine wplB _ (V.eql rfl rfl) (by kernel_rfl) (fun hB => ?_) (fun hB => ?_) <;> (try (have hF : False := (absurd hB (by decide)); cases hF)) <;> go_step))
              | ((with_reducible show wpList _ _ _ (⟨some 44, .call ⟨.builtin .len, _, _⟩, _, _, _, _⟩ :: _) _ _); first | (refine wplV _ (V.len Tryd.underlying22 rfl) (by kernel_rfl) ?_; go_step))
              | ((with_reducible show wpList _ _ _ (⟨some 49, .indexAddr 22 _ _, _, _, _, _⟩ :: _) _ _); first | (refine wplV _ (V.indexSl Tryd.underlying22 isz5 rfl rfl (by (repeat (first | exact IsN.auto | with_reducible apply IsN.add | with_reducible apply IsN.sub | with_reducible apply IsN.mul | with_reducible apply IsN.div | with_reducible apply IsN.mod | with_reducible apply IsN.min | with_reducible apply IsN.max | (with_reducible show (_ : Nat) ≤ _; omega) | exact IsN.toNat (by omega)))) (by omega) (Nat.mul_one _) (by first | with_reducible exact Nat.zero_add _ | with_reducible exact Nat.add_zero _ | exact rfl)) (by kernel_rfl) ?_; go_step) | (refine wpl_indexW (by with_reducible assumption) Tryd.underlying22 isz5 rfl rfl (by (repeat (first | exact IsN.auto | with_reducible apply IsN.add | with_reducible apply IsN.sub | with_reducible apply IsN.mul | with_reducible apply IsN.div | with_reducible apply IsN.mod | with_reducible apply IsN.min | with_reducible apply IsN.max | (with_reducible show (_ : Nat) ≤ _; omega) | exact IsN.toNat (by omega)))) (by omega) rfl ?_; intro b49 o49 hc49; go_step) | (refine wpl_indexO hS rfl (by (repeat (first | with_reducible exact Pull.head | apply Pull.tail))) Tryd.underlying22 isz5 rfl (by (repeat (first | exact IsN.auto | with_reducible apply IsN.add | with_reducible apply IsN.sub | with_reducible apply IsN.mul | with_reducible apply IsN.div | with_reducible apply IsN.mod | with_reducible apply IsN.min | with_reducible apply IsN.max | (with_reducible show (_ : Nat) ≤ _; omega) | exact IsN.toNat (by omega)))) (by omega) (Nat.mul_one _) rfl ?_; (first | (rintro b49 rfl) | (intro b49 hb49; cases hb49)); go_step))
              | ((with_reducible show wpList _ _ _ (⟨some 51, .binOp .eql 5 _ _ _, _, _, _, _⟩ :: _) _ _); first | (refine wplV _ (V.eql rfl rfl) (by kernel_rfl) ?_; go_step))
              | ((with_reducible show wpList _ _ _ (⟨_, .load 5 _, _, _, _, _⟩ :: _) _ _); first | (refine wpl (by kernel_rfl) ?_; apply wp_load1 hS 5 _ rfl _ _ rfl (one_of rfl) _; (case hp => (repeat (first | with_reducible exact Pull.head | apply Pull.tail))); (case hc => rfl); refine put_move ?_; go_step) | (refine wpl (by kernel_rfl) ?_; apply wp_load1O hS 5 _ rfl _ _ rfl (one_of rfl) _ _ _ _ _; (case hp => (repeat (first | with_reducible exact Pull.head | apply Pull.tail))); (case hv => with_reducible assumption); refine put_move ?_; go_step) | (refine wpl (by kernel_rfl) ?_; apply wp_loadW hS 5 _ rfl _ rfl (one_of rfl) _; (case hc => with_reducible assumption); refine put_move ?_; go_step))
              | ((fail_if_success (with_reducible show wpList _ _ _ (_ :: _) _ _)); go_step))
            refine ret_all (xs := [_, _, _]) rfl (.cons (OneRes.tmp rfl) (.cons (OneRes.tmp rfl) (.cons (OneRes.tmp rfl) (.nil)))) (by simp) rfl ?_
            exact ⟨fun _ => ⟨rfl, hS.1⟩, fun ps ms h => by rw [← HT.out] at h; cases h⟩
          · rw [if_neg hy255] at hT
            by_cases hy0 : y = 0
            · rw [if_pos hy0] at hT
              have HT := hid hT
              clear hT
              repeat' (first
                | go_skip
                | go_big_skip
                | ((with_reducible show wpList _ _ _ (⟨_, .move _, _, _, _, _⟩ :: _) _ _); (first | go_big_want | go_step); go_step)
                | ((with_reducible show wpList _ _ _ (⟨_, .assign _, _, _, _, _⟩ :: _) _ _); (first | go_big_want | go_step); go_step)
                | ((with_reducible show wpList _ _ _ (⟨_, .pick _ _ _, _, _, _, _⟩ :: _) _ _); first | (refine wplPickT rfl (by kernel_rfl) ?_; go_step) | (refine wplPickF rfl (by kernel_rfl) ?_; go_step))
                | ((with_reducible show wpList _ _ _ (⟨some 11, .call ⟨.builtin .len, _, _⟩, _, _, _, _⟩ :: _) _ _); first | (refine wplV _ (V.len Tryd.underlying22 rfl) (by kernel_rfl) ?_; go_step))
                | ((with_reducible show wpList _ _ _ (⟨some 12, .binOp .lss _ _ _ _, _, _, _, _⟩ :: _) _ _); first | (refine wplV _ (V.lss rfl rfl) (by kernel_rfl) ?_; go_step))
                | ((fail_if_success (with_reducible show wpList _ _ _ (_ :: _) _ _)); go_step))
              repeat' (first
                | go_skip
                | go_big_skip
                | ((with_reducible show wpList _ _ _ (⟨_, .move _, _, _, _, _⟩ :: _) _ _); (first | go_big_want | go_step); go_step)
                | ((with_reducible show wpList _ _ _ (⟨_, .assign _, _, _, _, _⟩ :: _) _ _); (first | go_big_want | go_step); go_step)
                | ((with_reducible show wpList _ _ _ (⟨_, .pick _ _ _, _, _, _, _⟩ :: _) _ _); first | (refine wplPickT rfl (by kernel_rfl) ?_; go_step) | (refine wplPickF rfl (by kernel_rfl) ?_; go_step))
                | ((with_reducible show wpList _ _ _ (⟨some 17, .indexAddr 22 _ _, _, _, _, _⟩ :: _) _ _); first | (refine wplV _ (V.indexSl Tryd.underlying22 isz5 rfl rfl (by (repeat (first | exact IsN.auto | with_reducible apply IsN.add | with_reducible apply IsN.sub | with_reducible apply IsN.mul | with_reducible apply IsN.div | with_reducible apply IsN.mod | with_reducible apply IsN.min | with_reducible apply IsN.max | (with_reducible show (_ : Nat) ≤ _; omega) | exact IsN.toNat (by omega)))) (by omega) (Nat.mul_one _) (by first | with_reducible exact Nat.zero_add _ | with_reducible exact Nat.add_zero _ | exact rfl)) (by kernel_rfl) ?_; go_step) | (refine wpl_indexW (by with_reducible assumption) Tryd.underlying22 isz5 rfl rfl (by (repeat (first | exact IsN.auto | with_reducible apply IsN.add | with_reducible apply IsN.sub | with_reducible apply IsN.mul | with_reducible apply IsN.div | with_reducible apply IsN.mod | with_reducible apply IsN.min | with_reducible apply IsN.max | (with_reducible show (_ : Nat) ≤ _; omega) | exact IsN.toNat (by omega)))) (by omega) rfl ?_; intro b17 o17 hc17; go_step) | (refine wpl_indexO hS rfl (by (repeat (first | with_reducible exact Pull.head | apply Pull.tail))) Tryd.underlying22 isz5 rfl (by (repeat (first | exact IsN.auto | with_reducible apply IsN.add | with_reducible apply IsN.sub | with_reducible apply IsN.mul | with_reducible apply IsN.div | with_reducible apply IsN.mod | with_reducible apply IsN.min | with_reducible apply IsN.max | (with_reducible show (_ : Nat) ≤ _; omega) | exact IsN.toNat (by omega)))) (by omega) (Nat.mul_one _) rfl ?_; (first | (rintro b17 rfl) | (intro b17 hb17; cases hb17)); go_step))
                | ((with_reducible show wpList _ _ _ (⟨some 19, .binOp .neq 5 _ _ _, _, _, _, _⟩ :: _) _ _); first | (refine wplV _ (V.neq rfl rfl) (by kernel_rfl) ?_; go_step))
                | ((with_reducible show wpList _ _ _ (⟨_, .load 5 _, _, _, _, _⟩ :: _) _ _); first | (refine wpl (by kernel_rfl) ?_; apply wp_load1 hS 5 _ rfl _ _ rfl (one_of rfl) _; (case hp => (repeat (first | with_reducible exact Pull.head | apply Pull.tail))); (case hc => rfl); refine put_move ?_; go_step) | (refine wpl (by kernel_rfl) ?_; apply wp_load1O hS 5 _ rfl _ _ rfl (one_of rfl) _ _ _ _ _; (case hp => (repeat (first | with_reducible exact Pull.head | apply Pull.tail))); (case hv => with_reducible assumption); refine put_move ?_; go_step) | (refine wpl (by kernel_rfl) ?_; apply wp_loadW hS 5 _ rfl _ rfl (one_of rfl) _; (case hc => with_reducible assumption); refine put_move ?_; go_step))
                | ((fail_if_success (with_reducible show wpList _ _ _ (_ :: _) _ _)); go_step))
              repeat' (first
                | ((with_reducible show wpList _ _ _ (⟨some 28, .binOp .add _ _ _ _, _, _, _, _⟩ :: _) _ _); first | (refine wplV (.int _ (((i + 1 : Nat) : Int))) (V.as (V.addI rfl rfl (by omega)) (by omega)) rfl ?_; go_step) | (refine wplV (.int _ (((i + 1 : Nat) : Int))) (V.as (V.addR (by decide) rfl rfl) (by omega)) rfl ?_; go_step))
                | go_skip
                | go_big_skip
                | ((with_reducible show wpList _ _ _ (⟨_, .move _, _, _, _, _⟩ :: _) _ _); (first | go_big_want | go_step); go_step)
                | ((with_reducible show wpList _ _ _ (⟨_, .assign _, _, _, _, _⟩ :: _) _ _); (first | go_big_want | go_step); go_step)
                | ((with_reducible show wpList _ _ _ (⟨_, .pick _ _ _, _, _, _, _⟩ :: _) _ _); first | (refine wplPickT rfl (by kernel_rfl) ?_; go_step) | (refine wplPickF rfl (by kernel_rfl) ?_; go_step))
                | ((with_reducible show wpList _ _ _ (⟨some 28, .binOp .add _ _ _ _, _, _, _, _⟩ :: _) _ _); first | (refine wplV _ (V.addI rfl rfl (by omega)) (by kernel_rfl) ?_; go_step) | (refine wplV _ (V.addR (by decide) rfl rfl) (by kernel_rfl) ?_; go_step))
                | ((fail_if_success (with_reducible show wpList _ _ _ (_ :: _) _ _)); go_step))
              repeat' (first
                | go_skip
                | go_big_skip
                | ((with_reducible show wpList _ _ _ (⟨_, .move _, _, _, _, _⟩ :: _) _ _); (first | go_big_want | go_step); go_step)
                | ((with_reducible show wpList _ _ _ (⟨_, .assign _, _, _, _, _⟩ :: _) _ _); (first | go_big_want | go_step); go_step)
                | ((with_reducible show wpList _ _ _ (⟨_, .pick _ _ _, _, _, _, _⟩ :: _) _ _); first | (refine wplPickT rfl (by kernel_rfl) ?_; go_step) | (refine wplPickF rfl (by kernel_rfl) ?_; go_step))
                | ((with_reducible show wpList _ _ _ (⟨some 45, .binOp .eql 3 _ _ _, _, _, _, _⟩ :: _) _ _); first | (refine wplD _ (V.eql rfl rfl) (by kernel_rfl) (fun hB => ?_) (fun hB => ?_) <;> (try (have hF : False := (by omega); cases hF)) <;> go_step) | (refine wplB _ (V.eql rfl rfl) (by kernel_rfl) (fun hB => ?_) (fun hB => ?_) <;> (try (have hF : False := (absurd hB (by decide)); cases hF)) <;> go_step))
                | ((with_reducible show wpList _ _ _ (⟨some 44, .call ⟨.builtin .len, _, _⟩, _, _, _, _⟩ :: _) _ _); first | (refine wplV _ (V.len Tryd.underlying22 rfl) (by kernel_rfl) ?_; go_step))
                | ((with_reducible show wpList _ _ _ (⟨some 49, .indexAddr 22 _ _, _, _, _, _⟩ :: _) _ _); first | (refine wplV _ (V.indexSl Tryd.underlying22 isz5 rfl rfl (by (repeat (first | exact IsN.auto | with_reducible apply IsN.add | with_reducible apply IsN.sub | with_reducible apply IsN.mul | with_reducible apply IsN.div | with_reducible apply IsN.mod | with_reducible apply IsN.min | with_reducible apply IsN.max | (with_reducible show (_ : Nat) ≤ _; omega) | exact IsN.toNat (by omega)))) (by omega) (Nat.mul_one _) (by first | with_reducible exact Nat.zero_add _ | with_reducible exact Nat.add_zero _ | exact rfl)) (by kernel_rfl) ?_; go_step) | (refine wpl_indexW (by with_reducible assumption) Tryd.underlying22 isz5 rfl rfl (by (repeat (first | exact IsN.auto | with_reducible apply IsN.add | with_reducible apply IsN.sub | with_reducible apply IsN.mul | with_reducible apply IsN.div | with_reducible apply IsN.mod | with_reducible apply IsN.min | with_reducible apply IsN.max | (with_reducible show (_ : Nat) ≤ _; omega) | exact IsN.toNat (by omega)))) (by omega) rfl ?_; intro b49 o49 hc49; go_step) | (refine wpl_indexO hS rfl (by (repeat (first | with_reducible exact Pull.head | apply Pull.tail))) Tryd.underlying22 isz5 rfl (by (repeat (first | exact IsN.auto | with_reducible apply IsN.add | with_reducible apply IsN.sub | with_reducible apply IsN.mul | with_reducible apply IsN.div | with_reducible apply IsN.mod | with_reducible apply IsN.min | with_reducible apply IsN.max | (with_reducible show (_ : Nat) ≤ _; omega) | exact IsN.toNat (by omega)))) (by omega) (Nat.mul_one _) rfl ?_; (first | (rintro b49 rfl) | (intro b49 hb49; cases hb49)); go_step))
                | ((with_reducible show wpList _ _ _ (⟨some 51, .binOp .eql 5 _ _ _, _, _, _, _⟩ :: _) _ _); first | (refine wplV _ (V.eql rfl rfl) (by kernel_rfl) ?_; go_step))
                | ((with_reducible show wpList _ _ _ (⟨_, .load 5 _, _, _, _, _⟩ :: _) _ _); first | (refine wpl (by kernel_rfl) ?_; apply wp_load1 hS 5 _ rfl _ _ rfl (one_of rfl) _; (case hp => (repeat (first | with_reducible exact Pull.head | apply Pull.tail))); (case hc => rfl); refine put_move ?_; go_step) | (refine wpl (by kernel_rfl) ?_; apply wp_load1O hS 5 _ rfl _ _ rfl (one_of rfl) _ _ _ _ _; (case hp => (repeat (first | with_reducible exact Pull.head | apply Pull.tail))); (case hv => with_reducible assumption); refine put_move ?_; go_step) | (refine wpl (by kernel_rfl) ?_; apply wp_loadW hS 5 _ rfl _ rfl (one_of rfl) _; (case hc => with_reducible assumption); refine put_move ?_; go_step))
                | ((fail_if_success (with_reducible show wpList _ _ _ (_ :: _) _ _)); go_step))
              repeat' (first
                | go_skip
                | go_big_skip
                | ((with_reducible show wpList _ _ _ (⟨_, .move _, _, _, _, _⟩ :: _) _ _); (first | go_big_want | go_step); go_step)
                | ((with_reducible show wpList _ _ _ (⟨_, .assign _, _, _, _, _⟩ :: _) _ _); (first | go_big_want | go_step); go_step)
                | ((with_reducible show wpList _ _ _ (⟨_, .pick _ _ _, _, _, _, _⟩ :: _) _ _); first | (refine wplPickT rfl (by kernel_rfl) ?_; go_step) | (refine wplPickF rfl (by kernel_rfl) ?_; go_step))
                | ((with_reducible show wpList _ _ _ (⟨some 56, .indexAddr 22 _ _, _, _, _, _⟩ :: _) _ _); first | (refine wplV _ (V.indexSl Tryd.underlying22 isz5 rfl rfl (by (repeat (first | exact IsN.auto | with_reducible apply IsN.add | with_reducible apply IsN.sub | with_reducible apply IsN.mul | with_reducible apply IsN.div | with_reducible apply IsN.mod | with_reducible apply IsN.min | with_reducible apply IsN.max | (with_reducible show (_ : Nat) ≤ _; omega) | exact IsN.toNat (by omega)))) (by omega) (Nat.mul_one _) (by first | with_reducible exact Nat.zero_add _ | with_reducible exact Nat.add_zero _ | exact rfl)) (by kernel_rfl) ?_; go_step) | (refine wpl_indexW (by with_reducible assumption) Tryd.underlying22 isz5 rfl rfl (by (repeat (first | exact IsN.auto | with_reducible apply IsN.add | with_reducible apply IsN.sub | with_reducible apply IsN.mul | with_reducible apply IsN.div | with_reducible apply IsN.mod | with_reducible apply IsN.min | with_reducible apply IsN.max | (with_reducible show (_ : Nat) ≤ _; omega) | exact IsN.toNat (by omega)))) (by omega) rfl ?_; intro b56 o56 hc56; go_step) | (refine wpl_indexO hS rfl (by (repeat (first | with_reducible exact Pull.head | apply Pull.tail))) Tryd.underlying22 isz5 rfl (by (repeat (first | exact IsN.auto | with_reducible apply IsN.add | with_reducible apply IsN.sub | with_reducible apply IsN.mul | with_reducible apply IsN.div | with_reducible apply IsN.mod | with_reducible apply IsN.min | with_reducible apply IsN.max | (with_reducible show (_ : Nat) ≤ _; omega) | exact IsN.toNat (by omega)))) (by omega) (Nat.mul_one _) rfl ?_; (first | (rintro b56 rfl) | (intro b56 hb56; cases hb56)); go_step))
                | ((with_reducible show wpList _ _ _ (⟨some 58, .binOp .eql 5 _ _ _, _, _, _, _⟩ :: _) _ _); first | (refine wplV _ (V.eql rfl rfl) (by kernel_rfl) ?_; go_step))
                | ((with_reducible show wpList _ _ _ (⟨_, .load 5 _, _, _, _, _⟩ :: _) _ _); first | (refine wpl (by kernel_rfl) ?_; apply wp_load1 hS 5 _ rfl _ _ rfl (one_of rfl) _; (case hp => (repeat (first | with_reducible exact Pull.head | apply Pull.tail))); (case hc => rfl); refine put_move ?_; go_step) | (refine wpl (by kernel_rfl) ?_; apply wp_load1O hS 5 _ rfl _ _ rfl (one_of rfl) _ _ _ _ _; (case hp => (repeat (first | with_reducible exact Pull.head | apply Pull.tail))); (case hv => with_reducible assumption); refine put_move ?_; go_step) | (refine wpl (by kernel_rfl) ?_; apply wp_loadW hS 5 _ rfl _ rfl (one_of rfl) _; (case hc => with_reducible assumption); refine put_move ?_; go_step))
                | ((with_reducible show wpList _ _ _ (⟨some 60, .buildSlice 22 _ _, _, _, _, _⟩ :: _) _ _); first | (refine wpl (by kernel_rfl) ?_; apply wp_buildSlice1 (o := ⟨some 60, _, _, _, _, _⟩) hS 22 2 _ rfl 5 1 1 el22 _ _; (case hvs => (repeat (first | exact Parts.nil | (apply Parts.agg; (rfl); (rfl)) | (apply Parts.one; (first | exact IsV.int rfl | exact IsV.bool rfl | exact IsV.slice rfl | exact IsV.pointer rfl | exact IsV.string rfl | exact IsV.map rfl | exact IsV.func rfl); (rfl); (rfl))))); (case hn => rfl); (case hn0 => decide); (case hns => decide); clear hS; intro g60 w hS; refine put_move ?_; go_step))
                | ((with_reducible show wpList _ _ _ (⟨some 61, .call ⟨.builtin .append, _, _⟩, _, _, _, _⟩ :: _) _ _); first | (refine wpl (by kernel_rfl) ?_; apply wp_append (o := ⟨some 61, _, _, _, _, _⟩) hS _ _ 22 rfl 5 1 1 el22 _ _ _ _ rfl; (case hp => (repeat (first | with_reducible exact Pull.head | apply Pull.tail))); (case hx => exact rfl); (case hm => (first | exact hS.slBlk (by (repeat (first | with_reducible exact Pull.head | apply Pull.tail))) (by rfl) (by decide) | exact hS.sl (by (repeat (first | with_reducible exact Pull.head | apply Pull.tail))) | with_reducible assumption | exact Sl.ext (by with_reducible assumption) hS.1 | exact Sl.nil _ _ | exact Sl.ext (by assumption) hS.1 | assumption)); (case h1 => (first | exact oneAll rfl | exact oneMap _ _ | (intro u hu; cases hu))); (case h63 => unfold maxLen; omega); (case hb => omega); clear hS; intro ad61 c61 w hS; (first | simp only [mapk1] at hS | simp only [mapk2] at hS | simp only [mapk3] at hS | simp only [mapk4] at hS | simp only [mapkl] at hS | skip); refine put_move ?_; go_step) | (refine wpl (by kernel_rfl) ?_; apply wp_append (o := ⟨some 61, _, _, _, _, _⟩) (hS.nilk 5 1 .u8) _ _ 22 rfl 5 1 1 el22 _ _ _ _ rfl; (case hp => (repeat (first | with_reducible exact Pull.head | apply Pull.tail))); (case hx => exact rfl); (case hm => (first | exact hS.slBlk (by (repeat (first | with_reducible exact Pull.head | apply Pull.tail))) (by rfl) (by decide) | exact hS.sl (by (repeat (first | with_reducible exact Pull.head | apply Pull.tail))) | with_reducible assumption | exact Sl.ext (by with_reducible assumption) hS.1 | exact Sl.nil _ _ | exact Sl.ext (by assumption) hS.1 | assumption)); (case h1 => (first | exact oneAll rfl | exact oneMap _ _ | (intro u hu; cases hu))); (case h63 => unfold maxLen; omega); (case hb => omega); clear hS; intro ad61 c61 w hS; (first | simp only [mapk1] at hS | simp only [mapk2] at hS | simp only [mapk3] at hS | simp only [mapk4] at hS | simp only [mapkl] at hS | skip); refine put_move ?_; go_step))
                | ((fail_if_success (with_reducible show wpList _ _ _ (_ :: _) _ _)); go_step))
              repeat' (first
                | ((with_reducible show wpList _ _ _ (⟨some 14, .binOp .add _ _ _ _, _, _, _, _⟩ :: _) _ _); first | (refine wplV (.int _ (((i + 2 : Nat) : Int))) (V.as (V.addI rfl rfl (by omega)) (by omega)) rfl ?_; go_step) | (refine wplV (.int _ (((i + 2 : Nat) : Int))) (V.as (V.addR (by decide) rfl rfl) (by omega)) rfl ?_; go_step))
                | go_skip
                | go_big_skip
                | ((with_reducible show wpList _ _ _ (⟨_, .move _, _, _, _, _⟩ :: _) _ _); (first | go_big_want | go_step); go_step)
                | ((with_reducible show wpList _ _ _ (⟨_, .assign _, _, _, _, _⟩ :: _) _ _); (first | go_big_want | go_step); go_step)
                | ((with_reducible show wpList _ _ _ (⟨_, .pick _ _ _, _, _, _, _⟩ :: _) _ _); first | (refine wplPickT rfl (by kernel_rfl) ?_; go_step) | (refine wplPickF rfl (by kernel_rfl) ?_; go_step))
                | ((with_reducible show wpList _ _ _ (⟨some 14, .binOp .add _ _ _ _, _, _, _, _⟩ :: _) _ _); first | (refine wplV _ (V.addI rfl rfl (by omega)) (by kernel_rfl) ?_; go_step) | (refine wplV _ (V.addR (by decide) rfl rfl) (by kernel_rfl) ?_; go_step))
                | ((fail_if_success (with_reducible show wpList _ _ _ (_ :: _) _ _)); go_step))
              go_roundg (gk - 2)
              case measure => omega
              case rel => exact ⟨i + 2, lo, lm, lp + 2, pcs, m, p ++ [255, 0], _, _, _, _, _, _, by omega, hlo, hlm, by simp; omega, by omega, by omega, by omega, rfl, rfl, rfl, by go_num, HT.out, hS.sub (by (repeat (first | exact Sub.nil | with_reducible exact Sub.refl | (apply Sub.cons; (case p => (repeat (first | with_reducible exact Pull.head | apply Pull.tail)))) | apply Sub.skip)))⟩
            · rw [if_neg hy0] at hT
              have HT := hid hT
              clear hT
              repeat' (first
                | go_skip
                | go_big_skip
                | ((with_reducible show wpList _ _ _ (⟨_, .move _, _, _, _, _⟩ :: _) _ _); (first | go_big_want | go_step); go_step)
                | ((with_reducible show wpList _ _ _ (⟨_, .assign _, _, _, _, _⟩ :: _) _ _); (first | go_big_want | go_step); go_step)
                | ((with_reducible show wpList _ _ _ (⟨_, .pick _ _ _, _, _, _, _⟩ :: _) _ _); first | (refine wplPickT rfl (by kernel_rfl) ?_; go_step) | (refine wplPickF rfl (by kernel_rfl) ?_; go_step))
                | ((with_reducible show wpList _ _ _ (⟨some 11, .call ⟨.builtin .len, _, _⟩, _, _, _, _⟩ :: _) _ _); first | (refine wplV _ (V.len Tryd.underlying22 rfl) (by kernel_rfl) ?_; go_step))
                | ((with_reducible show wpList _ _ _ (⟨some 12, .binOp .lss _ _ _ _, _, _, _, _⟩ :: _) _ _); first | (refine wplV _ (V.lss rfl rfl) (by kernel_rfl) ?_; go_step))
                | ((fail_if_success (with_reducible show wpList _ _ _ (_ :: _) _ _)); go_step))
              repeat' (first
                | go_skip
                | go_big_skip
                | ((with_reducible show wpList _ _ _ (⟨_, .move _, _, _, _, _⟩ :: _) _ _); (first | go_big_want | go_step); go_step)
                | ((with_reducible show wpList _ _ _ (⟨_, .assign _, _, _, _, _⟩ :: _) _ _); (first | go_big_want | go_step); go_step)
                | ((with_reducible show wpList _ _ _ (⟨_, .pick _ _ _, _, _, _, _⟩ :: _) _ _); first | (refine wplPickT rfl (by kernel_rfl) ?_; go_step) | (refine wplPickF rfl (by kernel_rfl) ?_; go_step))
                | ((with_reducible show wpList _ _ _ (⟨some 17, .indexAddr 22 _ _, _, _, _, _⟩ :: _) _ _); first | (refine wplV _ (V.indexSl Tryd.underlying22 isz5 rfl rfl (by (repeat (first | exact IsN.auto | with_reducible apply IsN.add | with_reducible apply IsN.sub | with_reducible apply IsN.mul | with_reducible apply IsN.div | with_reducible apply IsN.mod | with_reducible apply IsN.min | with_reducible apply IsN.max | (with_reducible show (_ : Nat) ≤ _; omega) | exact IsN.toNat (by omega)))) (by omega) (Nat.mul_one _) (by first | with_reducible exact Nat.zero_add _ | with_reducible exact Nat.add_zero _ | exact rfl)) (by kernel_rfl) ?_; go_step) | (refine wpl_indexW (by with_reducible assumption) Tryd.underlying22 isz5 rfl rfl (by (repeat (first | exact IsN.auto | with_reducible apply IsN.add | with_reducible apply IsN.sub | with_reducible apply IsN.mul | with_reducible apply IsN.div | with_reducible apply IsN.mod | with_reducible apply IsN.min | with_reducible apply IsN.max | (with_reducible show (_ : Nat) ≤ _; omega) | exact IsN.toNat (by omega)))) (by omega) rfl ?_; intro b17 o17 hc17; go_step) | (refine wpl_indexO hS rfl (by (repeat (first | with_reducible exact Pull.head | apply Pull.tail))) Tryd.underlying22 isz5 rfl (by (repeat (first | exact IsN.auto | with_reducible apply IsN.add | with_reducible apply IsN.sub | with_reducible apply IsN.mul | with_reducible apply IsN.div | with_reducible apply IsN.mod | with_reducible apply IsN.min | with_reducible apply IsN.max | (with_reducible show (_ : Nat) ≤ _; omega) | exact IsN.toNat (by omega)))) (by omega) (Nat.mul_one _) rfl ?_; (first | (rintro b17 rfl) | (intro b17 hb17; cases hb17)); go_step))
                | ((with_reducible show wpList _ _ _ (⟨some 19, .binOp .neq 5 _ _ _, _, _, _, _⟩ :: _) _ _); first | (refine wplV _ (V.neq rfl rfl) (by kernel_rfl) ?_; go_step))
                | ((with_reducible show wpList _ _ _ (⟨_, .load 5 _, _, _, _, _⟩ :: _) _ _); first | (refine wpl (by kernel_rfl) ?_; apply wp_load1 hS 5 _ rfl _ _ rfl (one_of rfl) _; (case hp => (repeat (first | with_reducible exact Pull.head | apply Pull.tail))); (case hc => rfl); refine put_move ?_; go_step) | (refine wpl (by kernel_rfl) ?_; apply wp_load1O hS 5 _ rfl _ _ rfl (one_of rfl) _ _ _ _ _; (case hp => (repeat (first | with_reducible exact Pull.head | apply Pull.tail))); (case hv => with_reducible assumption); refine put_move ?_; go_step) | (refine wpl (by kernel_rfl) ?_; apply wp_loadW hS 5 _ rfl _ rfl (one_of rfl) _; (case hc => with_reducible assumption); refine put_move ?_; go_step))
                | ((fail_if_success (with_reducible show wpList _ _ _ (_ :: _) _ _)); go_step))
              repeat' (first
                | ((with_reducible show wpList _ _ _ (⟨some 28, .binOp .add _ _ _ _, _, _, _, _⟩ :: _) _ _); first | (refine wplV (.int _ (((i + 1 : Nat) : Int))) (V.as (V.addI rfl rfl (by omega)) (by omega)) rfl ?_; go_step) | (refine wplV (.int _ (((i + 1 : Nat) : Int))) (V.as (V.addR (by decide) rfl rfl) (by omega)) rfl ?_; go_step))
                | go_skip
                | go_big_skip
                | ((with_reducible show wpList _ _ _ (⟨_, .move _, _, _, _, _⟩ :: _) _ _); (first | go_big_want | go_step); go_step)
                | ((with_reducible show wpList _ _ _ (⟨_, .assign _, _, _, _, _⟩ :: _) _ _); (first | go_big_want | go_step); go_step)
                | ((with_reducible show wpList _ _ _ (⟨_, .pick _ _ _, _, _, _, _⟩ :: _) _ _); first | (refine wplPickT rfl (by kernel_rfl) ?_; go_step) | (refine wplPickF rfl (by kernel_rfl) ?_; go_step))
                | ((with_reducible show wpList _ _ _ (⟨some 28, .binOp .add _ _ _ _, _, _, _, _⟩ :: _) _ _); first | (refine wplV _ (V.addI rfl rfl (by omega)) (by kernel_rfl) ?_; go_step) | (refine wplV _ (V.addR (by decide) rfl rfl) (by kernel_rfl) ?_; go_step))
                | ((fail_if_success (with_reducible show wpList _ _ _ (_ :: _) _ _)); go_step))
              repeat' (first
                | go_skip
                | go_big_skip
                | ((with_reducible show wpList _ _ _ (⟨_, .move _, _, _, _, _⟩ :: _) _ _); (first | go_big_want | go_step); go_step)
                | ((with_reducible show wpList _ _ _ (⟨_, .assign _, _, _, _, _⟩ :: _) _ _); (first | go_big_want | go_step); go_step)
                | ((with_reducible show wpList _ _ _ (⟨_, .pick _ _ _, _, _, _, _⟩ :: _) _ _); first | (refine wplPickT rfl (by kernel_rfl) ?_; go_step) | (refine wplPickF rfl (by kernel_rfl) ?_; go_step))
                | ((with_reducible show wpList _ _ _ (⟨some 45, .binOp .eql 3 _ _ _, _, _, _, _⟩ :: _) _ _); first | (refine wplD _ (V.eql rfl rfl) (by kernel_rfl) (fun hB => ?_) (fun hB => ?_) <;> (try (have hF : False := (by omega); cases hF)) <;> go_step) | (refine wplB _ (V.eql rfl rfl) (by kernel_rfl) (fun hB => ?_) (fun hB => ?_) <;> (try (have hF : False := (absurd hB (by decide)); cases hF)) <;> go_step))
                | ((with_reducible show wpList _ _ _ (⟨some 44, .call ⟨.builtin .len, _, _⟩, _, _, _, _⟩ :: _) _ _); first | (refine wplV _ (V.len Tryd.underlying22 rfl) (by kernel_rfl) ?_; go_step))
                | ((with_reducible show wpList _ _ _ (⟨some 49, .indexAddr 22 _ _, _, _, _, _⟩ :: _) _ _); first | (refine wplV _ (V.indexSl Tryd.underlying22 isz5 rfl rfl (by (repeat (first | exact IsN.auto | with_reducible apply IsN.add | with_reducible apply IsN.sub | with_reducible apply IsN.mul | with_reducible apply IsN.div | with_reducible apply IsN.mod | with_reducible apply IsN.min | with_reducible apply IsN.max | (with_reducible show (_ : Nat) ≤ _; omega) | exact IsN.toNat (by omega)))) (by omega) (Nat.mul_one _) (by first | with_reducible exact Nat.zero_add _ | with_reducible exact Nat.add_zero _ | exact rfl)) (by kernel_rfl) ?_; go_step) | (refine wpl_indexW (by with_reducible assumption) Tryd.underlying22 isz5 rfl rfl (by (repeat (first | exact IsN.auto | with_reducible apply IsN.add | with_reducible apply IsN.sub | with_reducible apply IsN.mul | with_reducible apply IsN.div | with_reducible apply IsN.mod | with_reducible apply IsN.min | with_reducible apply IsN.max | (with_reducible show (_ : Nat) ≤ _; omega) | exact IsN.toNat (by omega)))) (by omega) rfl ?_; intro b49 o49 hc49; go_step) | (refine wpl_indexO hS rfl (by (repeat (first | with_reducible exact Pull.head | apply Pull.tail))) Tryd.underlying22 isz5 rfl (by (repeat (first | exact IsN.auto | with_reducible apply IsN.add | with_reducible apply IsN.sub | with_reducible apply IsN.mul | with_reducible apply IsN.div | with_reducible apply IsN.mod | with_reducible apply IsN.min | with_reducible apply IsN.max | (with_reducible show (_ : Nat) ≤ _; omega) | exact IsN.toNat (by omega)))) (by omega) (Nat.mul_one _) rfl ?_; (first | (rintro b49 rfl) | (intro b49 hb49; cases hb49)); go_step))
                | ((with_reducible show wpList _ _ _ (⟨some 51, .binOp .eql 5 _ _ _, _, _, _, _⟩ :: _) _ _); first | (refine wplV _ (V.eql rfl rfl) (by kernel_rfl) ?_; go_step))
                | ((with_reducible show wpList _ _ _ (⟨_, .load 5 _, _, _, _, _⟩ :: _) _ _); first | (refine wpl (by kernel_rfl) ?_; apply wp_load1 hS 5 _ rfl _ _ rfl (one_of rfl) _; (case hp => (repeat (first | with_reducible exact Pull.head | apply Pull.tail))); (case hc => rfl); refine put_move ?_; go_step) | (refine wpl (by kernel_rfl) ?_; apply wp_load1O hS 5 _ rfl _ _ rfl (one_of rfl) _ _ _ _ _; (case hp => (repeat (first | with_reducible exact Pull.head | apply Pull.tail))); (case hv => with_reducible assumption); refine put_move ?_; go_step) | (refine wpl (by kernel_rfl) ?_; apply wp_loadW hS 5 _ rfl _ rfl (one_of rfl) _; (case hc => with_reducible assumption); refine put_move ?_; go_step))
                | ((fail_if_success (with_reducible show wpList _ _ _ (_ :: _) _ _)); go_step))
              repeat' (first
                | go_skip
                | go_big_skip
                | ((with_reducible show wpList _ _ _ (⟨_, .move _, _, _, _, _⟩ :: _) _ _); (first | go_big_want | go_step); go_step)
                | ((with_reducible show wpList _ _ _ (⟨_, .assign _, _, _, _, _⟩ :: _) _ _); (first | go_big_want | go_step); go_step)
                | ((with_reducible show wpList _ _ _ (⟨_, .pick _ _ _, _, _, _, _⟩ :: _) _ _); first | (refine wplPickT rfl (by kernel_rfl) ?_; go_step) | (refine wplPickF rfl (by kernel_rfl) ?_; go_step))
                | ((with_reducible show wpList _ _ _ (⟨some 56, .indexAddr 22 _ _, _, _, _, _⟩ :: _) _ _); first | (refine wplV _ (V.indexSl Tryd.underlying22 isz5 rfl rfl (by (repeat (first | exact IsN.auto | with_reducible apply IsN.add | with_reducible apply IsN.sub | with_reducible apply IsN.mul | with_reducible apply IsN.div | with_reducible apply IsN.mod | with_reducible apply IsN.min | with_reducible apply IsN.max | (with_reducible show (_ : Nat) ≤ _; omega) | exact IsN.toNat (by omega)))) (by omega) (Nat.mul_one _) (by first | with_reducible exact Nat.zero_add _ | with_reducible exact Nat.add_zero _ | exact rfl)) (by kernel_rfl) ?_; go_step) | (refine wpl_indexW (by with_reducible assumption) Tryd.underlying22 isz5 rfl rfl (by (repeat (first | exact IsN.auto | with_reducible apply IsN.add | with_reducible apply IsN.sub | with_reducible apply IsN.mul | with_reducible apply IsN.div | with_reducible apply IsN.mod | with_reducible apply IsN.min | with_reducible apply IsN.max | (with_reducible show (_ : Nat) ≤ _; omega) | exact IsN.toNat (by omega)))) (by omega) rfl ?_; intro b56 o56 hc56; go_step) | (refine wpl_indexO hS rfl (by (repeat (first | with_reducible exact Pull.head | apply Pull.tail))) Tryd.underlying22 isz5 rfl (by (repeat (first | exact IsN.auto | with_reducible apply IsN.add | with_reducible apply IsN.sub | with_reducible apply IsN.mul | with_reducible apply IsN.div | with_reducible apply IsN.mod | with_reducible apply IsN.min | with_reducible apply IsN.max | (with_reducible show (_ : Nat) ≤ _; omega) | exact IsN.toNat (by omega)))) (by omega) (Nat.mul_one _) rfl ?_; (first | (rintro b56 rfl) | (intro b56 hb56; cases hb56)); go_step))
                | ((with_reducible show wpList _ _ _ (⟨some 58, .binOp .eql 5 _ _ _, _, _, _, _⟩ :: _) _ _); first | (refine wplV _ (V.eql rfl rfl) (by kernel_rfl) ?_; go_step))
                | ((with_reducible show wpList _ _ _ (⟨_, .load 5 _, _, _, _, _⟩ :: _) _ _); first | (refine wpl (by kernel_rfl) ?_; apply wp_load1 hS 5 _ rfl _ _ rfl (one_of rfl) _; (case hp => (repeat (first | with_reducible exact Pull.head | apply Pull.tail))); (case hc => rfl); refine put_move ?_; go_step) | (refine wpl (by kernel_rfl) ?_; apply wp_load1O hS 5 _ rfl _ _ rfl (one_of rfl) _ _ _ _ _; (case hp => (repeat (first | with_reducible exact Pull.head | apply Pull.tail))); (case hv => with_reducible assumption); refine put_move ?_; go_step) | (refine wpl (by kernel_rfl) ?_; apply wp_loadW hS 5 _ rfl _ rfl (one_of rfl) _; (case hc => with_reducible assumption); refine put_move ?_; go_step))
                | ((fail_if_success (with_reducible show wpList _ _ _ (_ :: _) _ _)); go_step))
              refine drawn_lit [10, 11] (fun w => St w0 w []) (by kernel_rfl) ?_
              replace hS := hS.drew
              focus
                refine takeM 0 _ (by (repeat (first | with_reducible exact AtL.head | apply AtL.tail))) (by kernel_rfl) (by kernel_rfl) (by kernel_rfl) (by exact fun _ _ _ _ h => h) rfl ?_
                go_step
                refine takeM 1 _ (by (repeat (first | with_reducible exact AtL.head | apply AtL.tail))) (by kernel_rfl) (by kernel_rfl) (by kernel_rfl) (by exact fun _ _ _ _ h => h) rfl ?_
                go_step
                refine takeM 4 _ (by (repeat (first | with_reducible exact AtL.head | apply AtL.tail))) (by kernel_rfl) (by kernel_rfl) (by kernel_rfl) (by exact fun _ _ _ _ h => h) rfl ?_
                go_step
                refine takeM 5 _ (by (repeat (first | with_reducible exact AtL.head | apply AtL.tail))) (by kernel_rfl) (by kernel_rfl) (by kernel_rfl) (by exact fun _ _ _ _ h => h) rfl ?_
                go_step
                refine takeM 6 _ (by (repeat (first | with_reducible exact AtL.head | apply AtL.tail))) (by kernel_rfl) (by kernel_rfl) (by kernel_rfl) (by exact fun _ _ _ _ h => h) rfl ?_
                go_step
                first | (refine takeV 7 _ (by (repeat (first | with_reducible exact AtL.head | apply AtL.tail))) (by kernel_rfl) (by kernel_rfl) (by kernel_rfl) (by exact fun _ _ _ _ h => h) (V.indexSl Tryd.underlying22 isz5 rfl rfl (by (repeat (first | exact IsN.auto | with_reducible apply IsN.add | with_reducible apply IsN.sub | with_reducible apply IsN.mul | with_reducible apply IsN.div | with_reducible apply IsN.mod | with_reducible apply IsN.min | with_reducible apply IsN.max | (with_reducible show (_ : Nat) ≤ _; omega) | exact IsN.toNat (by omega)))) (by omega) (Nat.mul_one _) (by first | with_reducible exact Nat.zero_add _ | with_reducible exact Nat.add_zero _ | exact rfl)) rfl ?_)
                go_step
                apply takeS 8 (by (repeat (first | with_reducible exact AtL.head | apply AtL.tail))) (by kernel_rfl) (by kernel_rfl) (by kernel_rfl) (by exact fun _ _ _ _ h => h) [9, 10, 11, 12, 13, 14] (by kernel_rfl) (hS.sub (by (repeat (first | exact Sub.nil | with_reducible exact Sub.refl | (apply Sub.cons; (case p => (repeat (first | with_reducible exact Pull.head | apply Pull.tail)))) | apply Sub.skip))))
                case hfr => intro w hS; (first | (refine wpl (by kernel_rfl) ?_; apply wp_load1 hS 5 _ rfl _ _ rfl (one_of rfl) _; (case hp => (repeat (first | with_reducible exact Pull.head | apply Pull.tail))); (case hc => rfl); refine put_move ?_; go_step) | (refine wpl (by kernel_rfl) ?_; apply wp_load1O hS 5 _ rfl _ _ rfl (one_of rfl) _ _ _ _ _; (case hp => (repeat (first | with_reducible exact Pull.head | apply Pull.tail))); (case hv => with_reducible assumption); refine put_move ?_; go_step) | (refine wpl (by kernel_rfl) ?_; apply wp_loadW hS 5 _ rfl _ rfl (one_of rfl) _; (case hc => with_reducible assumption); refine put_move ?_; go_step)); refine wpList_nil ?_; exact ⟨rfl, rfl⟩
                case hd => rfl
                first | (refine takeV 9 _ (by (repeat (first | with_reducible exact AtL.head | apply AtL.tail))) (by kernel_rfl) (by kernel_rfl) (by kernel_rfl) (by exact fun _ _ _ _ h => h) (V.convI (by rw [Tryd.underlying5]; rfl) Tryd.underlying3 rfl (IntWalk.i64_in _ (by omega))) rfl ?_) | (refine takeV 9 _ (by (repeat (first | with_reducible exact AtL.head | apply AtL.tail))) (by kernel_rfl) (by kernel_rfl) (by kernel_rfl) (by exact fun _ _ _ _ h => h) (V.conv (by rw [Tryd.underlying5]; rfl) Tryd.underlying3 rfl) rfl ?_)
                go_step
                refine branch [2, 10] (by kernel_rfl) (by simp) (.cons (by (repeat (first | with_reducible exact AtL.head | apply AtL.tail))) rfl ?_ (.cons (by (repeat (first | with_reducible exact AtL.head | apply AtL.tail))) rfl ?_ (.nil)))
                rotate_left 1
                focus
                  first | (refine wp_buildSlice1 (o := ⟨some 39, _, _, _, _, _⟩) hS 27 1 _ rfl 3 1 8 el27 _ _ (by (repeat (first | exact Parts.nil | (apply Parts.agg; (rfl); (rfl)) | (apply Parts.one; (first | exact IsV.int rfl | exact IsV.bool rfl | exact IsV.slice rfl | exact IsV.pointer rfl | exact IsV.string rfl | exact IsV.map rfl | exact IsV.func rfl); (rfl); (rfl))))) (by rfl) (by decide) (by decide) ?_; clear hS; intro g39 w hS)
                  refine ⟨fun h => absurd (by decide) h, ?_⟩
                  refine drawn_move ?_
                  go_step
                  refine branch1 2 (by (repeat (first | with_reducible exact AtL.head | apply AtL.tail))) rfl (by kernel_rfl) ?_
                  first | (refine wp_buildSlice1 (o := ⟨some 31, _, _, _, _, _⟩) hS 26 1 _ rfl 22 1 24 el26 _ _ (by (repeat (first | exact Parts.nil | (apply Parts.agg; (rfl); (rfl)) | (apply Parts.one; (first | exact IsV.int rfl | exact IsV.bool rfl | exact IsV.slice rfl | exact IsV.pointer rfl | exact IsV.string rfl | exact IsV.map rfl | exact IsV.func rfl); (rfl); (rfl))))) (by rfl) (by decide) (by decide) ?_; clear hS; intro g31 w hS)
                  refine ⟨fun _ _ => hS.sub (by (repeat (first | exact Sub.nil | with_reducible exact Sub.refl | (apply Sub.cons; (case p => (repeat (first | with_reducible exact Pull.head | apply Pull.tail)))) | apply Sub.skip))), ?_⟩
                  refine drawn_move ?_
                  go_step
                  refine branch1 3 (by (repeat (first | with_reducible exact AtL.head | apply AtL.tail))) rfl (by kernel_rfl) ?_
                  first | (refine wp_append (o := ⟨some 32, _, _, _, _, _⟩) hS _ _ 26 rfl 22 1 24 el26 _ _ _ _ rfl (by (repeat (first | with_reducible exact Pull.head | apply Pull.tail))) _ rfl _ _ (by (first | exact hS.slBlk (by (repeat (first | with_reducible exact Pull.head | apply Pull.tail))) (by rfl) (by decide) | exact hS.sl (by (repeat (first | with_reducible exact Pull.head | apply Pull.tail))) | with_reducible assumption | exact Sl.ext (by with_reducible assumption) hS.1 | exact Sl.nil _ _ | exact Sl.ext (by assumption) hS.1 | assumption)) (by (first | exact oneAll rfl | exact oneMap _ _ | (intro u hu; cases hu))) (by unfold maxLen; omega) (by omega) ?_; clear hS; intro ad32 c32 w hS; (first | simp only [mapk1] at hS | simp only [mapk2] at hS | simp only [mapk3] at hS | simp only [mapk4] at hS | simp only [mapkl] at hS | skip)) | (refine wp_append (o := ⟨some 32, _, _, _, _, _⟩) (hS.nil 22 1) _ _ 26 rfl 22 1 24 el26 _ _ _ _ rfl (by (repeat (first | with_reducible exact Pull.head | apply Pull.tail))) _ rfl _ _ (by (first | exact hS.slBlk (by (repeat (first | with_reducible exact Pull.head | apply Pull.tail))) (by rfl) (by decide) | exact hS.sl (by (repeat (first | with_reducible exact Pull.head | apply Pull.tail))) | with_reducible assumption | exact Sl.ext (by with_reducible assumption) hS.1 | exact Sl.nil _ _ | exact Sl.ext (by assumption) hS.1 | assumption)) (by (first | exact oneAll rfl | exact oneMap _ _ | (intro u hu; cases hu))) (by unfold maxLen; omega) (by omega) ?_; clear hS; intro ad32 c32 w hS; (first | simp only [mapk1] at hS | simp only [mapk2] at hS | simp only [mapk3] at hS | simp only [mapk4] at hS | simp only [mapkl] at hS | skip))
                  refine ⟨fun _ _ => hS.sub (by (repeat (first | exact Sub.nil | with_reducible exact Sub.refl | (apply Sub.cons; (case p => (repeat (first | with_reducible exact Pull.head | apply Pull.tail)))) | apply Sub.skip))), ?_⟩
                  refine drawn_move ?_
                  go_step
                  refine branch1 11 (by (repeat (first | with_reducible exact AtL.head | apply AtL.tail))) rfl (by kernel_rfl) ?_
                  first | (refine wp_append (o := ⟨some 40, _, _, _, _, _⟩) hS _ _ 27 rfl 3 1 8 el27 _ _ _ _ rfl (by (repeat (first | with_reducible exact Pull.head | apply Pull.tail))) _ rfl _ _ (by (first | exact hS.slBlk (by (repeat (first | with_reducible exact Pull.head | apply Pull.tail))) (by rfl) (by decide) | exact hS.sl (by (repeat (first | with_reducible exact Pull.head | apply Pull.tail))) | with_reducible assumption | exact Sl.ext (by with_reducible assumption) hS.1 | exact Sl.nil _ _ | exact Sl.ext (by assumption) hS.1 | assumption)) (by (first | exact oneAll rfl | exact oneMap _ _ | (intro u hu; cases hu))) (by unfold maxLen; omega) (by omega) ?_; clear hS; intro ad40 c40 w hS; (first | simp only [mapk1] at hS | simp only [mapk2] at hS | simp only [mapk3] at hS | simp only [mapk4] at hS | simp only [mapkl] at hS | skip)) | (refine wp_append (o := ⟨some 40, _, _, _, _, _⟩) (hS.nilk 3 1 .i64) _ _ 27 rfl 3 1 8 el27 _ _ _ _ rfl (by (repeat (first | with_reducible exact Pull.head | apply Pull.tail))) _ rfl _ _ (by (first | exact hS.slBlk (by (repeat (first | with_reducible exact Pull.head | apply Pull.tail))) (by rfl) (by decide) | exact hS.sl (by (repeat (first | with_reducible exact Pull.head | apply Pull.tail))) | with_reducible assumption | exact Sl.ext (by with_reducible assumption) hS.1 | exact Sl.nil _ _ | exact Sl.ext (by assumption) hS.1 | assumption)) (by (first | exact oneAll rfl | exact oneMap _ _ | (intro u hu; cases hu))) (by unfold maxLen; omega) (by omega) ?_; clear hS; intro ad40 c40 w hS; (first | simp only [mapk1] at hS | simp only [mapk2] at hS | simp only [mapk3] at hS | simp only [mapk4] at hS | simp only [mapkl] at hS | skip))
                  refine ⟨fun h => absurd (by decide) h, ?_⟩
                  refine drawn_move ?_
                  go_step
                  refine takeA 12 _ (by (repeat (first | with_reducible exact AtL.head | apply AtL.tail))) (by kernel_rfl) (by kernel_rfl) (by kernel_rfl) (by exact fun _ _ _ _ h => h) rfl ?_
                  go_step
                  refine takeA 13 _ (by (repeat (first | with_reducible exact AtL.head | apply AtL.tail))) (by kernel_rfl) (by kernel_rfl) (by kernel_rfl) (by exact fun _ _ _ _ h => h) rfl ?_
                  go_step
                  refine takeA 14 _ (by (repeat (first | with_reducible exact AtL.head | apply AtL.tail))) (by kernel_rfl) (by kernel_rfl) (by kernel_rfl) (by exact fun _ _ _ _ h => h) rfl ?_
                  go_step
                  refine drawn_done (by kernel_rfl) ?_ _
                rotate_right 1
                focus
                  first | (refine wp_buildSlice1 (o := ⟨some 31, _, _, _, _, _⟩) hS 26 1 _ rfl 22 1 24 el26 _ _ (by (repeat (first | exact Parts.nil | (apply Parts.agg; (rfl); (rfl)) | (apply Parts.one; (first | exact IsV.int rfl | exact IsV.bool rfl | exact IsV.slice rfl | exact IsV.pointer rfl | exact IsV.string rfl | exact IsV.map rfl | exact IsV.func rfl); (rfl); (rfl))))) (by rfl) (by decide) (by decide) ?_; clear hS; intro g31 w hS)
                  refine ⟨fun _ _ => hS.sub (by (repeat (first | exact Sub.nil | with_reducible exact Sub.refl | (apply Sub.cons; (case p => (repeat (first | with_reducible exact Pull.head | apply Pull.tail)))) | apply Sub.skip))), ?_⟩
                  refine drawn_move ?_
                  go_step
                  refine branch [3, 10] (by kernel_rfl) (by simp) (.cons (by (repeat (first | with_reducible exact AtL.head | apply AtL.tail))) rfl ?_ (.cons (by (repeat (first | with_reducible exact AtL.head | apply AtL.tail))) rfl ?_ (.nil)))
                  rotate_left 1
                  focus
                    first | (refine wp_buildSlice1 (o := ⟨some 39, _, _, _, _, _⟩) hS 27 1 _ rfl 3 1 8 el27 _ _ (by (repeat (first | exact Parts.nil | (apply Parts.agg; (rfl); (rfl)) | (apply Parts.one; (first | exact IsV.int rfl | exact IsV.bool rfl | exact IsV.slice rfl | exact IsV.pointer rfl | exact IsV.string rfl | exact IsV.map rfl | exact IsV.func rfl); (rfl); (rfl))))) (by rfl) (by decide) (by decide) ?_; clear hS; intro g39 w hS)
                    refine ⟨fun h => absurd (by decide) h, ?_⟩
                    refine drawn_move ?_
                    go_step
                    refine branch1 3 (by (repeat (first | with_reducible exact AtL.head | apply AtL.tail))) rfl (by kernel_rfl) ?_
                    first | (refine wp_append (o := ⟨some 32, _, _, _, _, _⟩) hS _ _ 26 rfl 22 1 24 el26 _ _ _ _ rfl (by (repeat (first | with_reducible exact Pull.head | apply Pull.tail))) _ rfl _ _ (by (first | exact hS.slBlk (by (repeat (first | with_reducible exact Pull.head | apply Pull.tail))) (by rfl) (by decide) | exact hS.sl (by (repeat (first | with_reducible exact Pull.head | apply Pull.tail))) | with_reducible assumption | exact Sl.ext (by with_reducible assumption) hS.1 | exact Sl.nil _ _ | exact Sl.ext (by assumption) hS.1 | assumption)) (by (first | exact oneAll rfl | exact oneMap _ _ | (intro u hu; cases hu))) (by unfold maxLen; omega) (by omega) ?_; clear hS; intro ad32 c32 w hS; (first | simp only [mapk1] at hS | simp only [mapk2] at hS | simp only [mapk3] at hS | simp only [mapk4] at hS | simp only [mapkl] at hS | skip)) | (refine wp_append (o := ⟨some 32, _, _, _, _, _⟩) (hS.nil 22 1) _ _ 26 rfl 22 1 24 el26 _ _ _ _ rfl (by (repeat (first | with_reducible exact Pull.head | apply Pull.tail))) _ rfl _ _ (by (first | exact hS.slBlk (by (repeat (first | with_reducible exact Pull.head | apply Pull.tail))) (by rfl) (by decide) | exact hS.sl (by (repeat (first | with_reducible exact Pull.head | apply Pull.tail))) | with_reducible assumption | exact Sl.ext (by with_reducible assumption) hS.1 | exact Sl.nil _ _ | exact Sl.ext (by assumption) hS.1 | assumption)) (by (first | exact oneAll rfl | exact oneMap _ _ | (intro u hu; cases hu))) (by unfold maxLen; omega) (by omega) ?_; clear hS; intro ad32 c32 w hS; (first | simp only [mapk1] at hS | simp only [mapk2] at hS | simp only [mapk3] at hS | simp only [mapk4] at hS | simp only [mapkl] at hS | skip))
                    refine ⟨fun _ _ => hS.sub (by (repeat (first | exact Sub.nil | with_reducible exact Sub.refl | (apply Sub.cons; (case p => (repeat (first | with_reducible exact Pull.head | apply Pull.tail)))) | apply Sub.skip))), ?_⟩
                    refine drawn_move ?_
                    go_step
                    refine branch1 11 (by (repeat (first | with_reducible exact AtL.head | apply AtL.tail))) rfl (by kernel_rfl) ?_
                    first | (refine wp_append (o := ⟨some 40, _, _, _, _, _⟩) hS _ _ 27 rfl 3 1 8 el27 _ _ _ _ rfl (by (repeat (first | with_reducible exact Pull.head | apply Pull.tail))) _ rfl _ _ (by (first | exact hS.slBlk (by (repeat (first | with_reducible exact Pull.head | apply Pull.tail))) (by rfl) (by decide) | exact hS.sl (by (repeat (first | with_reducible exact Pull.head | apply Pull.tail))) | with_reducible assumption | exact Sl.ext (by with_reducible assumption) hS.1 | exact Sl.nil _ _ | exact Sl.ext (by assumption) hS.1 | assumption)) (by (first | exact oneAll rfl | exact oneMap _ _ | (intro u hu; cases hu))) (by unfold maxLen; omega) (by omega) ?_; clear hS; intro ad40 c40 w hS; (first | simp only [mapk1] at hS | simp only [mapk2] at hS | simp only [mapk3] at hS | simp only [mapk4] at hS | simp only [mapkl] at hS | skip)) | (refine wp_append (o := ⟨some 40, _, _, _, _, _⟩) (hS.nilk 3 1 .i64) _ _ 27 rfl 3 1 8 el27 _ _ _ _ rfl (by (repeat (first | with_reducible exact Pull.head | apply Pull.tail))) _ rfl _ _ (by (first | exact hS.slBlk (by (repeat (first | with_reducible exact Pull.head | apply Pull.tail))) (by rfl) (by decide) | exact hS.sl (by (repeat (first | with_reducible exact Pull.head | apply Pull.tail))) | with_reducible assumption | exact Sl.ext (by with_reducible assumption) hS.1 | exact Sl.nil _ _ | exact Sl.ext (by assumption) hS.1 | assumption)) (by (first | exact oneAll rfl | exact oneMap _ _ | (intro u hu; cases hu))) (by unfold maxLen; omega) (by omega) ?_; clear hS; intro ad40 c40 w hS; (first | simp only [mapk1] at hS | simp only [mapk2] at hS | simp only [mapk3] at hS | simp only [mapk4] at hS | simp only [mapkl] at hS | skip))
                    refine ⟨fun h => absurd (by decide) h, ?_⟩
                    refine drawn_move ?_
                    go_step
                    refine takeA 12 _ (by (repeat (first | with_reducible exact AtL.head | apply AtL.tail))) (by kernel_rfl) (by kernel_rfl) (by kernel_rfl) (by exact fun _ _ _ _ h => h) rfl ?_
                    go_step
                    refine takeA 13 _ (by (repeat (first | with_reducible exact AtL.head | apply AtL.tail))) (by kernel_rfl) (by kernel_rfl) (by kernel_rfl) (by exact fun _ _ _ _ h => h) rfl ?_
                    go_step
                    refine takeA 14 _ (by (repeat (first | with_reducible exact AtL.head | apply AtL.tail))) (by kernel_rfl) (by kernel_rfl) (by kernel_rfl) (by exact fun _ _ _ _ h => h) rfl ?_
                    go_step
                    refine drawn_done (by kernel_rfl) ?_ _
                  rotate_right 1
                  focus
                    first | (refine wp_append (o := ⟨some 32, _, _, _, _, _⟩) hS _ _ 26 rfl 22 1 24 el26 _ _ _ _ rfl (by (repeat (first | with_reducible exact Pull.head | apply Pull.tail))) _ rfl _ _ (by (first | exact hS.slBlk (by (repeat (first | with_reducible exact Pull.head | apply Pull.tail))) (by rfl) (by decide) | exact hS.sl (by (repeat (first | with_reducible exact Pull.head | apply Pull.tail))) | with_reducible assumption | exact Sl.ext (by with_reducible assumption) hS.1 | exact Sl.nil _ _ | exact Sl.ext (by assumption) hS.1 | assumption)) (by (first | exact oneAll rfl | exact oneMap _ _ | (intro u hu; cases hu))) (by unfold maxLen; omega) (by omega) ?_; clear hS; intro ad32 c32 w hS; (first | simp only [mapk1] at hS | simp only [mapk2] at hS | simp only [mapk3] at hS | simp only [mapk4] at hS | simp only [mapkl] at hS | skip)) | (refine wp_append (o := ⟨some 32, _, _, _, _, _⟩) (hS.nil 22 1) _ _ 26 rfl 22 1 24 el26 _ _ _ _ rfl (by (repeat (first | with_reducible exact Pull.head | apply Pull.tail))) _ rfl _ _ (by (first | exact hS.slBlk (by (repeat (first | with_reducible exact Pull.head | apply Pull.tail))) (by rfl) (by decide) | exact hS.sl (by (repeat (first | with_reducible exact Pull.head | apply Pull.tail))) | with_reducible assumption | exact Sl.ext (by with_reducible assumption) hS.1 | exact Sl.nil _ _ | exact Sl.ext (by assumption) hS.1 | assumption)) (by (first | exact oneAll rfl | exact oneMap _ _ | (intro u hu; cases hu))) (by unfold maxLen; omega) (by omega) ?_; clear hS; intro ad32 c32 w hS; (first | simp only [mapk1] at hS | simp only [mapk2] at hS | simp only [mapk3] at hS | simp only [mapk4] at hS | simp only [mapkl] at hS | skip))
                    refine ⟨fun _ _ => hS.sub (by (repeat (first | exact Sub.nil | with_reducible exact Sub.refl | (apply Sub.cons; (case p => (repeat (first | with_reducible exact Pull.head | apply Pull.tail)))) | apply Sub.skip))), ?_⟩
                    refine drawn_move ?_
                    go_step
                    refine branch1 10 (by (repeat (first | with_reducible exact AtL.head | apply AtL.tail))) rfl (by kernel_rfl) ?_
                    first | (refine wp_buildSlice1 (o := ⟨some 39, _, _, _, _, _⟩) hS 27 1 _ rfl 3 1 8 el27 _ _ (by (repeat (first | exact Parts.nil | (apply Parts.agg; (rfl); (rfl)) | (apply Parts.one; (first | exact IsV.int rfl | exact IsV.bool rfl | exact IsV.slice rfl | exact IsV.pointer rfl | exact IsV.string rfl | exact IsV.map rfl | exact IsV.func rfl); (rfl); (rfl))))) (by rfl) (by decide) (by decide) ?_; clear hS; intro g39 w hS)
                    refine ⟨fun h => absurd (by decide) h, ?_⟩
                    refine drawn_move ?_
                    go_step
                    refine branch1 11 (by (repeat (first | with_reducible exact AtL.head | apply AtL.tail))) rfl (by kernel_rfl) ?_
                    first | (refine wp_append (o := ⟨some 40, _, _, _, _, _⟩) hS _ _ 27 rfl 3 1 8 el27 _ _ _ _ rfl (by (repeat (first | with_reducible exact Pull.head | apply Pull.tail))) _ rfl _ _ (by (first | exact hS.slBlk (by (repeat (first | with_reducible exact Pull.head | apply Pull.tail))) (by rfl) (by decide) | exact hS.sl (by (repeat (first | with_reducible exact Pull.head | apply Pull.tail))) | with_reducible assumption | exact Sl.ext (by with_reducible assumption) hS.1 | exact Sl.nil _ _ | exact Sl.ext (by assumption) hS.1 | assumption)) (by (first | exact oneAll rfl | exact oneMap _ _ | (intro u hu; cases hu))) (by unfold maxLen; omega) (by omega) ?_; clear hS; intro ad40 c40 w hS; (first | simp only [mapk1] at hS | simp only [mapk2] at hS | simp only [mapk3] at hS | simp only [mapk4] at hS | simp only [mapkl] at hS | skip)) | (refine wp_append (o := ⟨some 40, _, _, _, _, _⟩) (hS.nilk 3 1 .i64) _ _ 27 rfl 3 1 8 el27 _ _ _ _ rfl (by (repeat (first | with_reducible exact Pull.head | apply Pull.tail))) _ rfl _ _ (by (first | exact hS.slBlk (by (repeat (first | with_reducible exact Pull.head | apply Pull.tail))) (by rfl) (by decide) | exact hS.sl (by (repeat (first | with_reducible exact Pull.head | apply Pull.tail))) | with_reducible assumption | exact Sl.ext (by with_reducible assumption) hS.1 | exact Sl.nil _ _ | exact Sl.ext (by assumption) hS.1 | assumption)) (by (first | exact oneAll rfl | exact oneMap _ _ | (intro u hu; cases hu))) (by unfold maxLen; omega) (by omega) ?_; clear hS; intro ad40 c40 w hS; (first | simp only [mapk1] at hS | simp only [mapk2] at hS | simp only [mapk3] at hS | simp only [mapk4] at hS | simp only [mapkl] at hS | skip))
                    refine ⟨fun h => absurd (by decide) h, ?_⟩
                    refine drawn_move ?_
                    go_step
                    refine takeA 12 _ (by (repeat (first | with_reducible exact AtL.head | apply AtL.tail))) (by kernel_rfl) (by kernel_rfl) (by kernel_rfl) (by exact fun _ _ _ _ h => h) rfl ?_
                    go_step
                    refine takeA 13 _ (by (repeat (first | with_reducible exact AtL.head | apply AtL.tail))) (by kernel_rfl) (by kernel_rfl) (by kernel_rfl) (by exact fun _ _ _ _ h => h) rfl ?_
                    go_step
                    refine takeA 14 _ (by (repeat (first | with_reducible exact AtL.head | apply AtL.tail))) (by kernel_rfl) (by kernel_rfl) (by kernel_rfl) (by exact fun _ _ _ _ h => h) rfl ?_
                    go_step
                    refine drawn_done (by kernel_rfl) ?_ _
              all_goals
                repeat' (first
                  | ((with_reducible show wpList _ _ _ (⟨some 14, .binOp .add _ _ _ _, _, _, _, _⟩ :: _) _ _); first | (refine wplV (.int _ (((i + 2 : Nat) : Int))) (V.as (V.addI rfl rfl (by omega)) (by omega)) rfl ?_; go_step) | (refine wplV (.int _ (((i + 2 : Nat) : Int))) (V.as (V.addR (by decide) rfl rfl) (by omega)) rfl ?_; go_step))
                  | go_skip
                  | go_big_skip
                  | ((with_reducible show wpList _ _ _ (⟨_, .move _, _, _, _, _⟩ :: _) _ _); (first | go_big_want | go_step); go_step)
                  | ((with_reducible show wpList _ _ _ (⟨_, .assign _, _, _, _, _⟩ :: _) _ _); (first | go_big_want | go_step); go_step)
                  | ((with_reducible show wpList _ _ _ (⟨_, .pick _ _ _, _, _, _, _⟩ :: _) _ _); first | (refine wplPickT rfl (by kernel_rfl) ?_; go_step) | (refine wplPickF rfl (by kernel_rfl) ?_; go_step))
                  | ((with_reducible show wpList _ _ _ (⟨some 14, .binOp .add _ _ _ _, _, _, _, _⟩ :: _) _ _); first | (refine wplV _ (V.addI rfl rfl (by omega)) (by kernel_rfl) ?_; go_step) | (refine wplV _ (V.addR (by decide) rfl rfl) (by kernel_rfl) ?_; go_step))
                  | ((fail_if_success (with_reducible show wpList _ _ _ (_ :: _) _ _)); go_step))
                subst hlp
                have h2 := (hS.sub (xs := [star (pcs.map Pc.res), own 5 1 ap p.length cp (p.map (Value.int .u8)), own 22 1 ad32 (lo + 1) c32 (pcs.map Pc.val ++ [.slice ap p.length cp]), own 3 1 ad40 (lm + 1) c40 ((m ++ [y]).map (Value.int .i64))]) (by (repeat (first | exact Sub.nil | with_reducible exact Sub.refl | (apply Sub.cons; (case p => (repeat (first | with_reducible exact Pull.head | apply Pull.tail)))) | apply Sub.skip)))).starPut Pull.head
                go_roundg (gk - 2)
                case measure => omega
                case rel =>
                  refine ⟨i + 2, lo + 1, lm + 1, 0, pcs ++ [⟨ap, cp, p⟩], m ++ [y], [], _, _, _, _, _, _, by omega, by simp; omega, by simp; omega, rfl, by omega, by omega, by omega, rfl, rfl, rfl, by go_num, by rw [List.map_append]; exact HT.out, ?_⟩
                  rw [show (pcs ++ [(⟨ap, cp, p⟩ : Pc)]).map Pc.val = pcs.map Pc.val ++ [.slice ap p.length cp] by rw [List.map_append]; rfl, show (pcs ++ [(⟨ap, cp, p⟩ : Pc)]).map Pc.res = pcs.map Pc.res ++ [own 5 1 ap p.length cp (p.map (Value.int .u8))] by rw [List.map_append]; rfl]
                  exact (h2.nilk 5 1 .u8).sub (by (repeat (first | exact Sub.nil | with_reducible exact Sub.refl | (apply Sub.cons; (case p => (repeat (first | with_reducible exact Pull.head | apply Pull.tail)))) | apply Sub.skip)))
      · rw [spf_at xs i _ _ _ (by omega) hx] at hT
        have HT := hid hT
        obtain ⟨x, hxx⟩ : ∃ x, nth xs i = x := ⟨_, rfl⟩
        rw [hxx] at HT hc0 hx
        clear hT hxx
        repeat' (first
          | go_skip
          | go_big_skip
          | ((with_reducible show wpList _ _ _ (⟨_, .move _, _, _, _, _⟩ :: _) _ _); (first | go_big_want | go_step); go_step)
          | ((with_reducible show wpList _ _ _ (⟨_, .assign _, _, _, _, _⟩ :: _) _ _); (first | go_big_want | go_step); go_step)
          | ((with_reducible show wpList _ _ _ (⟨_, .pick _ _ _, _, _, _, _⟩ :: _) _ _); first | (refine wplPickT rfl (by kernel_rfl) ?_; go_step) | (refine wplPickF rfl (by kernel_rfl) ?_; go_step))
          | ((with_reducible show wpList _ _ _ (⟨some 11, .call ⟨.builtin .len, _, _⟩, _, _, _, _⟩ :: _) _ _); first | (refine wplV _ (V.len Tryd.underlying22 rfl) (by kernel_rfl) ?_; go_step))
          | ((with_reducible show wpList _ _ _ (⟨some 12, .binOp .lss _ _ _ _, _, _, _, _⟩ :: _) _ _); first | (refine wplV _ (V.lss rfl rfl) (by kernel_rfl) ?_; go_step))
          | ((fail_if_success (with_reducible show wpList _ _ _ (_ :: _) _ _)); go_step))
        repeat' (first
          | go_skip
          | go_big_skip
          | ((with_reducible show wpList _ _ _ (⟨_, .move _, _, _, _, _⟩ :: _) _ _); (first | go_big_want | go_step); go_step)
          | ((with_reducible show wpList _ _ _ (⟨_, .assign _, _, _, _, _⟩ :: _) _ _); (first | go_big_want | go_step); go_step)
          | ((with_reducible show wpList _ _ _ (⟨_, .pick _ _ _, _, _, _, _⟩ :: _) _ _); first | (refine wplPickT rfl (by kernel_rfl) ?_; go_step) | (refine wplPickF rfl (by kernel_rfl) ?_; go_step))
          | ((with_reducible show wpList _ _ _ (⟨some 17, .indexAddr 22 _ _, _, _, _, _⟩ :: _) _ _); first | (refine wplV _ (V.indexSl Tryd.underlying22 isz5 rfl rfl (by (repeat (first | exact IsN.auto | with_reducible apply IsN.add | with_reducible apply IsN.sub | with_reducible apply IsN.mul | with_reducible apply IsN.div | with_reducible apply IsN.mod | with_reducible apply IsN.min | with_reducible apply IsN.max | (with_reducible show (_ : Nat) ≤ _; omega) | exact IsN.toNat (by omega)))) (by omega) (Nat.mul_one _) (by first | with_reducible exact Nat.zero_add _ | with_reducible exact Nat.add_zero _ | exact rfl)) (by kernel_rfl) ?_; go_step) | (refine wpl_indexW (by with_reducible assumption) Tryd.underlying22 isz5 rfl rfl (by (repeat (first | exact IsN.auto | with_reducible apply IsN.add | with_reducible apply IsN.sub | with_reducible apply IsN.mul | with_reducible apply IsN.div | with_reducible apply IsN.mod | with_reducible apply IsN.min | with_reducible apply IsN.max | (with_reducible show (_ : Nat) ≤ _; omega) | exact IsN.toNat (by omega)))) (by omega) rfl ?_; intro b17 o17 hc17; go_step) | (refine wpl_indexO hS rfl (by (repeat (first | with_reducible exact Pull.head | apply Pull.tail))) Tryd.underlying22 isz5 rfl (by (repeat (first | exact IsN.auto | with_reducible apply IsN.add | with_reducible apply IsN.sub | with_reducible apply IsN.mul | with_reducible apply IsN.div | with_reducible apply IsN.mod | with_reducible apply IsN.min | with_reducible apply IsN.max | (with_reducible show (_ : Nat) ≤ _; omega) | exact IsN.toNat (by omega)))) (by omega) (Nat.mul_one _) rfl ?_; (first | (rintro b17 rfl) | (intro b17 hb17; cases hb17)); go_step))
          | ((with_reducible show wpList _ _ _ (⟨some 19, .binOp .neq 5 _ _ _, _, _, _, _⟩ :: _) _ _); first | (refine wplV _ (V.neq rfl rfl) (by kernel_rfl) ?_; go_step))
          | ((with_reducible show wpList _ _ _ (⟨some 23, .indexAddr 22 _ _, _, _, _, _⟩ :: _) _ _); first | (refine wplV _ (V.indexSl Tryd.underlying22 isz5 rfl rfl (by (repeat (first | exact IsN.auto | with_reducible apply IsN.add | with_reducible apply IsN.sub | with_reducible apply IsN.mul | with_reducible apply IsN.div | with_reducible apply IsN.mod | with_reducible apply IsN.min | with_reducible apply IsN.max | (with_reducible show (_ : Nat) ≤ _; omega) | exact IsN.toNat (by omega)))) (by omega) (Nat.mul_one _) (by first | with_reducible exact Nat.zero_add _ | with_reducible exact Nat.add_zero _ | exact rfl)) (by kernel_rfl) ?_; go_step) | (refine wpl_indexW (by with_reducible assumption) Tryd.underlying22 isz5 rfl rfl (by (repeat (first | exact IsN.auto | with_reducible apply IsN.add | with_reducible apply IsN.sub | with_reducible apply IsN.mul | with_reducible apply IsN.div | with_reducible apply IsN.mod | with_reducible apply IsN.min | with_reducible apply IsN.max | (with_reducible show (_ : Nat) ≤ _; omega) | exact IsN.toNat (by omega)))) (by omega) rfl ?_; intro b23 o23 hc23; go_step) | (refine wpl_indexO hS rfl (by (repeat (first | with_reducible exact Pull.head | apply Pull.tail))) Tryd.underlying22 isz5 rfl (by (repeat (first | exact IsN.auto | with_reducible apply IsN.add | with_reducible apply IsN.sub | with_reducible apply IsN.mul | with_reducible apply IsN.div | with_reducible apply IsN.mod | with_reducible apply IsN.min | with_reducible apply IsN.max | (with_reducible show (_ : Nat) ≤ _; omega) | exact IsN.toNat (by omega)))) (by omega) (Nat.mul_one _) rfl ?_; (first | (rintro b23 rfl) | (intro b23 hb23; cases hb23)); go_step))
          | ((with_reducible show wpList _ _ _ (⟨_, .load 5 _, _, _, _, _⟩ :: _) _ _); first | (refine wpl (by kernel_rfl) ?_; apply wp_load1 hS 5 _ rfl _ _ rfl (one_of rfl) _; (case hp => (repeat (first | with_reducible exact Pull.head | apply Pull.tail))); (case hc => rfl); refine put_move ?_; go_step) | (refine wpl (by kernel_rfl) ?_; apply wp_load1O hS 5 _ rfl _ _ rfl (one_of rfl) _ _ _ _ _; (case hp => (repeat (first | with_reducible exact Pull.head | apply Pull.tail))); (case hv => with_reducible assumption); refine put_move ?_; go_step) | (refine wpl (by kernel_rfl) ?_; apply wp_loadW hS 5 _ rfl _ rfl (one_of rfl) _; (case hc => with_reducible assumption); refine put_move ?_; go_step))
          | ((with_reducible show wpList _ _ _ (⟨some 25, .buildSlice 22 _ _, _, _, _, _⟩ :: _) _ _); first | (refine wpl (by kernel_rfl) ?_; apply wp_buildSlice1 (o := ⟨some 25, _, _, _, _, _⟩) hS 22 1 _ rfl 5 1 1 el22 _ _; (case hvs => (repeat (first | exact Parts.nil | (apply Parts.agg; (rfl); (rfl)) | (apply Parts.one; (first | exact IsV.int rfl | exact IsV.bool rfl | exact IsV.slice rfl | exact IsV.pointer rfl | exact IsV.string rfl | exact IsV.map rfl | exact IsV.func rfl); (rfl); (rfl))))); (case hn => rfl); (case hn0 => decide); (case hns => decide); clear hS; intro g25 w hS; refine put_move ?_; go_step))
          | ((with_reducible show wpList _ _ _ (⟨some 26, .call ⟨.builtin .append, _, _⟩, _, _, _, _⟩ :: _) _ _); first | (refine wpl (by kernel_rfl) ?_; apply wp_append (o := ⟨some 26, _, _, _, _, _⟩) hS _ _ 22 rfl 5 1 1 el22 _ _ _ _ rfl; (case hp => (repeat (first | with_reducible exact Pull.head | apply Pull.tail))); (case hx => exact rfl); (case hm => (first | exact hS.slBlk (by (repeat (first | with_reducible exact Pull.head | apply Pull.tail))) (by rfl) (by decide) | exact hS.sl (by (repeat (first | with_reducible exact Pull.head | apply Pull.tail))) | with_reducible assumption | exact Sl.ext (by with_reducible assumption) hS.1 | exact Sl.nil _ _ | exact Sl.ext (by assumption) hS.1 | assumption)); (case h1 => (first | exact oneAll rfl | exact oneMap _ _ | (intro u hu; cases hu))); (case h63 => unfold maxLen; omega); (case hb => omega); clear hS; intro ad26 c26 w hS; (first | simp only [mapk1] at hS | simp only [mapk2] at hS | simp only [mapk3] at hS | simp only [mapk4] at hS | simp only [mapkl] at hS | skip); refine put_move ?_; go_step) | (refine wpl (by kernel_rfl) ?_; apply wp_append (o := ⟨some 26, _, _, _, _, _⟩) (hS.nilk 5 1 .u8) _ _ 22 rfl 5 1 1 el22 _ _ _ _ rfl; (case hp => (repeat (first | with_reducible exact Pull.head | apply Pull.tail))); (case hx => exact rfl); (case hm => (first | exact hS.slBlk (by (repeat (first | with_reducible exact Pull.head | apply Pull.tail))) (by rfl) (by decide) | exact hS.sl (by (repeat (first | with_reducible exact Pull.head | apply Pull.tail))) | with_reducible assumption | exact Sl.ext (by with_reducible assumption) hS.1 | exact Sl.nil _ _ | exact Sl.ext (by assumption) hS.1 | assumption)); (case h1 => (first | exact oneAll rfl | exact oneMap _ _ | (intro u hu; cases hu))); (case h63 => unfold maxLen; omega); (case hb => omega); clear hS; intro ad26 c26 w hS; (first | simp only [mapk1] at hS | simp only [mapk2] at hS | simp only [mapk3] at hS | simp only [mapk4] at hS | simp only [mapkl] at hS | skip); refine put_move ?_; go_step))
          | ((fail_if_success (with_reducible show wpList _ _ _ (_ :: _) _ _)); go_step))
        repeat' (first
          | ((with_reducible show wpList _ _ _ (⟨some 14, .binOp .add _ _ _ _, _, _, _, _⟩ :: _) _ _); first | (refine wplV (.int _ (((i + 1 : Nat) : Int))) (V.as (V.addI rfl rfl (by omega)) (by omega)) rfl ?_; go_step) | (refine wplV (.int _ (((i + 1 : Nat) : Int))) (V.as (V.addR (by decide) rfl rfl) (by omega)) rfl ?_; go_step))
          | go_skip
          | go_big_skip
          | ((with_reducible show wpList _ _ _ (⟨_, .move _, _, _, _, _⟩ :: _) _ _); (first | go_big_want | go_step); go_step)
          | ((with_reducible show wpList _ _ _ (⟨_, .assign _, _, _, _, _⟩ :: _) _ _); (first | go_big_want | go_step); go_step)
          | ((with_reducible show wpList _ _ _ (⟨_, .pick _ _ _, _, _, _, _⟩ :: _) _ _); first | (refine wplPickT rfl (by kernel_rfl) ?_; go_step) | (refine wplPickF rfl (by kernel_rfl) ?_; go_step))
          | ((with_reducible show wpList _ _ _ (⟨some 14, .binOp .add _ _ _ _, _, _, _, _⟩ :: _) _ _); first | (refine wplV _ (V.addI rfl rfl (by omega)) (by kernel_rfl) ?_; go_step) | (refine wplV _ (V.addR (by decide) rfl rfl) (by kernel_rfl) ?_; go_step))
          | ((fail_if_success (with_reducible show wpList _ _ _ (_ :: _) _ _)); go_step))
        go_roundg (gk - 1)
        case measure => omega
        case rel => exact ⟨i + 1, lo, lm, lp + 1, pcs, m, p ++ [x], _, _, _, _, _, _, by omega, hlo, hlm, by simp; omega, by omega, by omega, by omega, rfl, rfl, rfl, by go_num, HT.out, hS.sub (by (repeat (first | exact Sub.nil | with_reducible exact Sub.refl | (apply Sub.cons; (case p => (repeat (first | with_reducible exact Pull.head | apply Pull.tail)))) | apply Sub.skip)))⟩
    · rw [spf_out xs i _ _ _ (by omega)] at hT
      have HT := hid hT
      clear hT
      repeat' (first
        | go_skip
        | go_big_skip
        | ((with_reducible show wpList _ _ _ (⟨_, .move _, _, _, _, _⟩ :: _) _ _); (first | go_big_want | go_step); go_step)
        | ((with_reducible show wpList _ _ _ (⟨_, .assign _, _, _, _, _⟩ :: _) _ _); (first | go_big_want | go_step); go_step)
        | ((with_reducible show wpList _ _ _ (⟨_, .pick _ _ _, _, _, _, _⟩ :: _) _ _); first | (refine wplPickT rfl (by kernel_rfl) ?_; go_step) | (refine wplPickF rfl (by kernel_rfl) ?_; go_step))
        | ((with_reducible show wpList _ _ _ (⟨some 11, .call ⟨.builtin .len, _, _⟩, _, _, _, _⟩ :: _) _ _); first | (refine wplV _ (V.len Tryd.underlying22 rfl) (by kernel_rfl) ?_; go_step))
        | ((with_reducible show wpList _ _ _ (⟨some 12, .binOp .lss _ _ _ _, _, _, _, _⟩ :: _) _ _); first | (refine wplV _ (V.lss rfl rfl) (by kernel_rfl) ?_; go_step))
        | ((fail_if_success (with_reducible show wpList _ _ _ (_ :: _) _ _)); go_step))
      repeat' (first
        | go_skip
        | go_big_skip
        | ((with_reducible show wpList _ _ _ (⟨_, .move _, _, _, _, _⟩ :: _) _ _); (first | go_big_want | go_step); go_step)
        | ((with_reducible show wpList _ _ _ (⟨_, .assign _, _, _, _, _⟩ :: _) _ _); (first | go_big_want | go_step); go_step)
        | ((with_reducible show wpList _ _ _ (⟨_, .pick _ _ _, _, _, _, _⟩ :: _) _ _); first | (refine wplPickT rfl (by kernel_rfl) ?_; go_step) | (refine wplPickF rfl (by kernel_rfl) ?_; go_step))
        | ((with_reducible show wpList _ _ _ (⟨some 64, .buildSlice 26 _ _, _, _, _, _⟩ :: _) _ _); first | (refine wpl (by kernel_rfl) ?_; apply wp_buildSlice1 (o := ⟨some 64, _, _, _, _, _⟩) hS 26 1 _ rfl 22 1 24 el26 _ _; (case hvs => (repeat (first | exact Parts.nil | (apply Parts.agg; (rfl); (rfl)) | (apply Parts.one; (first | exact IsV.int rfl | exact IsV.bool rfl | exact IsV.slice rfl | exact IsV.pointer rfl | exact IsV.string rfl | exact IsV.map rfl | exact IsV.func rfl); (rfl); (rfl))))); (case hn => rfl); (case hn0 => decide); (case hns => decide); clear hS; intro g64 w hS; refine put_move ?_; go_step))
        | ((with_reducible show wpList _ _ _ (⟨some 65, .call ⟨.builtin .append, _, _⟩, _, _, _, _⟩ :: _) _ _); first | (refine wpl (by kernel_rfl) ?_; apply wp_append (o := ⟨some 65, _, _, _, _, _⟩) hS _ _ 26 rfl 22 1 24 el26 _ _ _ _ rfl; (case hp => (repeat (first | with_reducible exact Pull.head | apply Pull.tail))); (case hx => exact rfl); (case hm => (first | exact hS.slBlk (by (repeat (first | with_reducible exact Pull.head | apply Pull.tail))) (by rfl) (by decide) | exact hS.sl (by (repeat (first | with_reducible exact Pull.head | apply Pull.tail))) | with_reducible assumption | exact Sl.ext (by with_reducible assumption) hS.1 | exact Sl.nil _ _ | exact Sl.ext (by assumption) hS.1 | assumption)); (case h1 => (first | exact oneAll rfl | exact oneMap _ _ | (intro u hu; cases hu))); (case h63 => unfold maxLen; omega); (case hb => omega); clear hS; intro ad65 c65 w hS; (first | simp only [mapk1] at hS | simp only [mapk2] at hS | simp only [mapk3] at hS | simp only [mapk4] at hS | simp only [mapkl] at hS | skip); refine put_move ?_; go_step) | (refine wpl (by kernel_rfl) ?_; apply wp_append (o := ⟨some 65, _, _, _, _, _⟩) (hS.nil 22 1) _ _ 26 rfl 22 1 24 el26 _ _ _ _ rfl; (case hp => (repeat (first | with_reducible exact Pull.head | apply Pull.tail))); (case hx => exact rfl); (case hm => (first | exact hS.slBlk (by (repeat (first | with_reducible exact Pull.head | apply Pull.tail))) (by rfl) (by decide) | exact hS.sl (by (repeat (first | with_reducible exact Pull.head | apply Pull.tail))) | with_reducible assumption | exact Sl.ext (by with_reducible assumption) hS.1 | exact Sl.nil _ _ | exact Sl.ext (by assumption) hS.1 | assumption)); (case h1 => (first | exact oneAll rfl | exact oneMap _ _ | (intro u hu; cases hu))); (case h63 => unfold maxLen; omega); (case hb => omega); clear hS; intro ad65 c65 w hS; (first | simp only [mapk1] at hS | simp only [mapk2] at hS | simp only [mapk3] at hS | simp only [mapk4] at hS | simp only [mapkl] at hS | skip); refine put_move ?_; go_step))
        | ((fail_if_success (with_reducible show wpList _ _ _ (_ :: _) _ _)); go_step))
      refine ret_all (xs := [_, _, _]) rfl (.cons (OneRes.tmp rfl) (.cons (OneRes.tmp rfl) (.cons (OneRes.tmp rfl) (.nil)))) (by simp) rfl ?_
      subst hlp
      refine ⟨fun h => (by rw [← HT.out] at h; cases h), fun ps ms h => ?_⟩
      rw [← HT.out] at h
      cases h
      have h2 := (hS.sub (xs := [star (pcs.map Pc.res), own 5 1 ap p.length cp (p.map (Value.int .u8)), own 22 1 ad65 (lo + 1) c65 (pcs.map Pc.val ++ [.slice ap p.length cp]), own 3 1 am lm cm (m.map (Value.int .i64))]) (by (repeat (first | exact Sub.nil | with_reducible exact Sub.refl | (apply Sub.cons; (case p => (repeat (first | with_reducible exact Pull.head | apply Pull.tail)))) | apply Sub.skip)))).starPut Pull.head
      refine ⟨pcs ++ [⟨ap, cp, p⟩], _, _, _, _, _, _, by simp; omega, hlm, by simp, rfl, ?_⟩
      rw [show (pcs ++ [(⟨ap, cp, p⟩ : Pc)]).map Pc.val = pcs.map Pc.val ++ [.slice ap p.length cp] by rw [List.map_append]; rfl, show (pcs ++ [(⟨ap, cp, p⟩ : Pc)]).map Pc.res = pcs.map Pc.res ++ [own 5 1 ap p.length cp (p.map (Value.int .u8))] by rw [List.map_append]; rfl]
      exact h2.sub (by (repeat (first | exact Sub.nil | with_reducible exact Sub.refl | (apply Sub.cons; (case p => (repeat (first | with_reducible exact Pull.head | apply Pull.tail)))) | apply Sub.skip)))
end Go.Proofs.YthmkhpijdpbfbaaDoor
