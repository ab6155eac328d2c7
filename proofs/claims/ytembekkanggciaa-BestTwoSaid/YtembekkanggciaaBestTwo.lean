/- The law BestTwo: its walk, and the statement. -/
import Derived.Test.YtembekkanggciaaBestOpt
import Derived.Test.YtembekkanggciaaOpen
import Derived.Test.YtembekkanggciaaTint
import Derived.Test.YtembekkanggciaaRows
namespace Go.Proofs.Ytembekkanggciaa
open Go.ChangeShapes Go.WideShapes Go.ChangeAt Go.RowKit
set_option linter.unusedVariables false
theorem two_pos {p q : Int} (hp : 1 ≤ p) (hq : 1 ≤ q) : posL [p, q] 2 = [0, 1] := by
  unfold posL
  rw [show List.range 2 = [0, 1] from rfl]
  rw [List.filter_cons_of_pos (by simp [nth]; omega), List.filter_cons_of_pos (by simp [nth]; omega)]
  rfl
theorem two_cost (p q : Int) (l : Int → Nat) : costL [p, q] 2 l = p * (l 0 : Nat) + q * (l 1 : Nat) := by
  simp [costL, isum, List.range, List.range.loop, nth]
theorem two_law {p q : Int} (hp : 1 ≤ p) (hq : 1 ≤ q) {C S : List Int} (h : Mk [p, q] 2 C S) : costL [p, q] 2 (lw (wds C S)) = p + q + min p q := by
  have hpos := two_pos hp hq
  have e1 : ∀ a b : Nat, LenOk [p, q] 2 (fun s => if s = 0 then a else b) ↔ (1 ≤ a ∧ a ≤ 16) ∧ (1 ≤ b ∧ b ≤ 16) ∧ 2 ^ (16 - a) + 2 ^ (16 - b) < 65536 := fun a b => by
    constructor
    · intro ⟨h1, h2⟩
      rw [hpos] at h1 h2
      refine ⟨h1 0 (by simp), h1 1 (by simp), ?_⟩
      simp [nsum] at h2
      omega
    · intro ⟨h1, h2, h3⟩
      refine ⟨fun s hs => ?_, ?_⟩
      · rw [hpos] at hs
        simp at hs
        rcases hs with rfl | rfl
        · exact h1
        · exact h2
      · rw [hpos]; simp [nsum]; omega
  have b1 := h.best _ ((e1 1 2).2 (by decide))
  have b2 := h.best _ ((e1 2 1).2 (by decide))
  have hk := h.lens.kraft
  have h0 := h.lens.top 0 (by rw [hpos]; simp)
  have h1 := h.lens.top 1 (by rw [hpos]; simp)
  rw [hpos] at hk
  rw [two_cost] at b1 b2 ⊢
  rw [two_cost] at b1 b2
  have hk2 : 2 ^ (16 - lw (wds C S) 0) + 2 ^ (16 - lw (wds C S) 1) < 65536 := by simp [nsum] at hk; omega
  generalize lw (wds C S) 0 = x at *
  generalize lw (wds C S) 1 = y at *
  have hxy : 2 ≤ x ∨ 2 ≤ y := by
    by_cases ex : x = 1
    · by_cases ey : y = 1
      · rw [ex, ey] at hk2; omega
      · right; omega
    · left; omega
  have m : ∀ (z : Int) (k j : Nat), 1 ≤ z → j ≤ k → z * (j : Int) ≤ z * (k : Int) := fun z k j hz hj => Int.mul_le_mul_of_nonneg_left (by omega) (by omega)
  simp at b1 b2
  rcases hxy with hx | hy
  · have m1 := m p x 2 hp hx
    have m2 := m q y 1 hq h1.1
    push_cast at m1 m2
    omega
  · have m1 := m p x 1 hp h0.1
    have m2 := m q y 2 hq hy
    push_cast at m1 m2
    omega
set_option maxRecDepth 100000 in
set_option maxHeartbeats 8000000 in
theorem BestTwo_walk {H : Type} {enc : TypeId × Value → H} {d0 d1 : DataW H} {p0 p1 : List MemPlace} {v0 v1 : Value} {base : Nat} (W : World)
    (o0 : Value.okWide Try.prog W .any base 3 v0) (h0 : DataW.Trod enc Try.prog W 0 (fun _ => true) true 3 v0 d0 p0) (lt0 : ∀ x ∈ p0, x.block < W.heap.size)
    (o1 : Value.okWide Try.prog W .any base 3 v1) (h1 : DataW.Trod enc Try.prog W 0 (fun _ => true) true 3 v1 d1 p1) (lt1 : ∀ x ∈ p1, x.block < W.heap.size)
    :
    Calls Try.prog 8 #[v0, v1] W fun e w' => e = .returned (.bool true) ∧ Ext W w' := by
  obtain ⟨a, rfl, _, _⟩ := op_int Try.underlying3 o0 h0
  obtain ⟨b, rfl, _, _⟩ := op_int Try.underlying3 o1 h1
  clear o0 o1 h0 h1 lt0 lt1
  have a0 := Int.emod_nonneg a (b := 9999) (by omega)
  have a1 := Int.emod_lt_of_pos a (b := 9999) (by omega)
  have b0 := Int.emod_nonneg b (b := 9999) (by omega)
  have b1 := Int.emod_lt_of_pos b (b := 9999) (by omega)
  have hS := St.start W
  obtain ⟨p, hp⟩ : ∃ p, a % 9999 + 1 = p := ⟨_, rfl⟩
  obtain ⟨q, hq⟩ : ∃ q, b % 9999 + 1 = q := ⟨_, rfl⟩
  have HP := hid hp
  have HQ := hid hq
  have hp1 : 1 ≤ p ∧ p ≤ 9999 := by omega
  have hq1 : 1 ≤ q ∧ q ≤ 9999 := by omega
  have HB : Hid (bE [p, q] = 0) := hid (bE_of (by simp) (fun i hi => by
    simp at hi
    rcases (show i = 0 ∨ i = 1 by omega) with rfl | rfl
    · exact ⟨by show 0 ≤ p; omega, by show p ≤ 9999; omega⟩
    · exact ⟨by show 0 ≤ q; omega, by show q ≤ 9999; omega⟩))
  clear hp hq
  go_enter Try.func8, Try.ntmps8
  repeat' (first
    | ((with_reducible show wpList _ _ _ (⟨some 8, _, _, _, _, _⟩ :: _) _ _); refine wpl_call (f := 15) Try.call15 (by kernel_rfl) ?_; refine ⟨_, (rest_any a 9999 _ (by omega) (by omega)), ?_⟩; rintro e w ⟨rfl, rfl⟩; refine ⟨_, rfl, ?_⟩; refine put_move ?_; go_step)
    | ((with_reducible show wpList _ _ _ (⟨some 11, _, _, _, _, _⟩ :: _) _ _); refine wpl_call (f := 15) Try.call15 (by kernel_rfl) ?_; refine ⟨_, (rest_any b 9999 _ (by omega) (by omega)), ?_⟩; rintro e w ⟨rfl, rfl⟩; refine ⟨_, rfl, ?_⟩; refine put_move ?_; go_step)
    | go_skip
    | go_big_skip
    | ((with_reducible show wpList _ _ _ (⟨_, .move _, _, _, _, _⟩ :: _) _ _); (first | go_big_want | go_step); go_step)
    | ((with_reducible show wpList _ _ _ (⟨_, .assign _, _, _, _, _⟩ :: _) _ _); (first | go_big_want | go_step); go_step)
    | ((with_reducible show wpList _ _ _ (⟨_, .pick _ _ _, _, _, _, _⟩ :: _) _ _); first | (refine wplPickT rfl (by kernel_rfl) ?_; go_step) | (refine wplPickF rfl (by kernel_rfl) ?_; go_step))
    | ((with_reducible show wpList _ _ _ (⟨_, .binOp .add _ _ _ _, _, _, _, _⟩ :: _) _ _); first | (refine wplV _ (V.addI rfl rfl (by omega)) (by kernel_rfl) ?_; go_step) | (refine wplV _ (V.addR (by decide) rfl rfl) (by kernel_rfl) ?_; go_step))
    | ((fail_if_success (with_reducible show wpList _ _ _ (_ :: _) _ _)); go_step))
  rw [HP.out, HQ.out]
  repeat' (first
    | ((with_reducible show wpList _ _ _ (⟨some 16, .buildSlice _ _ _, _, _, _, _⟩ :: _) _ _); first | (refine wpl (by kernel_rfl) ?_; apply wp_buildSliceO (o := ⟨some 16, _, _, _, _, _⟩) hS 23 2 _ rfl 3 1 8 el23 _ _; (case hvs => (repeat (first | exact Parts.nil | (apply Parts.agg; (rfl); (rfl)) | (apply Parts.one; (first | exact IsV.int rfl | exact IsV.bool rfl | exact IsV.slice rfl | exact IsV.pointer rfl | exact IsV.string rfl | exact IsV.map rfl | exact IsV.func rfl); (rfl); (rfl))))); (case hn => rfl); (case hn0 => decide); (case hns => decide); clear hS; intro g16 w hS; refine put_move ?_; go_step))
    | ((with_reducible show wpList _ _ _ (⟨some 17, _, _, _, _, _⟩ :: _) _ _); refine wpl_call (f := 16) Try.call16 (by kernel_rfl) ?_; refine ⟨_, (made_any _ [p, q] _ 2 2 (sl_two hS (by (repeat (first | with_reducible exact Pull.head | apply Pull.tail)))) (by omega)), ?_⟩; rintro e w ⟨X, hX, rfl, hE2⟩; have HX := hid hX; rw [decide_eq_true HB.out]; replace hS := hS.ext hE2; clear hE2 hX; refine ⟨_, rfl, ?_⟩; refine put_move ?_; go_step)
    | go_skip
    | go_big_skip
    | ((with_reducible show wpList _ _ _ (⟨_, .move _, _, _, _, _⟩ :: _) _ _); (first | go_big_want | go_step); go_step)
    | ((with_reducible show wpList _ _ _ (⟨_, .assign _, _, _, _, _⟩ :: _) _ _); (first | go_big_want | go_step); go_step)
    | ((with_reducible show wpList _ _ _ (⟨_, .pick _ _ _, _, _, _, _⟩ :: _) _ _); first | (refine wplPickT rfl (by kernel_rfl) ?_; go_step) | (refine wplPickF rfl (by kernel_rfl) ?_; go_step))
    | ((with_reducible show wpList _ _ _ (⟨_, .extract _ _, _, _, _, _⟩ :: _) _ _); first | (refine wplV _ (V.extract rfl rfl) (by kernel_rfl) ?_; go_step))
    | ((with_reducible show wpList _ _ _ (⟨some 16, .buildSlice 23 _ _, _, _, _, _⟩ :: _) _ _); first | (refine wpl (by kernel_rfl) ?_; apply wp_buildSlice1 (o := ⟨some 16, _, _, _, _, _⟩) hS 23 2 _ rfl 3 1 8 el23 _ _; (case hvs => (repeat (first | exact Parts.nil | (apply Parts.agg; (rfl); (rfl)) | (apply Parts.one; (first | exact IsV.int rfl | exact IsV.bool rfl | exact IsV.slice rfl | exact IsV.pointer rfl | exact IsV.string rfl | exact IsV.map rfl | exact IsV.func rfl); (rfl); (rfl))))); (case hn => rfl); (case hn0 => decide); (case hns => decide); clear hS; intro g16 w hS; refine put_move ?_; go_step))
    | ((fail_if_success (with_reducible show wpList _ _ _ (_ :: _) _ _)); go_step))
  have hX : X = p + q + min p q := by
    obtain ⟨C, S, h1, h2⟩ := HX.out.1 HB.out
    rw [h2]; exact two_law hp1.1 hq1.1 h1
  repeat' (first
    | ((with_reducible show wpList _ _ _ (⟨_, .call ⟨.value (.func 11), _, _⟩, _, _, _, _⟩ :: _) _ _); refine wpl_call (f := 11) Try.call11 (by kernel_rfl) ?_; refine ⟨_, (bested_any _), ?_⟩; rintro e w ⟨rfl, hE2⟩; replace hS := hS.ext hE2; clear hE2; refine ⟨_, rfl, ?_⟩; refine put_move ?_; go_step)
    | go_skip
    | go_big_skip
    | ((with_reducible show wpList _ _ _ (⟨_, .move _, _, _, _, _⟩ :: _) _ _); (first | go_big_want | go_step); go_step)
    | ((with_reducible show wpList _ _ _ (⟨_, .assign _, _, _, _, _⟩ :: _) _ _); (first | go_big_want | go_step); go_step)
    | ((with_reducible show wpList _ _ _ (⟨_, .pick _ _ _, _, _, _, _⟩ :: _) _ _); first | (refine wplPickT rfl (by kernel_rfl) ?_; go_step) | (refine wplPickF rfl (by kernel_rfl) ?_; go_step))
    | ((with_reducible show wpList _ _ _ (⟨_, .binOp .add _ _ _ _, _, _, _, _⟩ :: _) _ _); first | (refine wplV _ (V.addI rfl rfl (by omega)) (by kernel_rfl) ?_; go_step) | (refine wplV _ (V.addR (by decide) rfl rfl) (by kernel_rfl) ?_; go_step))
    | ((with_reducible show wpList _ _ _ (⟨_, .call ⟨.builtin .min, _, _⟩, _, _, _, _⟩ :: _) _ _); first | (refine wplV _ (V.min rfl rfl) (by kernel_rfl) ?_; go_step))
    | ((with_reducible show wpList _ _ _ (⟨_, .binOp .eql 3 _ _ _, _, _, _, _⟩ :: _) _ _); first | (refine wplV _ (V.eql rfl rfl) (by kernel_rfl) ?_; go_step))
    | ((fail_if_success (with_reducible show wpList _ _ _ (_ :: _) _ _)); go_step))
  all_goals (go_ret; exact ⟨ret_bool (decide_eq_true (by omega)), hS.1⟩)
end Go.Proofs.Ytembekkanggciaa
