/- The law PlaneMany: its walk, and the statement. -/
import Derived.Test.YtbihmbkkoidnbaaPlaneKeep
import Derived.Test.YtbihmbkkoidnbaaOpen
namespace Go.Proofs.Ytbihmbkkoidnbaa
open Go.ChangeShapes Go.WideShapes Go.ChangeAt Go.RowKit
set_option linter.unusedVariables false
theorem many_spec (w h : Int) (hw : 1 ≤ w ∧ w ≤ 64) (hh : 1 ≤ h ∧ h ≤ 64) : ∃ K wh wh8, (w + 7) / 8 * ((h + 7) / 8) = K ∧ (h + 7) / 8 * ((w + 7) / 8) = K ∧ w * h = wh ∧ (w + 8) * (h + 8) = wh8 ∧
    wh ≤ 64 * K ∧ 64 * K < wh8 ∧ (w % 8 = 0 → h % 8 = 0 → 64 * K = wh) ∧ 0 ≤ K ∧ K ≤ 64 ∧ 0 ≤ wh ∧ wh8 ≤ 10000 := by
  refine ⟨_, _, _, rfl, Int.mul_comm _ _, rfl, rfl, ?_⟩
  obtain ⟨a, ha⟩ : ∃ a, (w + 7) / 8 = a := ⟨_, rfl⟩
  obtain ⟨b, hb⟩ : ∃ b, (h + 7) / 8 = b := ⟨_, rfl⟩
  have a0 : 1 ≤ a ∧ a ≤ 8 ∧ w ≤ 8 * a ∧ 8 * a < w + 8 := by omega
  have b0 : 1 ≤ b ∧ b ≤ 8 ∧ h ≤ 8 * b ∧ 8 * b < h + 8 := by omega
  rw [ha, hb]
  have e : 64 * (a * b) = (8 * a) * (8 * b) := by rw [Int.mul_assoc 8 a, Int.mul_left_comm a 8 b]; omega
  have t1 : w * h ≤ (8 * a) * (8 * b) := Int.mul_le_mul a0.2.2.1 b0.2.2.1 (by omega) (by omega)
  have t2 : (8 * a) * (8 * b) ≤ (8 * a) * (h + 7) := Int.mul_le_mul_of_nonneg_left (by omega) (by omega)
  have t3 : (8 * a) * (h + 7) ≤ (w + 7) * (h + 7) := Int.mul_le_mul_of_nonneg_right (by omega) (by omega)
  have t4 : (w + 8) * (h + 8) = (w + 7) * (h + 7) + w + h + 15 := by simp only [Int.add_mul, Int.mul_add]; omega
  obtain ⟨k0, k1⟩ := mulb a b 8 8 (by omega) (by omega)
  have k2 : 0 ≤ a * b := Int.mul_nonneg (by omega) (by omega)
  have k3 : 0 ≤ w * h := Int.mul_nonneg (by omega) (by omega)
  obtain ⟨k4, k5⟩ := mulb (w + 7) (h + 7) 71 71 (by omega) (by omega)
  refine ⟨by omega, by omega, fun h1 h2 => ?_, by omega, by omega, by omega, by omega⟩
  have e1 : w = 8 * a := by omega
  have e2 : h = 8 * b := by omega
  rw [e, ← e1, ← e2]
theorem PlaneMany_walk {H : Type} {enc : TypeId × Value → H} {d0 d1 : DataW H} {p0 p1 : List MemPlace} {v0 v1 : Value} {base : Nat} (W : World)
    (o0 : Value.okWide Try.prog W .any base 3 v0) (h0 : DataW.Trod enc Try.prog W 0 (fun _ => true) true 3 v0 d0 p0) (lt0 : ∀ x ∈ p0, x.block < W.heap.size)
    (o1 : Value.okWide Try.prog W .any base 3 v1) (h1 : DataW.Trod enc Try.prog W 0 (fun _ => true) true 3 v1 d1 p1) (lt1 : ∀ x ∈ p1, x.block < W.heap.size)
    :
    Calls Try.prog 13 #[v0, v1] W fun e w' => e = .returned (.bool true) ∧ Ext W w' := by
  obtain ⟨w0, rfl, _, _⟩ := op_int Try.underlying3 o0 h0
  obtain ⟨h0', rfl, _, _⟩ := op_int Try.underlying3 o1 h1
  clear o0 h0 lt0 o1 h1 lt1
  obtain ⟨m, hm⟩ : ∃ m, w0 % 64 + 1 = m := ⟨_, rfl⟩
  obtain ⟨h, hh⟩ : ∃ h, h0' % 64 + 1 = h := ⟨_, rfl⟩
  have m0 : 1 ≤ m ∧ m ≤ 64 := by omega
  have m1 : 1 ≤ h ∧ h ≤ 64 := by omega
  obtain ⟨K, wh, wh8, e1, e2, e3, e4, f1, f2, f3, f4, f5, f6, f7⟩ := many_spec m h m0 m1
  have HM := hid hm
  have HH := hid hh
  have E1 := hid e1
  have E2 := hid e2
  have hS := St.start W
  clear hm hh e1 e2
  have HF := hid f3
  clear f3
  go_enter Try.func13, Try.ntmps13
  repeat' (first
    | ((with_reducible show wpList _ _ _ (⟨some 45, .binOp .mul _ _ _ _, _, _, _, _⟩ :: _) _ _); first | (refine wplV (.int _ (wh)) (V.as (V.mulI rfl rfl (by omega)) (by omega)) rfl ?_; go_step) | (refine wplV (.int _ (wh)) (V.as (V.mulR (by decide) rfl rfl) (by omega)) rfl ?_; go_step))
    | ((with_reducible show wpList _ _ _ (⟨some 55, .binOp .mul _ _ _ _, _, _, _, _⟩ :: _) _ _); first | (refine wplV (.int _ (wh8)) (V.as (V.mulI rfl rfl (by omega)) (by omega)) rfl ?_; go_step) | (refine wplV (.int _ (wh8)) (V.as (V.mulR (by decide) rfl rfl) (by omega)) rfl ?_; go_step))
    | ((with_reducible show wpList _ _ _ (⟨some 72, .binOp .mul _ _ _ _, _, _, _, _⟩ :: _) _ _); first | (refine wplV (.int _ (wh)) (V.as (V.mulI rfl rfl (by omega)) (by omega)) rfl ?_; go_step) | (refine wplV (.int _ (wh)) (V.as (V.mulR (by decide) rfl rfl) (by omega)) rfl ?_; go_step))
    | ((with_reducible show wpList _ _ _ (⟨_, .call ⟨.value (.func 26), _, _⟩, _, _, _, _⟩ :: _) _ _); refine wpl_call (f := 26) Try.call26 rfl ?_; refine ⟨_, (planed_any _), ?_⟩; rintro e w ⟨rfl, hE⟩; replace hS := hS.ext hE; clear hE; refine ⟨_, rfl, ?_⟩; refine put_move ?_; go_step)
    | ((with_reducible show wpList _ _ _ (⟨_, .call ⟨.value (.func 27), _, _⟩, _, _, _, _⟩ :: _) _ _); refine wpl_call (f := 27) Try.call27 rfl ?_; refine ⟨_, (sides_any _ w0 h0'), ?_⟩; rintro e w' ⟨rfl, rfl⟩; rw [HM.out, HH.out]; refine ⟨_, rfl, ?_⟩; refine put_move ?_; go_step)
    | ((with_reducible show wpList _ _ _ (⟨_, .call ⟨.value (.func 30), _, _⟩, _, _, _, _⟩ :: _) _ _); refine wpl_call (f := 30) Try.call30 rfl ?_; refine ⟨_, (Many_ok _ _ _ (by omega) K (by first | exact E1.out | exact E2.out)), ?_⟩; rintro e w ⟨rfl, hE⟩; replace hS := hS.ext hE; clear hE; refine ⟨_, rfl, ?_⟩; refine put_move ?_; go_step)
    | go_skip
    | ((with_reducible show wpList _ _ _ (⟨_, _, _, _, _, some _⟩ :: _) _ _); (fail_if_success go_big_want); refine wplSkip rfl ?_; go_step)
    | ((with_reducible show wpList _ _ _ (⟨_, .move _, _, _, _, _⟩ :: _) _ _); (first | go_big_want | go_step); go_step)
    | ((with_reducible show wpList _ _ _ (⟨_, .assign _, _, _, _, _⟩ :: _) _ _); (first | go_big_want | go_step); go_step)
    | ((with_reducible show wpList _ _ _ (⟨_, .pick _ _ _, _, _, _, _⟩ :: _) _ _); first | (refine wplPickT rfl rfl ?_; go_step) | (refine wplPickF rfl rfl ?_; go_step))
    | ((with_reducible show wpList _ _ _ (⟨some 30, .binOp .eql 27 _ _ _, _, _, _, _⟩ :: _) _ _); first | (refine wplD _ (V.eql rfl rfl) rfl (fun h => ?_) (fun h => ?_) <;> (try (exfalso; omega)) <;> go_step) | (refine wplB _ (V.eql rfl rfl) rfl (fun h => ?_) (fun h => ?_) <;> go_step))
    | ((with_reducible show wpList _ _ _ (⟨some 33, .binOp .eql 27 _ _ _, _, _, _, _⟩ :: _) _ _); first | (refine wplD _ (V.eql rfl rfl) rfl (fun h => ?_) (fun h => ?_) <;> (try (exfalso; omega)) <;> go_step) | (refine wplB _ (V.eql rfl rfl) rfl (fun h => ?_) (fun h => ?_) <;> go_step))
    | ((with_reducible show wpList _ _ _ (⟨some 38, .binOp .eql 3 _ _ _, _, _, _, _⟩ :: _) _ _); first | (refine wplD _ (V.eql rfl rfl) rfl (fun h => ?_) (fun h => ?_) <;> (try (exfalso; omega)) <;> go_step) | (refine wplB _ (V.eql rfl rfl) rfl (fun h => ?_) (fun h => ?_) <;> go_step))
    | ((with_reducible show wpList _ _ _ (⟨some 46, .binOp .geq _ _ _ _, _, _, _, _⟩ :: _) _ _); first | (refine wplD _ (V.geq rfl rfl) rfl (fun h => ?_) (fun h => ?_) <;> (try (exfalso; omega)) <;> go_step) | (refine wplB _ (V.geq rfl rfl) rfl (fun h => ?_) (fun h => ?_) <;> go_step))
    | ((with_reducible show wpList _ _ _ (⟨some 56, .binOp .lss _ _ _ _, _, _, _, _⟩ :: _) _ _); first | (refine wplD _ (V.lss rfl rfl) rfl (fun h => ?_) (fun h => ?_) <;> (try (exfalso; omega)) <;> go_step) | (refine wplB _ (V.lss rfl rfl) rfl (fun h => ?_) (fun h => ?_) <;> go_step))
    | ((with_reducible show wpList _ _ _ (⟨some 61, .binOp .neq 3 _ _ _, _, _, _, _⟩ :: _) _ _); first | (refine wplD _ (V.neq rfl rfl) rfl (fun h => ?_) (fun h => ?_) <;> (try (exfalso; omega)) <;> go_step) | (refine wplB _ (V.neq rfl rfl) rfl (fun h => ?_) (fun h => ?_) <;> go_step))
    | ((with_reducible show wpList _ _ _ (⟨some 65, .binOp .neq 3 _ _ _, _, _, _, _⟩ :: _) _ _); first | (refine wplD _ (V.neq rfl rfl) rfl (fun h => ?_) (fun h => ?_) <;> (try (exfalso; omega)) <;> go_step) | (refine wplB _ (V.neq rfl rfl) rfl (fun h => ?_) (fun h => ?_) <;> go_step))
    | ((with_reducible show wpList _ _ _ (⟨_, .unOp .not _ _, _, _, _, _⟩ :: _) _ _); first | (refine wplV _ (V.notD rfl) rfl ?_; go_step) | (refine wplV _ (V.not rfl) rfl ?_; go_step))
    | ((with_reducible show wpList _ _ _ (⟨_, .extract _ _, _, _, _, _⟩ :: _) _ _); first | (refine wplV _ (V.extract rfl rfl) rfl ?_; go_step))
    | ((with_reducible show wpList _ _ _ (⟨_, .binOp .mul _ _ _ _, _, _, _, _⟩ :: _) _ _); first | (refine wplV _ (V.mulI rfl rfl (by omega)) rfl ?_; go_step) | (refine wplV _ (V.mulR (by decide) rfl rfl) rfl ?_; go_step))
    | ((with_reducible show wpList _ _ _ (⟨_, .binOp .add _ _ _ _, _, _, _, _⟩ :: _) _ _); first | (refine wplV _ (V.addI rfl rfl (by omega)) rfl ?_; go_step) | (refine wplV _ (V.addR (by decide) rfl rfl) rfl ?_; go_step))
    | ((with_reducible show wpList _ _ _ (⟨_, .binOp .rem _ _ _ _, _, _, _, _⟩ :: _) _ _); first | (refine wplV _ (V.rem rfl rfl (by omega) (by omega)) rfl ?_; go_step) | (refine wplV _ (V.remT rfl rfl (by omega)) rfl ?_; go_step))
    | ((with_reducible show wpList _ _ _ (⟨_, .binOp .eql 3 _ _ _, _, _, _, _⟩ :: _) _ _); first | (refine wplV _ (V.eql rfl rfl) rfl ?_; go_step))
    | ((fail_if_success (with_reducible show wpList _ _ _ (_ :: _) _ _)); go_step))
  all_goals (go_ret; first | exact ⟨rfl, hS.1⟩ | (exfalso; omega) | exact ⟨ret_bool (decide_eq_true (by have := HF.out; omega)), hS.1⟩)
end Go.Proofs.Ytbihmbkkoidnbaa
