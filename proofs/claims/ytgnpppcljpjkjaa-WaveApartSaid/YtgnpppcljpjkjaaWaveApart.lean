/- The law WaveApart: its walk, and the statement. -/
import Derived.Test.YtgnpppcljpjkjaaWaveKeep
namespace Go.Proofs.Ytgnpppcljpjkjaa
open Go.ChangeShapes Go.WideShapes Go.ChangeAt Go.RowKit
set_option linter.unusedVariables false
theorem apart_spec : ∀ u : Nat, u < 8 → ∀ v : Nat, v < 8 → -16384 < sm (fun x => basV u x * basV v x) 8 - (if u = v then 67108864 else 0) ∧ sm (fun x => basV u x * basV v x) 8 - (if u = v then 67108864 else 0) < 16384 := by decide +kernel
set_option maxRecDepth 100000 in
set_option maxHeartbeats 4000000 in
theorem WaveApart_walk {H : Type} {enc : TypeId × Value → H} {d0 d1 : DataW H} {p0 p1 : List MemPlace} {v0 v1 : Value} {base : Nat} (W : World)
    (o0 : Value.okWide Try.prog W .any base 3 v0) (h0 : DataW.Trod enc Try.prog W 0 (fun _ => true) true 3 v0 d0 p0) (lt0 : ∀ x ∈ p0, x.block < W.heap.size)
    (o1 : Value.okWide Try.prog W .any base 3 v1) (h1 : DataW.Trod enc Try.prog W 0 (fun _ => true) true 3 v1 d1 p1) (lt1 : ∀ x ∈ p1, x.block < W.heap.size)
    :
    Calls Try.prog 5 #[v0, v1] W fun e w' => e = .returned (.bool true) ∧ Ext W w' := by
  obtain ⟨u0, rfl, _, _⟩ := op_int Try.underlying3 o0 h0
  obtain ⟨v0, rfl, _, _⟩ := op_int Try.underlying3 o1 h1
  clear o0 h0 lt0 o1 h1 lt1
  obtain ⟨u, hu⟩ : ∃ u : Nat, u0 % 8 = (u : Int) := ⟨(u0 % 8).toNat, by omega⟩
  obtain ⟨v, hv⟩ : ∃ v : Nat, v0 % 8 = (v : Int) := ⟨(v0 % 8).toNat, by omega⟩
  have hu8 : u < 8 := by omega
  have hv8 : v < 8 := by omega
  have HU := hid hu
  have HV := hid hv
  have HA := hid (apart_spec u hu8 v hv8)
  clear hu hv
  have hS := St.start W
  go_enter Try.func5, Try.ntmps5
  repeat' (first
    | ((with_reducible show wpList _ _ _ (⟨some 12, _, _, _, _, _⟩ :: _) _ _); refine wpl_call (f := 20) Try.call20 rfl ?_; refine ⟨_, (rest_any u0 8 _ (by omega) (by omega)), ?_⟩; rintro e w' ⟨rfl, rfl⟩; rw [HU.out]; refine ⟨_, rfl, ?_⟩; refine put_move ?_; go_step)
    | ((with_reducible show wpList _ _ _ (⟨some 14, _, _, _, _, _⟩ :: _) _ _); refine wpl_call (f := 20) Try.call20 rfl ?_; refine ⟨_, (rest_any v0 8 _ (by omega) (by omega)), ?_⟩; rintro e w' ⟨rfl, rfl⟩; rw [HV.out]; refine ⟨_, rfl, ?_⟩; refine put_move ?_; go_step)
    | go_skip
    | go_big_skip
    | ((with_reducible show wpList _ _ _ (⟨_, .move _, _, _, _, _⟩ :: _) _ _); (first | go_big_want | go_step); go_step)
    | ((with_reducible show wpList _ _ _ (⟨_, .assign _, _, _, _, _⟩ :: _) _ _); (first | go_big_want | go_step); go_step)
    | ((with_reducible show wpList _ _ _ (⟨_, .pick _ _ _, _, _, _, _⟩ :: _) _ _); first | (refine wplPickT rfl (by kernel_rfl) ?_; go_step) | (refine wplPickF rfl (by kernel_rfl) ?_; go_step))
    | ((fail_if_success (with_reducible show wpList _ _ _ (_ :: _) _ _)); go_step))
  go_loopg [5, 15] 8 (fun gk sv kv w => ∃ (x : Nat), gk + x = 8 ∧ kv = .int .i64 x ∧ sv = .int .i64 (sm (fun x => basV u x * basV v x) x) ∧ St W w [])
  case atStart => exact ⟨0, rfl, rfl, rfl, hS⟩
  case round =>
    clear hS
    obtain ⟨x, hx, rfl, rfl, hS⟩ := hrel
    by_cases hlt : x < 8
    · have ba := basV_bd u x
      have bb := basV_bd v x
      obtain ⟨m0, m1⟩ := mulbs (basV u x) (basV v x) 4096 4096 (by omega) (by omega)
      have hsb := sm_bd (fun x => basV u x * basV v x) (4096 * 4096) x fun j hj => mulbs _ _ _ _ (basV_bd u j) (basV_bd v j)
      have hsb2 : -134217728 ≤ sm (fun x => basV u x * basV v x) x ∧ sm (fun x => basV u x * basV v x) x ≤ 134217728 := by omega
      have HN : Hid (sm (fun x => basV u x * basV v x) x + basV u x * basV v x = sm (fun x => basV u x * basV v x) (x + 1)) := rfl
      clear hsb
      repeat' (first
        | ((with_reducible show wpList _ _ _ (⟨some 21, _, _, _, _, _⟩ :: _) _ _); refine wpl_call (f := 21) Try.call21 rfl ?_; refine ⟨_, (Basis_any _ (u : Int) (x : Int) (by omega) (by omega)), ?_⟩; rintro e w ⟨rfl, hE⟩; replace hS := hS.ext hE; clear hE; refine ⟨_, rfl, ?_⟩; refine put_move ?_; go_step)
        | ((with_reducible show wpList _ _ _ (⟨some 27, _, _, _, _, _⟩ :: _) _ _); refine wpl_call (f := 21) Try.call21 rfl ?_; refine ⟨_, (Basis_any _ (v : Int) (x : Int) (by omega) (by omega)), ?_⟩; rintro e w ⟨rfl, hE⟩; replace hS := hS.ext hE; clear hE; refine ⟨_, rfl, ?_⟩; refine put_move ?_; go_step)
        | go_skip
        | go_big_skip
        | ((with_reducible show wpList _ _ _ (⟨_, .move _, _, _, _, _⟩ :: _) _ _); (first | go_big_want | go_step); go_step)
        | ((with_reducible show wpList _ _ _ (⟨_, .assign _, _, _, _, _⟩ :: _) _ _); (first | go_big_want | go_step); go_step)
        | ((with_reducible show wpList _ _ _ (⟨_, .pick _ _ _, _, _, _, _⟩ :: _) _ _); first | (refine wplPickT rfl (by kernel_rfl) ?_; go_step) | (refine wplPickF rfl (by kernel_rfl) ?_; go_step))
        | ((with_reducible show wpList _ _ _ (⟨some 31, .binOp .neq 25 _ _ _, _, _, _, _⟩ :: _) _ _); first | (refine wplD _ (V.neq rfl rfl) (by kernel_rfl) (fun hB => ?_) (fun hB => ?_) <;> (try (have hF : False := (by omega); cases hF)) <;> go_step) | (refine wplB _ (V.neq rfl rfl) (by kernel_rfl) (fun hB => ?_) (fun hB => ?_) <;> go_step))
        | ((with_reducible show wpList _ _ _ (⟨_, .binOp .lss _ _ _ _, _, _, _, _⟩ :: _) _ _); first | (refine wplV _ (V.lss rfl rfl) (by kernel_rfl) ?_; go_step))
        | ((with_reducible show wpList _ _ _ (⟨_, .extract _ _, _, _, _, _⟩ :: _) _ _); first | (refine wplV _ (V.extract rfl rfl) (by kernel_rfl) ?_; go_step))
        | ((with_reducible show wpList _ _ _ (⟨_, .binOp .neq 25 _ _ _, _, _, _, _⟩ :: _) _ _); first | (refine wplV _ (V.neq rfl rfl) (by kernel_rfl) ?_; go_step))
        | ((with_reducible show wpList _ _ _ (⟨_, .binOp .mul _ _ _ _, _, _, _, _⟩ :: _) _ _); first | (refine wplV _ (V.mulI rfl rfl (by omega)) (by kernel_rfl) ?_; go_step) | (refine wplV _ (V.mulR (by decide) rfl rfl) (by kernel_rfl) ?_; go_step))
        | ((with_reducible show wpList _ _ _ (⟨_, .binOp .add _ _ _ _, _, _, _, _⟩ :: _) _ _); first | (refine wplV _ (V.addI rfl rfl (by omega)) (by kernel_rfl) ?_; go_step) | (refine wplV _ (V.addR (by decide) rfl rfl) (by kernel_rfl) ?_; go_step))
        | ((fail_if_success (with_reducible show wpList _ _ _ (_ :: _) _ _)); go_step))
      go_roundg (gk - 1)
      case measure => omega
      case rel => exact ⟨x + 1, by omega, by go_num, by rw [HN.out], hS⟩
    · obtain rfl : x = 8 := by omega
      have ha := HA.out
      obtain ⟨s, hs⟩ : ∃ s, sm (fun x => basV u x * basV v x) 8 = s := ⟨_, rfl⟩
      rw [hs] at ha ⊢
      clear hs HA
      by_cases huv : u = v
      · rw [if_pos huv] at ha
        repeat' (first
          | ((with_reducible show wpList _ _ _ (⟨_, .call ⟨.value (.func 18), _, _⟩, _, _, _, _⟩ :: _) _ _); refine wpl_call (f := 18) Try.call18 rfl ?_; refine ⟨_, (waved_any _), ?_⟩; rintro e w ⟨rfl, hE⟩; replace hS := hS.ext hE; clear hE; refine ⟨_, rfl, ?_⟩; refine put_move ?_; go_step)
          | go_skip
          | go_big_skip
          | ((with_reducible show wpList _ _ _ (⟨_, .move _, _, _, _, _⟩ :: _) _ _); (first | go_big_want | go_step); go_step)
          | ((with_reducible show wpList _ _ _ (⟨_, .assign _, _, _, _, _⟩ :: _) _ _); (first | go_big_want | go_step); go_step)
          | ((with_reducible show wpList _ _ _ (⟨_, .pick _ _ _, _, _, _, _⟩ :: _) _ _); first | (refine wplPickT rfl (by kernel_rfl) ?_; go_step) | (refine wplPickF rfl (by kernel_rfl) ?_; go_step))
          | ((with_reducible show wpList _ _ _ (⟨some 31, .binOp .neq 25 _ _ _, _, _, _, _⟩ :: _) _ _); first | (refine wplD _ (V.neq rfl rfl) (by kernel_rfl) (fun hB => ?_) (fun hB => ?_) <;> (try (have hF : False := (by omega); cases hF)) <;> go_step) | (refine wplB _ (V.neq rfl rfl) (by kernel_rfl) (fun hB => ?_) (fun hB => ?_) <;> go_step))
          | ((with_reducible show wpList _ _ _ (⟨_, .binOp .lss _ _ _ _, _, _, _, _⟩ :: _) _ _); first | (refine wplV _ (V.lss rfl rfl) (by kernel_rfl) ?_; go_step))
          | ((with_reducible show wpList _ _ _ (⟨_, .extract _ _, _, _, _, _⟩ :: _) _ _); first | (refine wplV _ (V.extract rfl rfl) (by kernel_rfl) ?_; go_step))
          | ((with_reducible show wpList _ _ _ (⟨_, .binOp .neq 25 _ _ _, _, _, _, _⟩ :: _) _ _); first | (refine wplV _ (V.neq rfl rfl) (by kernel_rfl) ?_; go_step))
          | ((with_reducible show wpList _ _ _ (⟨_, .binOp .mul _ _ _ _, _, _, _, _⟩ :: _) _ _); first | (refine wplV _ (V.mulI rfl rfl (by omega)) (by kernel_rfl) ?_; go_step) | (refine wplV _ (V.mulR (by decide) rfl rfl) (by kernel_rfl) ?_; go_step))
          | ((with_reducible show wpList _ _ _ (⟨_, .binOp .add _ _ _ _, _, _, _, _⟩ :: _) _ _); first | (refine wplV _ (V.addI rfl rfl (by omega)) (by kernel_rfl) ?_; go_step) | (refine wplV _ (V.addR (by decide) rfl rfl) (by kernel_rfl) ?_; go_step))
          | ((with_reducible show wpList _ _ _ (⟨_, .binOp .eql 3 _ _ _, _, _, _, _⟩ :: _) _ _); first | (refine wplV _ (V.eql rfl rfl) (by kernel_rfl) ?_; go_step))
          | ((with_reducible show wpList _ _ _ (⟨_, .binOp .sub _ _ _ _, _, _, _, _⟩ :: _) _ _); first | (refine wplV _ (V.subI rfl rfl (by omega)) (by kernel_rfl) ?_; go_step) | (refine wplV _ (V.subR (by decide) rfl rfl) (by kernel_rfl) ?_; go_step))
          | ((with_reducible show wpList _ _ _ (⟨_, .unOp .neg _ _, _, _, _, _⟩ :: _) _ _); first | (refine wplV _ (V.neg rfl (by omega)) (by kernel_rfl) ?_; go_step) | (refine wplV _ (V.negR rfl) (by kernel_rfl) ?_; go_step))
          | ((with_reducible show wpList _ _ _ (⟨_, .call ⟨.builtin .max, _, _⟩, _, _, _, _⟩ :: _) _ _); first | (refine wplV _ (V.max rfl rfl) (by kernel_rfl) ?_; go_step))
          | ((fail_if_success (with_reducible show wpList _ _ _ (_ :: _) _ _)); go_step))
        all_goals (go_ret; exact ⟨ret_bool (decide_eq_true (by omega)), hS.1⟩)
      · rw [if_neg huv] at ha
        repeat' (first
          | ((with_reducible show wpList _ _ _ (⟨_, .call ⟨.value (.func 18), _, _⟩, _, _, _, _⟩ :: _) _ _); refine wpl_call (f := 18) Try.call18 rfl ?_; refine ⟨_, (waved_any _), ?_⟩; rintro e w ⟨rfl, hE⟩; replace hS := hS.ext hE; clear hE; refine ⟨_, rfl, ?_⟩; refine put_move ?_; go_step)
          | go_skip
          | go_big_skip
          | ((with_reducible show wpList _ _ _ (⟨_, .move _, _, _, _, _⟩ :: _) _ _); (first | go_big_want | go_step); go_step)
          | ((with_reducible show wpList _ _ _ (⟨_, .assign _, _, _, _, _⟩ :: _) _ _); (first | go_big_want | go_step); go_step)
          | ((with_reducible show wpList _ _ _ (⟨_, .pick _ _ _, _, _, _, _⟩ :: _) _ _); first | (refine wplPickT rfl (by kernel_rfl) ?_; go_step) | (refine wplPickF rfl (by kernel_rfl) ?_; go_step))
          | ((with_reducible show wpList _ _ _ (⟨some 31, .binOp .neq 25 _ _ _, _, _, _, _⟩ :: _) _ _); first | (refine wplD _ (V.neq rfl rfl) (by kernel_rfl) (fun hB => ?_) (fun hB => ?_) <;> (try (have hF : False := (by omega); cases hF)) <;> go_step) | (refine wplB _ (V.neq rfl rfl) (by kernel_rfl) (fun hB => ?_) (fun hB => ?_) <;> go_step))
          | ((with_reducible show wpList _ _ _ (⟨_, .binOp .lss _ _ _ _, _, _, _, _⟩ :: _) _ _); first | (refine wplV _ (V.lss rfl rfl) (by kernel_rfl) ?_; go_step))
          | ((with_reducible show wpList _ _ _ (⟨_, .extract _ _, _, _, _, _⟩ :: _) _ _); first | (refine wplV _ (V.extract rfl rfl) (by kernel_rfl) ?_; go_step))
          | ((with_reducible show wpList _ _ _ (⟨_, .binOp .neq 25 _ _ _, _, _, _, _⟩ :: _) _ _); first | (refine wplV _ (V.neq rfl rfl) (by kernel_rfl) ?_; go_step))
          | ((with_reducible show wpList _ _ _ (⟨_, .binOp .mul _ _ _ _, _, _, _, _⟩ :: _) _ _); first | (refine wplV _ (V.mulI rfl rfl (by omega)) (by kernel_rfl) ?_; go_step) | (refine wplV _ (V.mulR (by decide) rfl rfl) (by kernel_rfl) ?_; go_step))
          | ((with_reducible show wpList _ _ _ (⟨_, .binOp .add _ _ _ _, _, _, _, _⟩ :: _) _ _); first | (refine wplV _ (V.addI rfl rfl (by omega)) (by kernel_rfl) ?_; go_step) | (refine wplV _ (V.addR (by decide) rfl rfl) (by kernel_rfl) ?_; go_step))
          | ((with_reducible show wpList _ _ _ (⟨_, .binOp .eql 3 _ _ _, _, _, _, _⟩ :: _) _ _); first | (refine wplV _ (V.eql rfl rfl) (by kernel_rfl) ?_; go_step))
          | ((with_reducible show wpList _ _ _ (⟨_, .binOp .sub _ _ _ _, _, _, _, _⟩ :: _) _ _); first | (refine wplV _ (V.subI rfl rfl (by omega)) (by kernel_rfl) ?_; go_step) | (refine wplV _ (V.subR (by decide) rfl rfl) (by kernel_rfl) ?_; go_step))
          | ((with_reducible show wpList _ _ _ (⟨_, .unOp .neg _ _, _, _, _, _⟩ :: _) _ _); first | (refine wplV _ (V.neg rfl (by omega)) (by kernel_rfl) ?_; go_step) | (refine wplV _ (V.negR rfl) (by kernel_rfl) ?_; go_step))
          | ((with_reducible show wpList _ _ _ (⟨_, .call ⟨.builtin .max, _, _⟩, _, _, _, _⟩ :: _) _ _); first | (refine wplV _ (V.max rfl rfl) (by kernel_rfl) ?_; go_step))
          | ((fail_if_success (with_reducible show wpList _ _ _ (_ :: _) _ _)); go_step))
        all_goals (go_ret; exact ⟨ret_bool (decide_eq_true (by omega)), hS.1⟩)
end Go.Proofs.Ytgnpppcljpjkjaa
