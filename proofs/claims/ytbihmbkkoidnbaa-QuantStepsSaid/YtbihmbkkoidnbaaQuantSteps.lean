/- The law QuantSteps: its walk, and the statement. -/
import Derived.Test.YtbihmbkkoidnbaaQuantMath2
import Derived.Test.YtbihmbkkoidnbaaOpen
import Derived.Test.YtbihmbkkoidnbaaTy2
namespace Go.Proofs.Ytbihmbkkoidnbaa
open Go.ChangeShapes Go.WideShapes Go.ChangeAt Go.RowKit
set_option linter.unusedVariables false
/-- A block of one number, and noughts. -/
def hd1 (n : Int) : List Int := n :: List.replicate 63 0
theorem hd1_len (n : Int) : (hd1 n).length = 64 := by simp [hd1]
theorem hd1_zero (n : Int) : nth (hd1 n) 0 = n := rfl
theorem hd1_in (n : Int) (h : -40000 ≤ n ∧ n ≤ 40000) : allIn (hd1 n) (-40000) 40000 = true := by
  rw [allIn_iff, hd1_len]
  intro i hi
  cases i with
  | zero => exact h
  | succ i =>
    have : nth (hd1 n) (i + 1) = 0 := by
      simp only [nth, hd1, List.getD_eq_getElem?_getD, List.getElem?_cons_succ, List.getElem?_replicate]
      split <;> rfl
    omega
theorem rep_ok (d : Int) (h : 1 ≤ d ∧ d ≤ 255) : qOk (rep d) = true := by
  rw [qOk, allIn_iff, rep_len]
  intro i hi
  rw [rep_get d i hi]; exact h
theorem wp_build1 {w : World} {Q : Exit → Act → World → Prop} {K : Act → World → Prop} {o : Oper} {a : Act} (x : Operand) (ho : o.op = .build 23 #[(0, x)]) (n : Int) (hx : a.eval x = .int .i64 n) (h : K (a.put o.dst (.agg (iv (hd1 n)))) w) : o.wp Try.prog a w K Q := by
  have hr : (execOp a.eval o).run Try.prog w = .ok (.value (.agg (iv (hd1 n)))) w := by
    unfold execOp
    rw [ho]
    dsimp only [List.map_toArray, List.map_cons, List.map_nil]
    have e : (#[(0, x)] : Array (Nat × Operand)).map (fun (x : Nat × Operand) => (x.1, a.eval x.2)) = #[(0, .int .i64 n)] := by simp [hx]
    show ((Instr.build 23 ((#[(0, x)] : Array (Nat × Operand)).map fun (x : Nat × Operand) => (x.1, a.eval x.2))) >>= fun v => pure (Next.value v)).run Try.prog w = _
    rw [e]
    kernel_rfl
  unfold Oper.wp
  rw [hr]
  exact h
theorem steps_spec (k d off : Int) (hd : 1 ≤ d) (hk : -150 ≤ k ∧ k ≤ 150) (h0 : -d ≤ 2 * off) (h1 : 2 * off ≤ d) :
    (2 * off ≠ d ∧ 2 * off ≠ -d → dn (k * d + off) d = k) ∧ k - 1 ≤ dn (k * d + off) d ∧ dn (k * d + off) d ≤ k + 1 := by
  obtain ⟨s1, s2⟩ := rnd_spec (k * d + off) d hd
  generalize hr : rnd (k * d + off) d = r at *
  have e : d * r - k * d = d * (r - k) := by rw [Int.mul_sub, Int.mul_comm k d]
  have low : ∀ j : Int, 1 ≤ j → d ≤ d * j := fun j hj => by have := Int.mul_le_mul_of_nonneg_left hj (show 0 ≤ d by omega); omega
  have b1 : r - k ≤ 1 := by
    by_cases h : 2 ≤ r - k
    · have := Int.mul_le_mul_of_nonneg_left h (show 0 ≤ d by omega)
      omega
    · omega
  have b2 : -1 ≤ r - k := by
    by_cases h : r - k ≤ -2
    · have := Int.mul_le_mul_of_nonneg_left h (show 0 ≤ d by omega)
      omega
    · omega
  have e2 : dn (k * d + off) d = r := by unfold dn; rw [hr]; omega
  rw [e2]
  refine ⟨fun ⟨n1, n2⟩ => ?_, by omega, by omega⟩
  rcases (show r - k = -1 ∨ r - k = 0 ∨ r - k = 1 by omega) with h | h | h
  · rw [h] at e; omega
  · omega
  · rw [h] at e; omega
set_option maxRecDepth 100000 in
set_option maxHeartbeats 4000000 in
theorem QuantSteps_walk {H : Type} {enc : TypeId × Value → H} {d0 d1 d2 : DataW H} {p0 p1 p2 : List MemPlace} {v0 v1 v2 : Value} {base : Nat} (W : World)
    (o0 : Value.okWide Try.prog W .any base 3 v0) (h0 : DataW.Trod enc Try.prog W 0 (fun _ => true) true 3 v0 d0 p0) (lt0 : ∀ x ∈ p0, x.block < W.heap.size)
    (o1 : Value.okWide Try.prog W .any base 3 v1) (h1 : DataW.Trod enc Try.prog W 0 (fun _ => true) true 3 v1 d1 p1) (lt1 : ∀ x ∈ p1, x.block < W.heap.size)
    (o2 : Value.okWide Try.prog W .any base 3 v2) (h2 : DataW.Trod enc Try.prog W 0 (fun _ => true) true 3 v2 d2 p2) (lt2 : ∀ x ∈ p2, x.block < W.heap.size)
    :
    Calls Try.prog 4 #[v0, v1, v2] W fun e w' => e = .returned (.bool true) ∧ Ext W w' := by
  obtain ⟨k0, rfl, _, _⟩ := op_int Try.underlying3 o0 h0
  obtain ⟨d0', rfl, _, _⟩ := op_int Try.underlying3 o1 h1
  obtain ⟨f0, rfl, _, _⟩ := op_int Try.underlying3 o2 h2
  clear o0 h0 lt0 o1 h1 lt1 o2 h2 lt2
  have r0 := Int.emod_nonneg k0 (b := 301) (by omega)
  have r1 := Int.emod_lt_of_pos k0 (b := 301) (by omega)
  have s0 := Int.emod_nonneg d0' (b := 255) (by omega)
  have s1 := Int.emod_lt_of_pos d0' (b := 255) (by omega)
  obtain ⟨x, hx⟩ : ∃ x, k0 % 301 = x := ⟨_, rfl⟩
  obtain ⟨y, hy⟩ : ∃ y, d0' % 255 = y := ⟨_, rfl⟩
  rw [hx] at r0 r1
  rw [hy] at s0 s1
  have HX := hid hx
  have HY := hid hy
  clear hx hy
  have t0 := Int.emod_nonneg f0 (b := y + 1) (by omega)
  have t1 := Int.emod_lt_of_pos f0 (b := y + 1) (by omega)
  obtain ⟨z, hz⟩ : ∃ z, f0 % (y + 1) = z := ⟨_, rfl⟩
  rw [hz] at t0 t1
  have HZ := hid hz
  clear hz
  obtain ⟨k, rfl⟩ : ∃ k, x = k + 150 := ⟨x - 150, by omega⟩
  obtain ⟨d, rfl⟩ : ∃ d, y = d - 1 := ⟨y + 1, by omega⟩
  have hk0 : -150 ≤ k := by omega
  have hk1 : k ≤ 150 := by omega
  have hd0 : 1 ≤ d := by omega
  have hd1' : d ≤ 255 := by omega
  have e1 : d - 1 + 1 = d := by omega
  rw [e1] at t1 HZ
  obtain ⟨off, ho⟩ : ∃ off, z - d / 2 = off := ⟨_, rfl⟩
  have ho0 : -d ≤ 2 * off := by omega
  have ho1 : 2 * off ≤ d := by omega
  obtain ⟨m0, m1⟩ := mulb k d 150 255 ⟨hk0, hk1⟩ (by omega)
  simp only [Int.reduceMul, Int.reduceNeg] at m0 m1
  have HIn := hid (hd1_in (k * d + off) (by omega))
  have HOk := hid (rep_ok d ⟨hd0, hd1'⟩)
  have HD := hid (show downE (hd1 (k * d + off)) (rep d) = 0 by rw [downE, HOk.out, HIn.out]; rfl)
  have HR := hid (show nth (downR (hd1 (k * d + off)) (rep d)) 0 = dn (k * d + off) d by
    rw [downR, HOk.out, HIn.out, if_pos (by rfl), zip2_get _ _ _ (hd1_len _) (rep_len d) 0 (by omega), rep_get d 0 (by omega), hd1_zero])
  have HS := hid (steps_spec k d off hd0 ⟨hk0, hk1⟩ ho0 ho1)
  have ld : Len (downR (hd1 (k * d + off)) (rep d)) 64 := downR_len _ _ (hd1_len _) (rep_len d)
  have HO := hid ho
  have hS := St.start W
  clear e1 HIn HOk
  obtain ⟨hs1, hs2, hs3⟩ := HS.out
  clear HS
  have hr := HR.out
  clear HR HO
  generalize dn (k * d + off) d = v at *
  have HS1 := hid hs1
  clear hs1
  go_enter Try.func4, Try.ntmps4
  repeat' (first
    | ((with_reducible show wpList _ _ _ (⟨some 13, .binOp .sub _ _ _ _, _, _, _, _⟩ :: _) _ _); first | (refine wplV (.int _ (k)) (V.as (V.subI rfl rfl (by omega)) (by omega)) rfl ?_; go_step) | (refine wplV (.int _ (k)) (V.as (V.subR (by decide) rfl rfl) (by omega)) rfl ?_; go_step))
    | ((with_reducible show wpList _ _ _ (⟨some 16, .binOp .add _ _ _ _, _, _, _, _⟩ :: _) _ _); first | (refine wplV (.int _ (d)) (V.as (V.addI rfl rfl (by omega)) (by omega)) rfl ?_; go_step) | (refine wplV (.int _ (d)) (V.as (V.addR (by decide) rfl rfl) (by omega)) rfl ?_; go_step))
    | ((with_reducible show wpList _ _ _ (⟨some 22, .binOp .sub _ _ _ _, _, _, _, _⟩ :: _) _ _); first | (refine wplV (.int _ (off)) (V.as (V.subI rfl rfl (by omega)) (by omega)) rfl ?_; go_step) | (refine wplV (.int _ (off)) (V.as (V.subR (by decide) rfl rfl) (by omega)) rfl ?_; go_step))
    | ((with_reducible show wpList _ _ _ (⟨_, .call ⟨.value (.func 15), _, _⟩, _, _, _, _⟩ :: _) _ _); refine wpl_call (f := 15) Try.call15 rfl ?_; refine ⟨_, (coarse_any _), ?_⟩; rintro e w ⟨rfl, hE⟩; replace hS := hS.ext hE; clear hE; refine ⟨_, rfl, ?_⟩; refine put_move ?_; go_step)
    | ((with_reducible show wpList _ _ _ (⟨_, .call ⟨.value (.func 16), _, _⟩, _, _, _, _⟩ :: _) _ _); refine wpl_call (f := 16) Try.call16 rfl ?_; refine ⟨_, (rest_any _ _ _ (by omega) (by omega)), ?_⟩; rintro e w' ⟨rfl, rfl⟩; (first | rw [HX.out] | rw [HY.out] | rw [HZ.out]); refine ⟨_, rfl, ?_⟩; refine put_move ?_; go_step)
    | ((with_reducible show wpList _ _ _ (⟨some 29, _, _, _, _, _⟩ :: _) _ _); refine wpl rfl (wp_build1 _ rfl _ rfl ?_); refine put_move ?_; go_step)
    | ((with_reducible show wpList _ _ _ (⟨_, .call ⟨.value (.func 18), _, _⟩, _, _, _, _⟩ :: _) _ _); refine wpl_call (f := 18) Try.call18 rfl ?_; refine ⟨_, (ones_any _ d), ?_⟩; rintro e w ⟨rfl, hE⟩; replace hS := hS.ext hE; clear hE; refine ⟨_, rfl, ?_⟩; refine put_move ?_; go_step)
    | ((with_reducible show wpList _ _ _ (⟨_, .call ⟨.value (.func 17), _, _⟩, _, _, _, _⟩ :: _) _ _); refine wpl_call (f := 17) Try.call17 rfl ?_; refine ⟨_, (down_any _ (hd1 (k * d + off)) (rep d) (hd1_len _) (rep_len d)), ?_⟩; rintro e w ⟨rfl, hE⟩; replace hS := hS.ext hE; clear hE; rw [HD.out]; refine ⟨_, rfl, ?_⟩; refine put_move ?_; go_step)
    | go_skip
    | ((with_reducible show wpList _ _ _ (⟨_, .move _, _, _, _, _⟩ :: _) _ _); (first | go_big_want | go_step); go_step)
    | ((with_reducible show wpList _ _ _ (⟨_, .assign _, _, _, _, _⟩ :: _) _ _); (first | go_big_want | go_step); go_step)
    | ((with_reducible show wpList _ _ _ (⟨_, .pick _ _ _, _, _, _, _⟩ :: _) _ _); first | (refine wplPickT rfl rfl ?_; go_step) | (refine wplPickF rfl rfl ?_; go_step))
    | ((with_reducible show wpList _ _ _ (⟨some 38, .binOp .eql 3 _ _ _, _, _, _, _⟩ :: _) _ _); first | (refine wplD _ (V.eql rfl rfl) rfl (fun h => ?_) (fun h => ?_) <;> (try (exfalso; omega)) <;> go_step) | (refine wplB _ (V.eql rfl rfl) rfl (fun h => ?_) (fun h => ?_) <;> go_step))
    | ((with_reducible show wpList _ _ _ (⟨some 47, .binOp .eql 27 _ _ _, _, _, _, _⟩ :: _) _ _); first | (refine wplD _ (V.eql rfl rfl) rfl (fun h => ?_) (fun h => ?_) <;> (try (exfalso; omega)) <;> go_step) | (refine wplB _ (V.eql rfl rfl) rfl (fun h => ?_) (fun h => ?_) <;> go_step))
    | ((with_reducible show wpList _ _ _ (⟨some 52, .binOp .eql 3 _ _ _, _, _, _, _⟩ :: _) _ _); first | (refine wplD _ (V.eql rfl rfl) rfl (fun h => ?_) (fun h => ?_) <;> (try (exfalso; omega)) <;> go_step) | (refine wplB _ (V.eql rfl rfl) rfl (fun h => ?_) (fun h => ?_) <;> go_step))
    | ((with_reducible show wpList _ _ _ (⟨some 58, .binOp .eql 3 _ _ _, _, _, _, _⟩ :: _) _ _); first | (refine wplD _ (V.eql rfl rfl) rfl (fun h => ?_) (fun h => ?_) <;> (try (exfalso; omega)) <;> go_step) | (refine wplB _ (V.eql rfl rfl) rfl (fun h => ?_) (fun h => ?_) <;> go_step))
    | ((with_reducible show wpList _ _ _ (⟨some 69, .binOp .eql 27 _ _ _, _, _, _, _⟩ :: _) _ _); first | (refine wplD _ (V.eql rfl rfl) rfl (fun h => ?_) (fun h => ?_) <;> (try (exfalso; omega)) <;> go_step) | (refine wplB _ (V.eql rfl rfl) rfl (fun h => ?_) (fun h => ?_) <;> go_step))
    | ((with_reducible show wpList _ _ _ (⟨_, .unOp .not _ _, _, _, _, _⟩ :: _) _ _); first | (refine wplV _ (V.notD rfl) rfl ?_; go_step) | (refine wplV _ (V.not rfl) rfl ?_; go_step))
    | ((with_reducible show wpList _ _ _ (⟨_, .binOp .sub _ _ _ _, _, _, _, _⟩ :: _) _ _); first | (refine wplV _ (V.subI rfl rfl (by omega)) rfl ?_; go_step) | (refine wplV _ (V.subR (by decide) rfl rfl) rfl ?_; go_step))
    | ((with_reducible show wpList _ _ _ (⟨_, .binOp .add _ _ _ _, _, _, _, _⟩ :: _) _ _); first | (refine wplV _ (V.addI rfl rfl (by omega)) rfl ?_; go_step) | (refine wplV _ (V.addR (by decide) rfl rfl) rfl ?_; go_step))
    | ((with_reducible show wpList _ _ _ (⟨_, .binOp .quo _ _ _ _, _, _, _, _⟩ :: _) _ _); first | (refine wplV _ (V.quo rfl rfl (by omega) (by omega)) rfl ?_; go_step) | (refine wplV _ (V.quoT rfl rfl (by omega)) rfl ?_; go_step))
    | ((with_reducible show wpList _ _ _ (⟨_, .binOp .mul _ _ _ _, _, _, _, _⟩ :: _) _ _); first | (refine wplV _ (V.mulI rfl rfl (by omega)) rfl ?_; go_step) | (refine wplV _ (V.mulR (by decide) rfl rfl) rfl ?_; go_step))
    | ((with_reducible show wpList _ _ _ (⟨_, .extract _ _, _, _, _, _⟩ :: _) _ _); first | (refine wplV _ (V.extract rfl rfl) rfl ?_; go_step))
    | ((with_reducible show wpList _ _ _ (⟨_, .unOp .neg _ _, _, _, _, _⟩ :: _) _ _); first | (refine wplV _ (V.neg rfl (by omega)) rfl ?_; go_step))
    | ((with_reducible show wpList _ _ _ (⟨_, .binOp .eql 3 _ _ _, _, _, _, _⟩ :: _) _ _); first | (refine wplV _ (V.eql rfl rfl) rfl ?_; go_step))
    | ((with_reducible show wpList _ _ _ (⟨some 49, .indexAddr 23 _ _, _, _, _, _⟩ :: _) _ _); first | (refine wplV _ (V.indexAr Try.underlying23 isz3 rfl rfl (show IsN 0 0 from rfl) (by omega) (show 0 * 1 = 0 from rfl) (by first | with_reducible exact Nat.zero_add _ | with_reducible exact Nat.add_zero _ | exact rfl)) rfl ?_; go_step))
    | ((with_reducible show wpList _ _ _ (⟨some 54, .indexAddr 23 _ _, _, _, _, _⟩ :: _) _ _); first | (refine wplV _ (V.indexAr Try.underlying23 isz3 rfl rfl (show IsN 0 0 from rfl) (by omega) (show 0 * 1 = 0 from rfl) (by first | with_reducible exact Nat.zero_add _ | with_reducible exact Nat.add_zero _ | exact rfl)) rfl ?_; go_step))
    | ((with_reducible show wpList _ _ _ (⟨some 61, .indexAddr 23 _ _, _, _, _, _⟩ :: _) _ _); first | (refine wplV _ (V.indexAr Try.underlying23 isz3 rfl rfl (show IsN 0 0 from rfl) (by omega) (show 0 * 1 = 0 from rfl) (by first | with_reducible exact Nat.zero_add _ | with_reducible exact Nat.add_zero _ | exact rfl)) rfl ?_; go_step))
    | ((with_reducible show wpList _ _ _ (⟨some 71, .indexAddr 23 _ _, _, _, _, _⟩ :: _) _ _); first | (refine wplV _ (V.indexAr Try.underlying23 isz3 rfl rfl (show IsN 0 0 from rfl) (by omega) (show 0 * 1 = 0 from rfl) (by first | with_reducible exact Nat.zero_add _ | with_reducible exact Nat.add_zero _ | exact rfl)) rfl ?_; go_step))
    | ((with_reducible show wpList _ _ _ (⟨some 7, .alloc 23, _, _, _, _⟩ :: _) _ _); first | (refine wpl rfl (wp_allocA (o := ⟨some 7, _, _, _, _, _⟩) hS 23 rfl (List.replicate 64 0) 64 List.length_replicate za23 ?_); clear hS; intro g7 w hS; refine put_move ?_; go_step))
    | ((with_reducible show wpList _ _ _ (⟨_, .store 23 _ _, _, _, _, _⟩ :: _) _ _); first | (refine wpl rfl (wp_storeA hS 23 _ _ rfl _ rfl 64 (row_of rfl) _ _ (by (repeat (first | with_reducible exact Pull.head | apply Pull.tail))) (by rfl) (by assumption) rfl ?_); clear hS; intro w hS) | (refine wpl rfl (wp_storeG hS 23 _ _ rfl _ rfl 64 (row_of rfl) _ _ (by (repeat (first | with_reducible exact Pull.head | apply Pull.tail))) (by rfl) (by rfl) (by rfl) (by rfl) rfl ?_); clear hS; intro w hS))
    | ((with_reducible show wpList _ _ _ (⟨_, .load 3 _, _, _, _, _⟩ :: _) _ _); first | (refine wpl rfl (wp_load1A hS 3 _ rfl _ _ rfl (one_of rfl) _ _ (by (repeat (first | with_reducible exact Pull.head | apply Pull.tail))) (by omega) ?_); refine put_move ?_; go_step) | (refine wpl rfl (wp_load1 hS 3 _ rfl _ _ rfl (one_of rfl) _ (by (repeat (first | with_reducible exact Pull.head | apply Pull.tail))) _ (by rfl) ?_); refine put_move ?_; go_step) | (refine wpl rfl (wp_load1O hS 3 _ rfl _ _ rfl (one_of rfl) _ _ _ _ _ (by (repeat (first | with_reducible exact Pull.head | apply Pull.tail))) _ (by with_reducible assumption) ?_); refine put_move ?_; go_step) | (refine wpl rfl (wp_loadW hS 3 _ rfl _ rfl (one_of rfl) _ (by with_reducible assumption) ?_); refine put_move ?_; go_step))
    | ((fail_if_success (with_reducible show wpList _ _ _ (_ :: _) _ _)); go_step))
  all_goals (go_ret; first | exact ⟨rfl, hS.1⟩ | exact ⟨ret_bool (decide_eq_true (by have := HS1.out; omega)), hS.1⟩)
end Go.Proofs.Ytbihmbkkoidnbaa
