/- The law WaveSingle: its walk, and the statement. -/
import Derived.Test.YtgnpppcljpjkjaaWaveKeep
namespace Go.Proofs.Ytgnpppcljpjkjaa
open Go.ChangeShapes Go.WideShapes Go.ChangeAt Go.RowKit
set_option linter.unusedVariables false
theorem rnd_ref (n d : Int) (h0 : 0 ≤ n) (hd : 1 ≤ d) : rnd n d = if d ≤ 2 * (n % d) then n / d + 1 else n / d := by
  have h1 := Int.mul_ediv_add_emod n d
  have h2 := Int.emod_nonneg n (b := d) (by omega)
  have h3 := Int.emod_lt_of_pos n (b := d) (by omega)
  unfold rnd
  rw [if_neg (by omega)]
  have e : 2 * n + d = (2 * (n % d) + d) + (n / d) * (2 * d) := by
    have : (n / d) * (2 * d) = 2 * (d * (n / d)) := by rw [Int.mul_comm (n / d), Int.mul_assoc]
    omega
  rw [e, Int.add_mul_ediv_right _ _ (by omega)]
  split
  · rw [show (2 * (n % d) + d) / (2 * d) = 1 by rw [Int.ediv_eq_iff_of_pos (by omega)]; omega]; omega
  · rw [show (2 * (n % d) + d) / (2 * d) = 0 by exact Int.ediv_eq_zero_of_lt (by omega) (by omega)]; omega
theorem refRound_any (n d : Int) (w : World) (h0 : -2305843009213693951 ≤ n) (h1 : n ≤ 2305843009213693951) (h2 : 1 ≤ d) (h3 : d ≤ 1000000000) :
    Calls Try.prog 25 #[.int .i64 n, .int .i64 d] w fun e w' => e = .returned (.int .i64 (rnd n d)) ∧ w = w' := by
  obtain ⟨m, hm⟩ : ∃ m, (if n < 0 then -n else n) = m := ⟨_, rfl⟩
  have m0 : 0 ≤ m ∧ m ≤ 2305843009213693951 := by split at hm <;> omega
  have e1 := Int.mul_ediv_add_emod m d
  have e2 := Int.emod_nonneg m (b := d) (by omega)
  have e3 := Int.emod_lt_of_pos m (b := d) (by omega)
  have e4 : 0 ≤ m / d := Int.ediv_nonneg m0.1 (by omega)
  have e5 : m / d ≤ m := Int.ediv_le_self d m0.1
  have hr := rnd_ref m d m0.1 h2
  have hN : n < 0 ∧ m = -n ∧ rnd n d = - rnd m d ∨ 0 ≤ n ∧ m = n := by
    by_cases hn : n < 0
    · rw [if_pos hn] at hm; exact .inl ⟨hn, hm.symm, by rw [← hm, rnd_neg _ _ h2]; omega⟩
    · rw [if_neg hn] at hm; exact .inr ⟨by omega, hm.symm⟩
  obtain ⟨q, hq⟩ : ∃ q, m / d = q := ⟨_, rfl⟩
  obtain ⟨r, hrr⟩ : ∃ r, m % d = r := ⟨_, rfl⟩
  rw [hq] at e4 e5 hr
  rw [hrr] at e2 e3 hr
  have HQ := hid hq
  have HR := hid hrr
  have HX := hid hr
  clear hq hrr hr e1 hm
  rcases hN with ⟨n0, n1, n2⟩ | ⟨n0, n1⟩
  · have HN := hid n2
    subst n1
    clear n2
    by_cases hc : d ≤ 2 * r
    all_goals
      (first | rw [if_pos hc] at HX | rw [if_neg hc] at HX)
      go_enter Try.func25, Try.ntmps25
      repeat' (first
        | ((with_reducible show wpList _ _ _ (⟨some 13, .binOp .quo _ _ _ _, _, _, _, _⟩ :: _) _ _); first | (refine wplV (.int _ (q)) (V.as (V.quo rfl rfl (by omega) (by omega)) (by exact HQ.out)) rfl ?_; go_step) | (refine wplV (.int _ (q)) (V.as (V.quoT rfl rfl (by omega)) (by exact HQ.out)) rfl ?_; go_step))
        | ((with_reducible show wpList _ _ _ (⟨some 16, .binOp .rem _ _ _ _, _, _, _, _⟩ :: _) _ _); first | (refine wplV (.int _ (r)) (V.as (V.rem rfl rfl (by omega) (by omega)) (by exact HR.out)) rfl ?_; go_step) | (refine wplV (.int _ (r)) (V.as (V.remT rfl rfl (by omega)) (by exact HR.out)) rfl ?_; go_step))
        | go_skip
        | go_big_skip
        | ((with_reducible show wpList _ _ _ (⟨_, .move _, _, _, _, _⟩ :: _) _ _); (first | go_big_want | go_step); go_step)
        | ((with_reducible show wpList _ _ _ (⟨_, .assign _, _, _, _, _⟩ :: _) _ _); (first | go_big_want | go_step); go_step)
        | ((with_reducible show wpList _ _ _ (⟨_, .pick _ _ _, _, _, _, _⟩ :: _) _ _); first | (refine wplPickT rfl (by kernel_rfl) ?_; go_step) | (refine wplPickF rfl (by kernel_rfl) ?_; go_step))
        | ((with_reducible show wpList _ _ _ (⟨_, .binOp .lss _ _ _ _, _, _, _, _⟩ :: _) _ _); first | (refine wplV _ (V.lss rfl rfl) (by kernel_rfl) ?_; go_step))
        | ((with_reducible show wpList _ _ _ (⟨_, .unOp .neg _ _, _, _, _, _⟩ :: _) _ _); first | (refine wplV _ (V.neg rfl (by omega)) (by kernel_rfl) ?_; go_step) | (refine wplV _ (V.negR rfl) (by kernel_rfl) ?_; go_step))
        | ((with_reducible show wpList _ _ _ (⟨_, .binOp .quo _ _ _ _, _, _, _, _⟩ :: _) _ _); first | (refine wplV _ (V.quo rfl rfl (by omega) (by omega)) (by kernel_rfl) ?_; go_step) | (refine wplV _ (V.quoT rfl rfl (by omega)) (by kernel_rfl) ?_; go_step))
        | ((with_reducible show wpList _ _ _ (⟨_, .binOp .rem _ _ _ _, _, _, _, _⟩ :: _) _ _); first | (refine wplV _ (V.rem rfl rfl (by omega) (by omega)) (by kernel_rfl) ?_; go_step) | (refine wplV _ (V.remT rfl rfl (by omega)) (by kernel_rfl) ?_; go_step))
        | ((with_reducible show wpList _ _ _ (⟨_, .binOp .mul _ _ _ _, _, _, _, _⟩ :: _) _ _); first | (refine wplV _ (V.mulI rfl rfl (by omega)) (by kernel_rfl) ?_; go_step) | (refine wplV _ (V.mulR (by decide) rfl rfl) (by kernel_rfl) ?_; go_step))
        | ((with_reducible show wpList _ _ _ (⟨_, .binOp .geq _ _ _ _, _, _, _, _⟩ :: _) _ _); first | (refine wplV _ (V.geq rfl rfl) (by kernel_rfl) ?_; go_step))
        | ((with_reducible show wpList _ _ _ (⟨_, .binOp .add _ _ _ _, _, _, _, _⟩ :: _) _ _); first | (refine wplV _ (V.addI rfl rfl (by omega)) (by kernel_rfl) ?_; go_step) | (refine wplV _ (V.addR (by decide) rfl rfl) (by kernel_rfl) ?_; go_step))
        | ((fail_if_success (with_reducible show wpList _ _ _ (_ :: _) _ _)); go_step))
      go_ret
      exact ⟨ret_int (by rw [HN.out, HX.out]; omega), rfl⟩
  · subst n1
    by_cases hc : d ≤ 2 * r
    all_goals
      (first | rw [if_pos hc] at HX | rw [if_neg hc] at HX)
      go_enter Try.func25, Try.ntmps25
      repeat' (first
        | ((with_reducible show wpList _ _ _ (⟨some 13, .binOp .quo _ _ _ _, _, _, _, _⟩ :: _) _ _); first | (refine wplV (.int _ (q)) (V.as (V.quo rfl rfl (by omega) (by omega)) (by exact HQ.out)) rfl ?_; go_step) | (refine wplV (.int _ (q)) (V.as (V.quoT rfl rfl (by omega)) (by exact HQ.out)) rfl ?_; go_step))
        | ((with_reducible show wpList _ _ _ (⟨some 16, .binOp .rem _ _ _ _, _, _, _, _⟩ :: _) _ _); first | (refine wplV (.int _ (r)) (V.as (V.rem rfl rfl (by omega) (by omega)) (by exact HR.out)) rfl ?_; go_step) | (refine wplV (.int _ (r)) (V.as (V.remT rfl rfl (by omega)) (by exact HR.out)) rfl ?_; go_step))
        | go_skip
        | go_big_skip
        | ((with_reducible show wpList _ _ _ (⟨_, .move _, _, _, _, _⟩ :: _) _ _); (first | go_big_want | go_step); go_step)
        | ((with_reducible show wpList _ _ _ (⟨_, .assign _, _, _, _, _⟩ :: _) _ _); (first | go_big_want | go_step); go_step)
        | ((with_reducible show wpList _ _ _ (⟨_, .pick _ _ _, _, _, _, _⟩ :: _) _ _); first | (refine wplPickT rfl (by kernel_rfl) ?_; go_step) | (refine wplPickF rfl (by kernel_rfl) ?_; go_step))
        | ((with_reducible show wpList _ _ _ (⟨_, .binOp .lss _ _ _ _, _, _, _, _⟩ :: _) _ _); first | (refine wplV _ (V.lss rfl rfl) (by kernel_rfl) ?_; go_step))
        | ((with_reducible show wpList _ _ _ (⟨_, .unOp .neg _ _, _, _, _, _⟩ :: _) _ _); first | (refine wplV _ (V.neg rfl (by omega)) (by kernel_rfl) ?_; go_step) | (refine wplV _ (V.negR rfl) (by kernel_rfl) ?_; go_step))
        | ((with_reducible show wpList _ _ _ (⟨_, .binOp .quo _ _ _ _, _, _, _, _⟩ :: _) _ _); first | (refine wplV _ (V.quo rfl rfl (by omega) (by omega)) (by kernel_rfl) ?_; go_step) | (refine wplV _ (V.quoT rfl rfl (by omega)) (by kernel_rfl) ?_; go_step))
        | ((with_reducible show wpList _ _ _ (⟨_, .binOp .rem _ _ _ _, _, _, _, _⟩ :: _) _ _); first | (refine wplV _ (V.rem rfl rfl (by omega) (by omega)) (by kernel_rfl) ?_; go_step) | (refine wplV _ (V.remT rfl rfl (by omega)) (by kernel_rfl) ?_; go_step))
        | ((with_reducible show wpList _ _ _ (⟨_, .binOp .mul _ _ _ _, _, _, _, _⟩ :: _) _ _); first | (refine wplV _ (V.mulI rfl rfl (by omega)) (by kernel_rfl) ?_; go_step) | (refine wplV _ (V.mulR (by decide) rfl rfl) (by kernel_rfl) ?_; go_step))
        | ((with_reducible show wpList _ _ _ (⟨_, .binOp .geq _ _ _ _, _, _, _, _⟩ :: _) _ _); first | (refine wplV _ (V.geq rfl rfl) (by kernel_rfl) ?_; go_step))
        | ((with_reducible show wpList _ _ _ (⟨_, .binOp .add _ _ _ _, _, _, _, _⟩ :: _) _ _); first | (refine wplV _ (V.addI rfl rfl (by omega)) (by kernel_rfl) ?_; go_step) | (refine wplV _ (V.addR (by decide) rfl rfl) (by kernel_rfl) ?_; go_step))
        | ((fail_if_success (with_reducible show wpList _ _ _ (_ :: _) _ _)); go_step))
      go_ret
      exact ⟨ret_int (by rw [HX.out]; omega), rfl⟩
set_option maxRecDepth 100000 in
set_option maxHeartbeats 4000000 in
theorem WaveSingle_walk {H : Type} {enc : TypeId × Value → H} {d0 d1 : DataW H} {p0 p1 : List MemPlace} {v0 v1 : Value} {base : Nat} (W : World)
    (o0 : Value.okWide Try.prog W .any base 3 v0) (h0 : DataW.Trod enc Try.prog W 0 (fun _ => true) true 3 v0 d0 p0) (lt0 : ∀ x ∈ p0, x.block < W.heap.size)
    (o1 : Value.okWide Try.prog W .any base 3 v1) (h1 : DataW.Trod enc Try.prog W 0 (fun _ => true) true 3 v1 d1 p1) (lt1 : ∀ x ∈ p1, x.block < W.heap.size)
    :
    Calls Try.prog 12 #[v0, v1] W fun e w' => e = .returned (.bool true) ∧ Ext W w' := by
  obtain ⟨a0, rfl, _, _⟩ := op_int Try.underlying3 o0 h0
  obtain ⟨n0, rfl, _, _⟩ := op_int Try.underlying3 o1 h1
  clear o0 h0 lt0 o1 h1 lt1
  obtain ⟨a, ha⟩ : ∃ a : Nat, a0 % 64 = (a : Int) := ⟨(a0 % 64).toNat, by omega⟩
  obtain ⟨n, hn⟩ : ∃ n, n0 % 80001 - 40000 = n := ⟨_, rfl⟩
  have ha64 : a < 64 := by omega
  have hnb : -40000 ≤ n ∧ n ≤ 40000 := by omega
  have hL : ∀ p, p < 64 → nth ((List.replicate 64 0).set a n) p = if p = a then n else 0 := fun p hp => by
    rw [nth_set _ _ _ _ (by simp; omega)]
    by_cases h : a = p
    · rw [if_pos h, if_pos h.symm]
    · rw [if_neg h, if_neg (fun e => h e.symm), nth_zeros]
  have ok : wvOk ((List.replicate 64 0).set a n) = true := (wvOk_iff _ (by simp)).2 fun p hp => by rw [hL p hp]; split <;> omega
  have e1 : wvE ((List.replicate 64 0).set a n) = 0 := by unfold wvE; rw [ok]; rfl
  have e2 : ∀ p, p < 64 → nth (wFrom ((List.replicate 64 0).set a n)) p = rnd (n * basV (a % 8 : Nat) (p % 8 : Nat) * basV (a / 8 : Nat) (p / 8 : Nat)) 67108864 := fun p hp => by
    unfold wFrom
    rw [nth_wvR _ _ ok _ hp, dD_single ha64 hL]
    rfl
  obtain ⟨X, hX⟩ : ∃ X, wFrom ((List.replicate 64 0).set a n) = X := ⟨_, rfl⟩
  rw [hX] at e2
  have lx : Len X 64 := hX ▸ wvR_len _ _
  have HA := hid ha
  have HN := hid hn
  have E1 := hid e1
  have E2 := hid e2
  have HX := hid hX
  clear ha hn hL ok e1 e2 hX
  have hS := St.start W
  go_enter Try.func12, Try.ntmps12
  repeat' (first
    | ((with_reducible show wpList _ _ _ (⟨some 19, .binOp .sub _ _ _ _, _, _, _, _⟩ :: _) _ _); first | (refine wplV (.int _ (n)) (V.as (V.subI rfl rfl (by omega)) (by exact HN.out)) rfl ?_; go_step) | (refine wplV (.int _ (n)) (V.as (V.subR (by decide) rfl rfl) (by exact HN.out)) rfl ?_; go_step))
    | ((with_reducible show wpList _ _ _ (⟨_, .call ⟨.value (.func 18), _, _⟩, _, _, _, _⟩ :: _) _ _); refine wpl_call (f := 18) Try.call18 rfl ?_; refine ⟨_, (waved_any _), ?_⟩; rintro e w ⟨rfl, hE⟩; replace hS := hS.ext hE; clear hE; refine ⟨_, rfl, ?_⟩; refine put_move ?_; go_step)
    | ((with_reducible show wpList _ _ _ (⟨some 16, _, _, _, _, _⟩ :: _) _ _); refine wpl_call (f := 20) Try.call20 rfl ?_; refine ⟨_, (rest_any a0 64 _ (by omega) (by omega)), ?_⟩; rintro e w' ⟨rfl, rfl⟩; rw [HA.out]; refine ⟨_, rfl, ?_⟩; refine put_move ?_; go_step)
    | ((with_reducible show wpList _ _ _ (⟨some 18, _, _, _, _, _⟩ :: _) _ _); refine wpl_call (f := 20) Try.call20 rfl ?_; refine ⟨_, (rest_any n0 80001 _ (by omega) (by omega)), ?_⟩; rintro e w' ⟨rfl, rfl⟩; refine ⟨_, rfl, ?_⟩; refine put_move ?_; go_step)
    | ((with_reducible show wpList _ _ _ (⟨_, .call ⟨.value (.func 23), _, _⟩, _, _, _, _⟩ :: _) _ _); refine wpl_call (f := 23) Try.call23 rfl ?_; refine ⟨_, (wFrom_any _ ((List.replicate 64 0).set a n) Len.rep.set), ?_⟩; rintro e w ⟨rfl, hE⟩; replace hS := hS.ext hE; clear hE; rw [E1.out, HX.out]; refine ⟨_, rfl, ?_⟩; refine put_move ?_; go_step)
    | go_skip
    | go_big_skip
    | ((with_reducible show wpList _ _ _ (⟨_, .move _, _, _, _, _⟩ :: _) _ _); (first | go_big_want | go_step); go_step)
    | ((with_reducible show wpList _ _ _ (⟨_, .assign _, _, _, _, _⟩ :: _) _ _); (first | go_big_want | go_step); go_step)
    | ((with_reducible show wpList _ _ _ (⟨_, .pick _ _ _, _, _, _, _⟩ :: _) _ _); first | (refine wplPickT rfl (by kernel_rfl) ?_; go_step) | (refine wplPickF rfl (by kernel_rfl) ?_; go_step))
    | ((with_reducible show wpList _ _ _ (⟨_, .unOp .not _ _, _, _, _, _⟩ :: _) _ _); first | (refine wplV _ (V.notD rfl) (by kernel_rfl) ?_; go_step) | (refine wplV _ (V.not rfl) (by kernel_rfl) ?_; go_step))
    | ((with_reducible show wpList _ _ _ (⟨_, .binOp .sub _ _ _ _, _, _, _, _⟩ :: _) _ _); first | (refine wplV _ (V.subI rfl rfl (by omega)) (by kernel_rfl) ?_; go_step) | (refine wplV _ (V.subR (by decide) rfl rfl) (by kernel_rfl) ?_; go_step))
    | ((with_reducible show wpList _ _ _ (⟨some 22, .indexAddr 31 _ _, _, _, _, _⟩ :: _) _ _); first | (refine wplV _ (V.indexAr Try.underlying31 isz3 rfl rfl (by (repeat (first | exact IsN.auto | apply IsN.add | apply IsN.mul | apply IsN.div | apply IsN.mod | apply IsN.min | apply IsN.max | apply IsN.sub | (with_reducible show (_ : Nat) ≤ _; omega) | exact IsN.toNat (by omega)))) (by omega) (Nat.mul_one _) (by first | with_reducible exact Nat.zero_add _ | with_reducible exact Nat.add_zero _ | exact rfl)) (by kernel_rfl) ?_; go_step))
    | ((with_reducible show wpList _ _ _ (⟨_, .extract _ _, _, _, _, _⟩ :: _) _ _); first | (refine wplV _ (V.extract rfl rfl) (by kernel_rfl) ?_; go_step))
    | ((with_reducible show wpList _ _ _ (⟨_, .binOp .neq 25 _ _ _, _, _, _, _⟩ :: _) _ _); first | (refine wplV _ (V.neq rfl rfl) (by kernel_rfl) ?_; go_step))
    | ((with_reducible show wpList _ _ _ (⟨some 5, .alloc 31, _, _, _, _⟩ :: _) _ _); first | (refine wpl (by kernel_rfl) ?_; apply wp_allocA (o := ⟨some 5, _, _, _, _, _⟩) hS 31 rfl (List.replicate 64 0) 64 List.length_replicate za31; clear hS; intro g5 w hS; refine put_move ?_; go_step))
    | ((with_reducible show wpList _ _ _ (⟨_, .store 3 _ _, _, _, _, _⟩ :: _) _ _); first | (refine wpl (by kernel_rfl) ?_; apply wp_store1A hS 3 _ _ rfl _ _ rfl (one_of rfl) _ _; (case hp => (repeat (first | with_reducible exact Pull.head | apply Pull.tail))); (case hy => rfl); (case hi => omega); (case hd => exact rfl); clear hS; intro w hS) | (refine wpl (by kernel_rfl) ?_; apply wp_store1 hS 3 _ _ rfl _ _ rfl (one_of rfl) _ _; (case hp => (repeat (first | with_reducible exact Pull.head | apply Pull.tail))); (case hy => (first | exact IsV.int rfl | exact IsV.bool rfl | exact IsV.slice rfl | exact IsV.pointer rfl | exact IsV.string rfl | exact IsV.map rfl | exact IsV.func rfl)); (case hv => rfl); (case hc => (repeat (first | with_reducible exact SetAt.head | apply SetAt.tail))); (case hd => exact rfl); clear hS; intro w hS) | (refine wpl (by kernel_rfl) ?_; apply wp_store1OI hS 3 _ _ rfl _ _ rfl (one_of rfl) _ _ _ _ _; (case hp => (repeat (first | with_reducible exact Pull.head | apply Pull.tail))); (case hy => rfl); (case hi => omega); (case hd => exact rfl); clear hS; intro w hS) | (refine wpl (by kernel_rfl) ?_; apply wp_store1O hS 3 _ _ rfl _ _ rfl (one_of rfl) _ _ _ _ _; (case hp => (repeat (first | with_reducible exact Pull.head | apply Pull.tail))); (case hy => (first | exact IsV.int rfl | exact IsV.bool rfl | exact IsV.slice rfl | exact IsV.pointer rfl | exact IsV.string rfl | exact IsV.map rfl | exact IsV.func rfl)); (case hv => rfl); (case hi => omega); (case hd => exact rfl); clear hS; intro w hS))
    | ((with_reducible show wpList _ _ _ (⟨_, .load 31 _, _, _, _, _⟩ :: _) _ _); first | (refine wpl (by kernel_rfl) ?_; apply wp_loadRI hS 31 _ rfl _ _ rfl 64 (row_of rfl) _; (case hl => with_reducible assumption); (case hr => with_reducible assumption); refine put_move ?_; go_step) | (refine wpl (by kernel_rfl) ?_; apply wp_loadRO hS 31 _ rfl _ _ rfl 64 (row_of rfl) _ _ _ _ _; (case hp => (repeat (first | with_reducible exact Pull.head | apply Pull.tail))); (case hi => omega); refine put_move ?_; go_step) | (refine wpl (by kernel_rfl) ?_; apply wp_loadA hS 31 _ rfl _ rfl 64 (row_of rfl) _; (case hp => (repeat (first | with_reducible exact Pull.head | apply Pull.tail))); refine put_move ?_; go_step) | (refine wpl (by kernel_rfl) ?_; apply wp_loadG hS 31 _ rfl _ rfl 64 (row_of rfl) _; (case hp => (repeat (first | with_reducible exact Pull.head | apply Pull.tail))); (case hn => rfl); refine put_move ?_; go_step) | (refine wpl (by kernel_rfl) ?_; apply wp_loadRW hS 31 _ rfl _ _ rfl 64 (row_of rfl) _; (case hc => with_reducible assumption); (case hn => rfl); refine put_move ?_; go_step))
    | ((with_reducible show wpList _ _ _ (⟨some 6, .alloc 31, _, _, _, _⟩ :: _) _ _); first | (refine wpl (by kernel_rfl) ?_; apply wp_allocA (o := ⟨some 6, _, _, _, _, _⟩) hS 31 rfl (List.replicate 64 0) 64 List.length_replicate za31; clear hS; intro g6 w hS; refine put_move ?_; go_step))
    | ((with_reducible show wpList _ _ _ (⟨_, .store 31 _ _, _, _, _, _⟩ :: _) _ _); first | (refine wpl (by kernel_rfl) ?_; apply wp_storeA hS 31 _ _ rfl _ rfl 64 (row_of rfl) _ _; (case hp => (repeat (first | with_reducible exact Pull.head | apply Pull.tail))); (case hy => rfl); (case hm => (repeat (first | assumption | exact Len.rep | apply Len.set))); (case hd => exact rfl); clear hS; intro w hS) | (refine wpl (by kernel_rfl) ?_; apply wp_storeG hS 31 _ _ rfl _ rfl 64 (row_of rfl) _ _; (case hp => (repeat (first | with_reducible exact Pull.head | apply Pull.tail))); (case hy => rfl); (case hn => rfl); (case hn' => rfl); (case hv => rfl); (case hd => exact rfl); clear hS; intro w hS))
    | ((fail_if_success (with_reducible show wpList _ _ _ (_ :: _) _ _)); go_step))
  all_goals (try (go_ret; exact ⟨rfl, hS.1⟩))
  go_loopg [30] 64 (fun gk kv w => ∃ (i : Nat), gk + i = 64 ∧ kv = .int .i64 i ∧ St W w [arr g6 64 X])
  case atStart => exact ⟨0, rfl, rfl, hS.sub (by (repeat (first | exact Sub.nil | with_reducible exact Sub.refl | (refine Sub.cons (by (repeat (first | with_reducible exact Pull.head | apply Pull.tail))) ?_) | apply Sub.skip)))⟩
  case round =>
    clear hS
    obtain ⟨i, hi, rfl, hS⟩ := hrel
    by_cases hlt : i < 64
    · have t1 := E2.out i hlt
      obtain ⟨u, hu⟩ : ∃ u : Int, basV (a % 8 : Nat) (i % 8 : Nat) = u := ⟨_, rfl⟩
      obtain ⟨v, hv⟩ : ∃ v : Int, basV (a / 8 : Nat) (i / 8 : Nat) = v := ⟨_, rfl⟩
      have hub : -4096 ≤ u ∧ u ≤ 4096 := hu ▸ basV_bd _ _
      have hvb : -4096 ≤ v ∧ v ≤ 4096 := hv ▸ basV_bd _ _
      rw [hu, hv] at t1
      obtain ⟨m0, m1⟩ := mulbs n u 40000 4096 (by omega) (by omega)
      obtain ⟨m2, m3⟩ := mulbs (n * u) v (40000 * 4096) 4096 (by omega) (by omega)
      have HU := hid hu
      have HV := hid hv
      clear hu hv
      repeat' (first
        | ((with_reducible show wpList _ _ _ (⟨some 38, _, _, _, _, _⟩ :: _) _ _); refine wpl_call (f := 21) Try.call21 rfl ?_; refine ⟨_, (Basis_any _ ((a % 8 : Nat) : Int) ((i % 8 : Nat) : Int) (by omega) (by omega)), ?_⟩; rintro e w ⟨rfl, hE⟩; replace hS := hS.ext hE; clear hE; rw [HU.out]; refine ⟨_, rfl, ?_⟩; refine put_move ?_; go_step)
        | ((with_reducible show wpList _ _ _ (⟨some 46, _, _, _, _, _⟩ :: _) _ _); refine wpl_call (f := 21) Try.call21 rfl ?_; refine ⟨_, (Basis_any _ ((a / 8 : Nat) : Int) ((i / 8 : Nat) : Int) (by omega) (by omega)), ?_⟩; rintro e w ⟨rfl, hE⟩; replace hS := hS.ext hE; clear hE; rw [HV.out]; refine ⟨_, rfl, ?_⟩; refine put_move ?_; go_step)
        | go_skip
        | go_big_skip
        | ((with_reducible show wpList _ _ _ (⟨_, .move _, _, _, _, _⟩ :: _) _ _); (first | go_big_want | go_step); go_step)
        | ((with_reducible show wpList _ _ _ (⟨_, .assign _, _, _, _, _⟩ :: _) _ _); (first | go_big_want | go_step); go_step)
        | ((with_reducible show wpList _ _ _ (⟨_, .pick _ _ _, _, _, _, _⟩ :: _) _ _); first | (refine wplPickT rfl (by kernel_rfl) ?_; go_step) | (refine wplPickF rfl (by kernel_rfl) ?_; go_step))
        | ((with_reducible show wpList _ _ _ (⟨_, .binOp .lss _ _ _ _, _, _, _, _⟩ :: _) _ _); first | (refine wplV _ (V.lss rfl rfl) (by kernel_rfl) ?_; go_step))
        | ((with_reducible show wpList _ _ _ (⟨_, .binOp .rem _ _ _ _, _, _, _, _⟩ :: _) _ _); first | (refine wplV _ (V.rem rfl rfl (by omega) (by omega)) (by kernel_rfl) ?_; go_step) | (refine wplV _ (V.remT rfl rfl (by omega)) (by kernel_rfl) ?_; go_step))
        | ((with_reducible show wpList _ _ _ (⟨_, .extract _ _, _, _, _, _⟩ :: _) _ _); first | (refine wplV _ (V.extract rfl rfl) (by kernel_rfl) ?_; go_step))
        | ((with_reducible show wpList _ _ _ (⟨_, .binOp .quo _ _ _ _, _, _, _, _⟩ :: _) _ _); first | (refine wplV _ (V.quo rfl rfl (by omega) (by omega)) (by kernel_rfl) ?_; go_step) | (refine wplV _ (V.quoT rfl rfl (by omega)) (by kernel_rfl) ?_; go_step))
        | ((fail_if_success (with_reducible show wpList _ _ _ (_ :: _) _ _)); go_step))
      obtain ⟨z, hz⟩ : ∃ z, rnd (n * u * v) 67108864 = z := ⟨_, rfl⟩
      rw [hz] at t1
      have HZ := hid hz
      clear hz
      refine drawn_lit [] (fun w => St W w [arr g6 64 X]) (by kernel_rfl) ?_
      replace hS := hS.drew
      focus
        refine takeM 0 _ (by (repeat (first | with_reducible exact AtL.head | apply AtL.tail))) (by kernel_rfl) (by kernel_rfl) (by kernel_rfl) (by exact fun _ _ _ _ h => h) rfl ?_
        go_step
        first | (refine takeD 1 _ (by (repeat (first | with_reducible exact AtL.head | apply AtL.tail))) (by kernel_rfl) (by kernel_rfl) (by kernel_rfl) (by exact fun _ _ _ _ h => h) (V.neq rfl rfl) rfl (fun hB => ?_) (fun hB => ?_)) | (refine takeB 1 _ (by (repeat (first | with_reducible exact AtL.head | apply AtL.tail))) (by kernel_rfl) (by kernel_rfl) (by kernel_rfl) (by exact fun _ _ _ _ h => h) (V.neq rfl rfl) rfl (fun hB => ?_) (fun hB => ?_))
        rotate_left 1
        focus
          (try (have hF : False := (by omega); cases hF))
          all_goals
            go_step
            refine takeM 2 _ (by (repeat (first | with_reducible exact AtL.head | apply AtL.tail))) (by kernel_rfl) (by kernel_rfl) (by kernel_rfl) (by exact fun _ _ _ _ h => h) rfl ?_
            go_step
            refine takeM 3 _ (by (repeat (first | with_reducible exact AtL.head | apply AtL.tail))) (by kernel_rfl) (by kernel_rfl) (by kernel_rfl) (by exact fun _ _ _ _ h => h) rfl ?_
            go_step
            first | (refine takeD 4 _ (by (repeat (first | with_reducible exact AtL.head | apply AtL.tail))) (by kernel_rfl) (by kernel_rfl) (by kernel_rfl) (by exact fun _ _ _ _ h => h) (V.neq rfl rfl) rfl (fun hB => ?_) (fun hB => ?_)) | (refine takeB 4 _ (by (repeat (first | with_reducible exact AtL.head | apply AtL.tail))) (by kernel_rfl) (by kernel_rfl) (by kernel_rfl) (by exact fun _ _ _ _ h => h) (V.neq rfl rfl) rfl (fun hB => ?_) (fun hB => ?_))
            rotate_left 1
            focus
              (try (have hF : False := (by omega); cases hF))
              all_goals
                go_step
                refine takePickF 5 (by (repeat (first | with_reducible exact AtL.head | apply AtL.tail))) (by kernel_rfl) (by kernel_rfl) (by kernel_rfl) (by exact fun _ _ _ _ h => h) rfl rfl ?_
                go_step
                refine takeM 6 _ (by (repeat (first | with_reducible exact AtL.head | apply AtL.tail))) (by kernel_rfl) (by kernel_rfl) (by kernel_rfl) (by exact fun _ _ _ _ h => h) rfl ?_
                go_step
                refine takeM 7 _ (by (repeat (first | with_reducible exact AtL.head | apply AtL.tail))) (by kernel_rfl) (by kernel_rfl) (by kernel_rfl) (by exact fun _ _ _ _ h => h) rfl ?_
                go_step
                first | (refine takeV 8 _ (by (repeat (first | with_reducible exact AtL.head | apply AtL.tail))) (by kernel_rfl) (by kernel_rfl) (by kernel_rfl) (by exact fun _ _ _ _ h => h) (V.indexAr Try.underlying31 isz3 rfl rfl (by (repeat (first | exact IsN.auto | apply IsN.add | apply IsN.mul | apply IsN.div | apply IsN.mod | apply IsN.min | apply IsN.max | apply IsN.sub | (with_reducible show (_ : Nat) ≤ _; omega) | exact IsN.toNat (by omega)))) (by omega) (Nat.mul_one _) (by first | with_reducible exact Nat.zero_add _ | with_reducible exact Nat.add_zero _ | exact rfl)) rfl ?_)
                go_step
                apply takeS 9 (by (repeat (first | with_reducible exact AtL.head | apply AtL.tail))) (by kernel_rfl) (by kernel_rfl) (by kernel_rfl) (by exact fun _ _ _ _ h => h) [16, 17] (by kernel_rfl) (hS.sub (by (repeat (first | exact Sub.nil | with_reducible exact Sub.refl | (refine Sub.cons (by (repeat (first | with_reducible exact Pull.head | apply Pull.tail))) ?_) | apply Sub.skip))))
                case hfr => intro w hS; (first | (refine wpl (by kernel_rfl) ?_; apply wp_load1A hS 3 _ rfl _ _ rfl (one_of rfl) _ _; (case hp => (repeat (first | with_reducible exact Pull.head | apply Pull.tail))); (case hi => omega); refine put_move ?_; go_step) | (refine wpl (by kernel_rfl) ?_; apply wp_load1OI hS 3 _ rfl _ _ rfl (one_of rfl) _ _ _ _ _; (case hp => (repeat (first | with_reducible exact Pull.head | apply Pull.tail))); (case hi => omega); refine put_move ?_; go_step) | (refine wpl (by kernel_rfl) ?_; apply wp_load1 hS 3 _ rfl _ _ rfl (one_of rfl) _; (case hp => (repeat (first | with_reducible exact Pull.head | apply Pull.tail))); (case hc => rfl); refine put_move ?_; go_step) | (refine wpl (by kernel_rfl) ?_; apply wp_load1O hS 3 _ rfl _ _ rfl (one_of rfl) _ _ _ _ _; (case hp => (repeat (first | with_reducible exact Pull.head | apply Pull.tail))); (case hv => with_reducible assumption); refine put_move ?_; go_step) | (refine wpl (by kernel_rfl) ?_; apply wp_loadW hS 3 _ rfl _ rfl (one_of rfl) _; (case hc => with_reducible assumption); refine put_move ?_; go_step) | (refine wpl (by kernel_rfl) ?_; apply wp_load1R hS 3 _ rfl _ _ _ rfl (one_of rfl) _ _; (case hl => with_reducible assumption); (case hr => with_reducible assumption); (case hf => omega); refine put_move ?_; go_step) | (refine wpl (by kernel_rfl) ?_; apply wp_load1R0 hS 3 _ rfl _ _ rfl (one_of rfl) _ _; (case hl => with_reducible assumption); (case hr => with_reducible assumption); (case hf => omega); refine put_move ?_; go_step)); refine wpList_nil ?_; exact ⟨rfl, rfl⟩
                case hd => rfl
                refine takeM 10 _ (by (repeat (first | with_reducible exact AtL.head | apply AtL.tail))) (by kernel_rfl) (by kernel_rfl) (by kernel_rfl) (by exact fun _ _ _ _ h => h) rfl ?_
                go_step
                refine takeM 11 _ (by (repeat (first | with_reducible exact AtL.head | apply AtL.tail))) (by kernel_rfl) (by kernel_rfl) (by kernel_rfl) (by exact fun _ _ _ _ h => h) rfl ?_
                go_step
                first | (refine takeV 12 _ (by (repeat (first | with_reducible exact AtL.head | apply AtL.tail))) (by kernel_rfl) (by kernel_rfl) (by kernel_rfl) (by exact fun _ _ _ _ h => h) (V.mulI rfl rfl (by omega)) rfl ?_) | (refine takeV 12 _ (by (repeat (first | with_reducible exact AtL.head | apply AtL.tail))) (by kernel_rfl) (by kernel_rfl) (by kernel_rfl) (by exact fun _ _ _ _ h => h) (V.mulR (by decide) rfl rfl) rfl ?_)
                go_step
                refine takeM 13 _ (by (repeat (first | with_reducible exact AtL.head | apply AtL.tail))) (by kernel_rfl) (by kernel_rfl) (by kernel_rfl) (by exact fun _ _ _ _ h => h) rfl ?_
                go_step
                first | (refine takeV 14 _ (by (repeat (first | with_reducible exact AtL.head | apply AtL.tail))) (by kernel_rfl) (by kernel_rfl) (by kernel_rfl) (by exact fun _ _ _ _ h => h) (V.mulI rfl rfl (by omega)) rfl ?_) | (refine takeV 14 _ (by (repeat (first | with_reducible exact AtL.head | apply AtL.tail))) (by kernel_rfl) (by kernel_rfl) (by kernel_rfl) (by exact fun _ _ _ _ h => h) (V.mulR (by decide) rfl rfl) rfl ?_)
                go_step
                refine branch1 15 (by (repeat (first | with_reducible exact AtL.head | apply AtL.tail))) rfl (by kernel_rfl) ?_
                refine wp_callF (f := 25) rfl Try.call25 (refRound_any (n * u * v) 67108864 _ (by omega) (by omega) (by omega) (by omega)) ?_; rintro e w' ⟨rfl, rfl⟩; rw [HZ.out]; refine ⟨_, rfl, ?_⟩
                refine ⟨fun _ _ => hS.sub (by (repeat (first | exact Sub.nil | with_reducible exact Sub.refl | (refine Sub.cons (by (repeat (first | with_reducible exact Pull.head | apply Pull.tail))) ?_) | apply Sub.skip))), ?_⟩
                refine drawn_move ?_
                go_step
                first | (refine takeV 16 _ (by (repeat (first | with_reducible exact AtL.head | apply AtL.tail))) (by kernel_rfl) (by kernel_rfl) (by kernel_rfl) (by exact fun _ _ _ _ h => h) (V.neq rfl rfl) rfl ?_)
                go_step
                refine takePickF 17 (by (repeat (first | with_reducible exact AtL.head | apply AtL.tail))) (by kernel_rfl) (by kernel_rfl) (by kernel_rfl) (by exact fun _ _ _ _ h => h) rfl rfl ?_
                go_step
                refine drawn_done (by kernel_rfl) ?_ _
            rotate_right 1
            focus
              (try (have hF : False := (by omega); cases hF))
              all_goals
                go_step
                refine takePickF 5 (by (repeat (first | with_reducible exact AtL.head | apply AtL.tail))) (by kernel_rfl) (by kernel_rfl) (by kernel_rfl) (by exact fun _ _ _ _ h => h) rfl rfl ?_
                go_step
                refine takeM 6 _ (by (repeat (first | with_reducible exact AtL.head | apply AtL.tail))) (by kernel_rfl) (by kernel_rfl) (by kernel_rfl) (by exact fun _ _ _ _ h => h) rfl ?_
                go_step
                refine takeN 7 (by (repeat (first | with_reducible exact AtL.head | apply AtL.tail))) (by kernel_rfl) (by kernel_rfl) (by kernel_rfl) (by exact fun _ _ _ _ h => h) rfl ?_
                go_step
                refine takeN 8 (by (repeat (first | with_reducible exact AtL.head | apply AtL.tail))) (by kernel_rfl) (by kernel_rfl) (by kernel_rfl) (by exact fun _ _ _ _ h => h) rfl ?_
                go_step
                refine takeN 9 (by (repeat (first | with_reducible exact AtL.head | apply AtL.tail))) (by kernel_rfl) (by kernel_rfl) (by kernel_rfl) (by exact fun _ _ _ _ h => h) rfl ?_
                go_step
                refine takeN 10 (by (repeat (first | with_reducible exact AtL.head | apply AtL.tail))) (by kernel_rfl) (by kernel_rfl) (by kernel_rfl) (by exact fun _ _ _ _ h => h) rfl ?_
                go_step
                refine takeN 11 (by (repeat (first | with_reducible exact AtL.head | apply AtL.tail))) (by kernel_rfl) (by kernel_rfl) (by kernel_rfl) (by exact fun _ _ _ _ h => h) rfl ?_
                go_step
                refine takeN 12 (by (repeat (first | with_reducible exact AtL.head | apply AtL.tail))) (by kernel_rfl) (by kernel_rfl) (by kernel_rfl) (by exact fun _ _ _ _ h => h) rfl ?_
                go_step
                refine takeN 13 (by (repeat (first | with_reducible exact AtL.head | apply AtL.tail))) (by kernel_rfl) (by kernel_rfl) (by kernel_rfl) (by exact fun _ _ _ _ h => h) rfl ?_
                go_step
                refine takeN 14 (by (repeat (first | with_reducible exact AtL.head | apply AtL.tail))) (by kernel_rfl) (by kernel_rfl) (by kernel_rfl) (by exact fun _ _ _ _ h => h) rfl ?_
                go_step
                refine takeN 15 (by (repeat (first | with_reducible exact AtL.head | apply AtL.tail))) (by kernel_rfl) (by kernel_rfl) (by kernel_rfl) (by exact fun _ _ _ _ h => h) rfl ?_
                go_step
                refine takeN 16 (by (repeat (first | with_reducible exact AtL.head | apply AtL.tail))) (by kernel_rfl) (by kernel_rfl) (by kernel_rfl) (by exact fun _ _ _ _ h => h) rfl ?_
                go_step
                refine takePickT 17 (by (repeat (first | with_reducible exact AtL.head | apply AtL.tail))) (by kernel_rfl) (by kernel_rfl) (by kernel_rfl) (by exact fun _ _ _ _ h => h) rfl rfl ?_
                go_step
                refine drawn_done (by kernel_rfl) ?_ _
        rotate_right 1
        focus
          (try (have hF : False := (by omega); cases hF))
          all_goals
            go_step
            refine takeM 2 _ (by (repeat (first | with_reducible exact AtL.head | apply AtL.tail))) (by kernel_rfl) (by kernel_rfl) (by kernel_rfl) (by exact fun _ _ _ _ h => h) rfl ?_
            go_step
            refine takeN 3 (by (repeat (first | with_reducible exact AtL.head | apply AtL.tail))) (by kernel_rfl) (by kernel_rfl) (by kernel_rfl) (by exact fun _ _ _ _ h => h) rfl ?_
            go_step
            refine takeN 4 (by (repeat (first | with_reducible exact AtL.head | apply AtL.tail))) (by kernel_rfl) (by kernel_rfl) (by kernel_rfl) (by exact fun _ _ _ _ h => h) rfl ?_
            go_step
            refine takePickT 5 (by (repeat (first | with_reducible exact AtL.head | apply AtL.tail))) (by kernel_rfl) (by kernel_rfl) (by kernel_rfl) (by exact fun _ _ _ _ h => h) rfl rfl ?_
            go_step
            refine takeM 6 _ (by (repeat (first | with_reducible exact AtL.head | apply AtL.tail))) (by kernel_rfl) (by kernel_rfl) (by kernel_rfl) (by exact fun _ _ _ _ h => h) rfl ?_
            go_step
            refine takeN 7 (by (repeat (first | with_reducible exact AtL.head | apply AtL.tail))) (by kernel_rfl) (by kernel_rfl) (by kernel_rfl) (by exact fun _ _ _ _ h => h) rfl ?_
            go_step
            refine takeN 8 (by (repeat (first | with_reducible exact AtL.head | apply AtL.tail))) (by kernel_rfl) (by kernel_rfl) (by kernel_rfl) (by exact fun _ _ _ _ h => h) rfl ?_
            go_step
            refine takeN 9 (by (repeat (first | with_reducible exact AtL.head | apply AtL.tail))) (by kernel_rfl) (by kernel_rfl) (by kernel_rfl) (by exact fun _ _ _ _ h => h) rfl ?_
            go_step
            refine takeN 10 (by (repeat (first | with_reducible exact AtL.head | apply AtL.tail))) (by kernel_rfl) (by kernel_rfl) (by kernel_rfl) (by exact fun _ _ _ _ h => h) rfl ?_
            go_step
            refine takeN 11 (by (repeat (first | with_reducible exact AtL.head | apply AtL.tail))) (by kernel_rfl) (by kernel_rfl) (by kernel_rfl) (by exact fun _ _ _ _ h => h) rfl ?_
            go_step
            refine takeN 12 (by (repeat (first | with_reducible exact AtL.head | apply AtL.tail))) (by kernel_rfl) (by kernel_rfl) (by kernel_rfl) (by exact fun _ _ _ _ h => h) rfl ?_
            go_step
            refine takeN 13 (by (repeat (first | with_reducible exact AtL.head | apply AtL.tail))) (by kernel_rfl) (by kernel_rfl) (by kernel_rfl) (by exact fun _ _ _ _ h => h) rfl ?_
            go_step
            refine takeN 14 (by (repeat (first | with_reducible exact AtL.head | apply AtL.tail))) (by kernel_rfl) (by kernel_rfl) (by kernel_rfl) (by exact fun _ _ _ _ h => h) rfl ?_
            go_step
            refine takeN 15 (by (repeat (first | with_reducible exact AtL.head | apply AtL.tail))) (by kernel_rfl) (by kernel_rfl) (by kernel_rfl) (by exact fun _ _ _ _ h => h) rfl ?_
            go_step
            refine takeN 16 (by (repeat (first | with_reducible exact AtL.head | apply AtL.tail))) (by kernel_rfl) (by kernel_rfl) (by kernel_rfl) (by exact fun _ _ _ _ h => h) rfl ?_
            go_step
            refine takePickT 17 (by (repeat (first | with_reducible exact AtL.head | apply AtL.tail))) (by kernel_rfl) (by kernel_rfl) (by kernel_rfl) (by exact fun _ _ _ _ h => h) rfl rfl ?_
            go_step
            refine drawn_done (by kernel_rfl) ?_ _
      all_goals (try (have hF : False := (by omega); cases hF))
      all_goals
        repeat' (first
          | go_skip
          | go_big_skip
          | ((with_reducible show wpList _ _ _ (⟨_, .move _, _, _, _, _⟩ :: _) _ _); (first | go_big_want | go_step); go_step)
          | ((with_reducible show wpList _ _ _ (⟨_, .assign _, _, _, _, _⟩ :: _) _ _); (first | go_big_want | go_step); go_step)
          | ((with_reducible show wpList _ _ _ (⟨_, .pick _ _ _, _, _, _, _⟩ :: _) _ _); first | (refine wplPickT rfl (by kernel_rfl) ?_; go_step) | (refine wplPickF rfl (by kernel_rfl) ?_; go_step))
          | ((with_reducible show wpList _ _ _ (⟨_, .binOp .add _ _ _ _, _, _, _, _⟩ :: _) _ _); first | (refine wplV _ (V.addI rfl rfl (by omega)) (by kernel_rfl) ?_; go_step) | (refine wplV _ (V.addR (by decide) rfl rfl) (by kernel_rfl) ?_; go_step))
          | ((fail_if_success (with_reducible show wpList _ _ _ (_ :: _) _ _)); go_step))
      all_goals (try (have hF : False := (by omega); cases hF))
      all_goals
        go_roundg (gk - 1)
        case measure => omega
        case rel => exact ⟨i + 1, by omega, by go_num, hS.sub (by (repeat (first | exact Sub.nil | with_reducible exact Sub.refl | (refine Sub.cons (by (repeat (first | with_reducible exact Pull.head | apply Pull.tail))) ?_) | apply Sub.skip)))⟩
    · skip
      repeat' (first
        | go_skip
        | go_big_skip
        | ((with_reducible show wpList _ _ _ (⟨_, .move _, _, _, _, _⟩ :: _) _ _); (first | go_big_want | go_step); go_step)
        | ((with_reducible show wpList _ _ _ (⟨_, .assign _, _, _, _, _⟩ :: _) _ _); (first | go_big_want | go_step); go_step)
        | ((with_reducible show wpList _ _ _ (⟨_, .pick _ _ _, _, _, _, _⟩ :: _) _ _); first | (refine wplPickT rfl (by kernel_rfl) ?_; go_step) | (refine wplPickF rfl (by kernel_rfl) ?_; go_step))
        | ((with_reducible show wpList _ _ _ (⟨some 50, .binOp .neq 25 _ _ _, _, _, _, _⟩ :: _) _ _); first | (refine wplD _ (V.neq rfl rfl) (by kernel_rfl) (fun hB => ?_) (fun hB => ?_) <;> (try (have hF : False := (by omega); cases hF)) <;> go_step) | (refine wplB _ (V.neq rfl rfl) (by kernel_rfl) (fun hB => ?_) (fun hB => ?_) <;> go_step))
        | ((with_reducible show wpList _ _ _ (⟨some 53, .binOp .neq 25 _ _ _, _, _, _, _⟩ :: _) _ _); first | (refine wplD _ (V.neq rfl rfl) (by kernel_rfl) (fun hB => ?_) (fun hB => ?_) <;> (try (have hF : False := (by omega); cases hF)) <;> go_step) | (refine wplB _ (V.neq rfl rfl) (by kernel_rfl) (fun hB => ?_) (fun hB => ?_) <;> go_step))
        | ((with_reducible show wpList _ _ _ (⟨_, .binOp .lss _ _ _ _, _, _, _, _⟩ :: _) _ _); first | (refine wplV _ (V.lss rfl rfl) (by kernel_rfl) ?_; go_step))
        | ((with_reducible show wpList _ _ _ (⟨_, .binOp .rem _ _ _ _, _, _, _, _⟩ :: _) _ _); first | (refine wplV _ (V.rem rfl rfl (by omega) (by omega)) (by kernel_rfl) ?_; go_step) | (refine wplV _ (V.remT rfl rfl (by omega)) (by kernel_rfl) ?_; go_step))
        | ((with_reducible show wpList _ _ _ (⟨_, .extract _ _, _, _, _, _⟩ :: _) _ _); first | (refine wplV _ (V.extract rfl rfl) (by kernel_rfl) ?_; go_step))
        | ((with_reducible show wpList _ _ _ (⟨_, .binOp .quo _ _ _ _, _, _, _, _⟩ :: _) _ _); first | (refine wplV _ (V.quo rfl rfl (by omega) (by omega)) (by kernel_rfl) ?_; go_step) | (refine wplV _ (V.quoT rfl rfl (by omega)) (by kernel_rfl) ?_; go_step))
        | ((with_reducible show wpList _ _ _ (⟨some 57, .indexAddr 31 _ _, _, _, _, _⟩ :: _) _ _); first | (refine wplV _ (V.indexAr Try.underlying31 isz3 rfl rfl (by (repeat (first | exact IsN.auto | apply IsN.add | apply IsN.mul | apply IsN.div | apply IsN.mod | apply IsN.min | apply IsN.max | apply IsN.sub | (with_reducible show (_ : Nat) ≤ _; omega) | exact IsN.toNat (by omega)))) (by omega) (Nat.mul_one _) (by first | with_reducible exact Nat.zero_add _ | with_reducible exact Nat.add_zero _ | exact rfl)) (by kernel_rfl) ?_; go_step))
        | ((with_reducible show wpList _ _ _ (⟨_, .binOp .mul _ _ _ _, _, _, _, _⟩ :: _) _ _); first | (refine wplV _ (V.mulI rfl rfl (by omega)) (by kernel_rfl) ?_; go_step) | (refine wplV _ (V.mulR (by decide) rfl rfl) (by kernel_rfl) ?_; go_step))
        | ((with_reducible show wpList _ _ _ (⟨_, .binOp .neq 3 _ _ _, _, _, _, _⟩ :: _) _ _); first | (refine wplV _ (V.neq rfl rfl) (by kernel_rfl) ?_; go_step))
        | ((with_reducible show wpList _ _ _ (⟨_, .binOp .add _ _ _ _, _, _, _, _⟩ :: _) _ _); first | (refine wplV _ (V.addI rfl rfl (by omega)) (by kernel_rfl) ?_; go_step) | (refine wplV _ (V.addR (by decide) rfl rfl) (by kernel_rfl) ?_; go_step))
        | ((with_reducible show wpList _ _ _ (⟨_, .load 3 _, _, _, _, _⟩ :: _) _ _); first | (refine wpl (by kernel_rfl) ?_; apply wp_load1A hS 3 _ rfl _ _ rfl (one_of rfl) _ _; (case hp => (repeat (first | with_reducible exact Pull.head | apply Pull.tail))); (case hi => omega); refine put_move ?_; go_step) | (refine wpl (by kernel_rfl) ?_; apply wp_load1OI hS 3 _ rfl _ _ rfl (one_of rfl) _ _ _ _ _; (case hp => (repeat (first | with_reducible exact Pull.head | apply Pull.tail))); (case hi => omega); refine put_move ?_; go_step) | (refine wpl (by kernel_rfl) ?_; apply wp_load1 hS 3 _ rfl _ _ rfl (one_of rfl) _; (case hp => (repeat (first | with_reducible exact Pull.head | apply Pull.tail))); (case hc => rfl); refine put_move ?_; go_step) | (refine wpl (by kernel_rfl) ?_; apply wp_load1O hS 3 _ rfl _ _ rfl (one_of rfl) _ _ _ _ _; (case hp => (repeat (first | with_reducible exact Pull.head | apply Pull.tail))); (case hv => with_reducible assumption); refine put_move ?_; go_step) | (refine wpl (by kernel_rfl) ?_; apply wp_loadW hS 3 _ rfl _ rfl (one_of rfl) _; (case hc => with_reducible assumption); refine put_move ?_; go_step) | (refine wpl (by kernel_rfl) ?_; apply wp_load1R hS 3 _ rfl _ _ _ rfl (one_of rfl) _ _; (case hl => with_reducible assumption); (case hr => with_reducible assumption); (case hf => omega); refine put_move ?_; go_step) | (refine wpl (by kernel_rfl) ?_; apply wp_load1R0 hS 3 _ rfl _ _ rfl (one_of rfl) _ _; (case hl => with_reducible assumption); (case hr => with_reducible assumption); (case hf => omega); refine put_move ?_; go_step))
        | ((fail_if_success (with_reducible show wpList _ _ _ (_ :: _) _ _)); go_step))
      go_ret
      exact ⟨rfl, hS.1⟩
end Go.Proofs.Ytgnpppcljpjkjaa
