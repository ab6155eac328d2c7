/- The law BestEqual: its walk, and the statement. -/
import Derived.Test.YtembekkanggciaaBestOpt
import Derived.Test.YtembekkanggciaaOpen
import Derived.Test.YtembekkanggciaaTint
import Derived.Test.YtembekkanggciaaRows
namespace Go.Proofs.Ytembekkanggciaa
open Go.ChangeShapes Go.WideShapes Go.ChangeAt Go.RowKit
set_option linter.unusedVariables false
theorem rep_nth {n : Int} {N i : Nat} (h : i < N) : nth (List.replicate N n) i = n := by
  simp [nth, List.getD, h]
theorem rep_pos {n : Int} (hn : 1 ≤ n) (N : Nat) : posL (List.replicate N n) N = (List.range N).map fun s : Nat => (s : Int) := by
  unfold posL
  rw [List.filter_eq_self.2 fun s hs => decide_eq_true (by rw [rep_nth (List.mem_range.1 hs)]; omega)]
theorem rep_cost (n : Int) (N : Nat) (l : Int → Nat) : costL (List.replicate N n) N l = n * (nsum (fun s : Nat => l (s : Int)) (List.range N) : Nat) := by
  have e : costL (List.replicate N n) N l = isum (fun s : Nat => n * ((l (s : Int) : Nat) : Int)) (List.range N) := isum_congr _ _ _ fun s hs => by rw [rep_nth (List.mem_range.1 hs)]
  rw [e]
  generalize List.range N = L
  induction L with
  | nil => simp [isum, nsum]
  | cons a L ih => rw [isum_cons, nsum_cons, ih]; push_cast; rw [Int.mul_add]
theorem one_eq {k l : Nat} (hk : k ≤ 8) (h1 : 1 ≤ l) (hl : l ≤ 16) : 2 ^ (16 - k) * (1 + k) ≤ 2 ^ (16 - l) + 2 ^ (16 - k) * l := by
  have : ∀ k, k < 9 → ∀ l, l < 17 → 1 ≤ l → 2 ^ (16 - k) * (1 + k) ≤ 2 ^ (16 - l) + 2 ^ (16 - k) * l := by decide
  exact this k (by omega) l (by omega) h1
theorem sum_eq {k : Nat} (hk : k ≤ 8) (f : Nat → Nat) : ∀ L : List Nat, (∀ s ∈ L, 1 ≤ f s ∧ f s ≤ 16) → 2 ^ (16 - k) * (1 + k) * L.length ≤ nsum (fun s => 2 ^ (16 - f s)) L + 2 ^ (16 - k) * nsum f L
  | [], _ => by simp [nsum]
  | a :: L, h => by
    have h1 := sum_eq hk f L fun s hs => h s (by simp [hs])
    have h2 := one_eq hk (h a (by simp)).1 (h a (by simp)).2
    rw [nsum_cons, nsum_cons, List.length_cons, Nat.mul_succ, Nat.mul_add (2 ^ (16 - k)) (f a) (nsum f L)]
    omega
theorem equal_law {n : Int} (hn : 1 ≤ n) {k N : Nat} (hk : 1 ≤ k) (hk8 : k ≤ 8) (hN : N + 1 = 2 ^ k) {C S : List Int} (h : Mk (List.replicate N n) N C S) : costL (List.replicate N n) N (lw (wds C S)) = n * (k * N : Nat) := by
  have hpos := rep_pos hn N
  have hlen : (posL (List.replicate N n) N).length = N := by rw [hpos]; simp
  have hb := h.best (fun _ => k) (by
    refine ⟨fun s _ => ⟨hk, by omega⟩, ?_⟩
    have e : nsum (fun _ : Int => 2 ^ (16 - k)) (posL (List.replicate N n) N) = N * 2 ^ (16 - k) := by
      have := nsum_mul (fun _ : Int => 1) (2 ^ (16 - k)) (posL (List.replicate N n) N)
      simp only [Nat.one_mul] at this
      rw [this, nsum_const, hlen]
    rw [e]
    have h2 : (N + 1) * 2 ^ (16 - k) = 2 ^ k * 2 ^ (16 - k) := by rw [hN]
    rw [← Nat.pow_add, show k + (16 - k) = 16 by omega, Nat.add_mul] at h2
    have := Nat.two_pow_pos (16 - k)
    omega)
  have hk2 := h.lens.kraft
  rw [hpos, nsum_map] at hk2
  have hs := sum_eq hk8 (fun s : Nat => lw (wds C S) (s : Int)) (List.range N) fun s hs => h.lens.top _ (by rw [hpos]; exact List.mem_map.2 ⟨s, hs, rfl⟩)
  rw [List.length_range] at hs
  rw [rep_cost] at hb ⊢
  rw [rep_cost] at hb
  have e2 : nsum (fun _ : Nat => k) (List.range N) = k * N := by
    have := nsum_mul (fun _ : Nat => 1) k (List.range N)
    simp only [Nat.one_mul] at this
    rw [this, nsum_const, List.length_range, Nat.mul_comm]
  rw [e2] at hb
  obtain ⟨T, hT⟩ : ∃ T, nsum (fun s : Nat => lw (wds C S) (s : Int)) (List.range N) = T := ⟨_, rfl⟩
  rw [hT] at hb hs ⊢
  have hT2 : k * N ≤ T := by
    have h2 : (N + 1) * 2 ^ (16 - k) = 2 ^ 16 := by rw [hN, ← Nat.pow_add, show k + (16 - k) = 16 by omega]
    obtain ⟨P, hP⟩ : ∃ P, 2 ^ (16 - k) = P := ⟨_, rfl⟩
    rw [hP] at hs h2
    have hP0 : 0 < P := by rw [← hP]; exact Nat.two_pow_pos _
    have h3 : P * (1 + k) * N < (N + 1) * P + P * T := by omega
    have h4 : P * (N + k * N) < P * (N + 1 + T) := by
      have e3 : P * (1 + k) * N = P * (N + k * N) := by rw [Nat.mul_assoc, Nat.add_mul, Nat.one_mul]
      have e4 : (N + 1) * P + P * T = P * (N + 1 + T) := by rw [Nat.mul_comm (N + 1) P, ← Nat.mul_add]
      omega
    have := Nat.lt_of_mul_lt_mul_left h4
    omega
  refine Int.le_antisymm hb (Int.mul_le_mul_of_nonneg_left (by omega) (by omega))
set_option maxRecDepth 100000 in
set_option maxHeartbeats 8000000 in
theorem BestEqual_walk {H : Type} {enc : TypeId × Value → H} {d0 d1 : DataW H} {p0 p1 : List MemPlace} {v0 v1 : Value} {base : Nat} (W : World)
    (o0 : Value.okWide Try.prog W .any base 3 v0) (h0 : DataW.Trod enc Try.prog W 0 (fun _ => true) true 3 v0 d0 p0) (lt0 : ∀ x ∈ p0, x.block < W.heap.size)
    (o1 : Value.okWide Try.prog W .any base 3 v1) (h1 : DataW.Trod enc Try.prog W 0 (fun _ => true) true 3 v1 d1 p1) (lt1 : ∀ x ∈ p1, x.block < W.heap.size)
    :
    Calls Try.prog 9 #[v0, v1] W fun e w' => e = .returned (.bool true) ∧ Ext W w' := by
  obtain ⟨a, rfl, _, _⟩ := op_int Try.underlying3 o0 h0
  obtain ⟨b, rfl, _, _⟩ := op_int Try.underlying3 o1 h1
  clear o0 o1 h0 h1 lt0 lt1
  have a0 := Int.emod_nonneg a (b := 7) (by omega)
  have a1 := Int.emod_lt_of_pos a (b := 7) (by omega)
  have b0 := Int.emod_nonneg b (b := 9999) (by omega)
  have b1 := Int.emod_lt_of_pos b (b := 9999) (by omega)
  have hS := St.start W
  obtain ⟨k, hk⟩ : ∃ k : Nat, a % 7 + 1 = (k : Int) := ⟨(a % 7 + 1).toNat, by omega⟩
  obtain ⟨q, hq⟩ : ∃ q, b % 9999 + 1 = q := ⟨_, rfl⟩
  have HK := hid hk
  have HQ := hid hq
  have hk1 : 1 ≤ k ∧ k ≤ 7 := by omega
  have hq1 : 1 ≤ q ∧ q ≤ 9999 := by omega
  clear hk hq a0 a1 b0 b1
  obtain ⟨P, hP⟩ : ∃ P, 2 ^ k = P := ⟨_, rfl⟩
  have HP : Hid ((2 : Int) ^ k = ((P : Nat) : Int)) := hid (by rw [← hP]; push_cast; rfl)
  have hP2 : P ≤ 128 := by rw [← hP]; exact Nat.pow_le_pow_right (n := 2) (j := 7) (by omega) hk1.2
  have hP3 : 2 ≤ P := by rw [← hP]; exact Nat.pow_le_pow_right (n := 2) (i := 1) (by omega) hk1.1
  obtain ⟨N, hN⟩ : ∃ N, P = N + 1 := ⟨P - 1, by omega⟩
  have HN : Hid (N + 1 = 2 ^ k) := hid (by omega)
  clear hP
  have hmul : 0 ≤ q * (k : Int) ∧ q * (k : Int) ≤ 9999 * 7 := ⟨Int.mul_nonneg (by omega) (by omega), Int.mul_le_mul (by omega) (by omega) (by omega) (by omega)⟩
  have hmul2 : 0 ≤ q * (k : Int) * (N : Int) ∧ q * (k : Int) * (N : Int) ≤ 9999 * 7 * 128 := ⟨Int.mul_nonneg hmul.1 (by omega), Int.mul_le_mul hmul.2 (by omega) (by omega) (by omega)⟩
  have HB : Hid (bE (List.replicate N q) = 0) := hid (bE_of (by simp; omega) (fun i hi => by
    rw [rep_nth (by simpa using hi)]; omega))
  go_enter Try.func9, Try.ntmps9
  repeat' (first
    | ((with_reducible show wpList _ _ _ (⟨some 10, _, _, _, _, _⟩ :: _) _ _); refine wpl_call (f := 15) Try.call15 (by kernel_rfl) ?_; refine ⟨_, (rest_any a 7 _ (by omega) (by omega)), ?_⟩; rintro e w ⟨rfl, rfl⟩; refine ⟨_, rfl, ?_⟩; refine put_move ?_; go_step)
    | ((with_reducible show wpList _ _ _ (⟨some 13, _, _, _, _, _⟩ :: _) _ _); refine wpl_call (f := 15) Try.call15 (by kernel_rfl) ?_; refine ⟨_, (rest_any b 9999 _ (by omega) (by omega)), ?_⟩; rintro e w ⟨rfl, rfl⟩; refine ⟨_, rfl, ?_⟩; refine put_move ?_; go_step)
    | go_skip
    | go_big_skip
    | ((with_reducible show wpList _ _ _ (⟨_, .move _, _, _, _, _⟩ :: _) _ _); (first | go_big_want | go_step); go_step)
    | ((with_reducible show wpList _ _ _ (⟨_, .assign _, _, _, _, _⟩ :: _) _ _); (first | go_big_want | go_step); go_step)
    | ((with_reducible show wpList _ _ _ (⟨_, .pick _ _ _, _, _, _, _⟩ :: _) _ _); first | (refine wplPickT rfl (by kernel_rfl) ?_; go_step) | (refine wplPickF rfl (by kernel_rfl) ?_; go_step))
    | ((with_reducible show wpList _ _ _ (⟨_, .binOp .add _ _ _ _, _, _, _, _⟩ :: _) _ _); first | (refine wplV _ (V.addI rfl rfl (by omega)) (by kernel_rfl) ?_; go_step) | (refine wplV _ (V.addR (by decide) rfl rfl) (by kernel_rfl) ?_; go_step))
    | ((fail_if_success (with_reducible show wpList _ _ _ (_ :: _) _ _)); go_step))
  rw [HK.out, HQ.out]
  repeat' (first
    | ((with_reducible show wpList _ _ _ (⟨some 16, .binOp .shl _ _ _ _, _, _, _, _⟩ :: _) _ _); first | (refine wplV (.int _ (((P : Nat) : Int))) (V.as (V.shl1 rfl rfl (by (repeat (first | exact IsN.auto | with_reducible apply IsN.add | with_reducible apply IsN.sub | with_reducible apply IsN.mul | with_reducible apply IsN.div | with_reducible apply IsN.mod | with_reducible apply IsN.min | with_reducible apply IsN.max | (with_reducible show (_ : Nat) ≤ _; omega) | exact IsN.toNat (by omega)))) (by omega)) (by exact HP.out)) rfl ?_; go_step) | (refine wplV (.int _ (((P : Nat) : Int))) (V.as (V.shlI rfl rfl (by (repeat (first | exact IsN.auto | with_reducible apply IsN.add | with_reducible apply IsN.sub | with_reducible apply IsN.mul | with_reducible apply IsN.div | with_reducible apply IsN.mod | with_reducible apply IsN.min | with_reducible apply IsN.max | (with_reducible show (_ : Nat) ≤ _; omega) | exact IsN.toNat (by omega)))) (by omega) (by omega)) (by exact HP.out)) rfl ?_; go_step) | (refine wplV (.int _ (((P : Nat) : Int))) (V.as (V.shl rfl rfl (by (repeat (first | exact IsN.auto | with_reducible apply IsN.add | with_reducible apply IsN.sub | with_reducible apply IsN.mul | with_reducible apply IsN.div | with_reducible apply IsN.mod | with_reducible apply IsN.min | with_reducible apply IsN.max | (with_reducible show (_ : Nat) ≤ _; omega) | exact IsN.toNat (by omega)))) (by omega) rfl) (by exact HP.out)) rfl ?_; go_step))
    | ((with_reducible show wpList _ _ _ (⟨some 17, .binOp .sub _ _ _ _, _, _, _, _⟩ :: _) _ _); first | (refine wplV (.int _ (((N : Nat) : Int))) (V.as (V.subI rfl rfl (by omega)) (by omega)) rfl ?_; go_step) | (refine wplV (.int _ (((N : Nat) : Int))) (V.as (V.subR (by decide) rfl rfl) (by omega)) rfl ?_; go_step))
    | go_skip
    | go_big_skip
    | ((with_reducible show wpList _ _ _ (⟨_, .move _, _, _, _, _⟩ :: _) _ _); (first | go_big_want | go_step); go_step)
    | ((with_reducible show wpList _ _ _ (⟨_, .assign _, _, _, _, _⟩ :: _) _ _); (first | go_big_want | go_step); go_step)
    | ((with_reducible show wpList _ _ _ (⟨_, .pick _ _ _, _, _, _, _⟩ :: _) _ _); first | (refine wplPickT rfl (by kernel_rfl) ?_; go_step) | (refine wplPickF rfl (by kernel_rfl) ?_; go_step))
    | ((with_reducible show wpList _ _ _ (⟨_, .binOp .shl _ _ _ _, _, _, _, _⟩ :: _) _ _); first | (refine wplV _ (V.shl1 rfl rfl (by (repeat (first | exact IsN.auto | with_reducible apply IsN.add | with_reducible apply IsN.sub | with_reducible apply IsN.mul | with_reducible apply IsN.div | with_reducible apply IsN.mod | with_reducible apply IsN.min | with_reducible apply IsN.max | (with_reducible show (_ : Nat) ≤ _; omega) | exact IsN.toNat (by omega)))) (by omega)) (by kernel_rfl) ?_; go_step) | (refine wplV _ (V.shlI rfl rfl (by (repeat (first | exact IsN.auto | with_reducible apply IsN.add | with_reducible apply IsN.sub | with_reducible apply IsN.mul | with_reducible apply IsN.div | with_reducible apply IsN.mod | with_reducible apply IsN.min | with_reducible apply IsN.max | (with_reducible show (_ : Nat) ≤ _; omega) | exact IsN.toNat (by omega)))) (by omega) (by omega)) (by kernel_rfl) ?_; go_step) | (refine wplV _ (V.shl rfl rfl (by (repeat (first | exact IsN.auto | with_reducible apply IsN.add | with_reducible apply IsN.sub | with_reducible apply IsN.mul | with_reducible apply IsN.div | with_reducible apply IsN.mod | with_reducible apply IsN.min | with_reducible apply IsN.max | (with_reducible show (_ : Nat) ≤ _; omega) | exact IsN.toNat (by omega)))) (by omega) rfl) (by kernel_rfl) ?_; go_step))
    | ((with_reducible show wpList _ _ _ (⟨_, .binOp .sub _ _ _ _, _, _, _, _⟩ :: _) _ _); first | (refine wplV _ (V.subI rfl rfl (by omega)) (by kernel_rfl) ?_; go_step) | (refine wplV _ (V.subR (by decide) rfl rfl) (by kernel_rfl) ?_; go_step))
    | ((with_reducible show wpList _ _ _ (⟨_, .call ⟨.builtin .len, _, _⟩, _, _, _, _⟩ :: _) _ _); first | (refine wplV _ (V.len Try.underlying23 rfl) (by kernel_rfl) ?_; go_step))
    | ((with_reducible show wpList _ _ _ (⟨some 18, .makeSlice 23 _ _, _, _, _, _⟩ :: _) _ _); first | (refine wpl (by kernel_rfl) ?_; apply wp_make (o := ⟨some 18, _, _, _, _, _⟩) hS 23 _ _ rfl _ _ _ _ elz23 _ _ _ _ _ _ rfl rfl; (case hi => (repeat (first | exact IsN.auto | with_reducible apply IsN.add | with_reducible apply IsN.sub | with_reducible apply IsN.mul | with_reducible apply IsN.div | with_reducible apply IsN.mod | with_reducible apply IsN.min | with_reducible apply IsN.max | (with_reducible show (_ : Nat) ≤ _; omega) | exact IsN.toNat (by omega)))); (case hj => (repeat (first | exact IsN.auto | with_reducible apply IsN.add | with_reducible apply IsN.sub | with_reducible apply IsN.mul | with_reducible apply IsN.div | with_reducible apply IsN.mod | with_reducible apply IsN.min | with_reducible apply IsN.max | (with_reducible show (_ : Nat) ≤ _; omega) | exact IsN.toNat (by omega)))); (case hnm => omega); (case hb => omega); (case h63 => unfold maxLen; omega); clear hS; intro g18 w hS; refine put_move ?_; go_step))
    | ((fail_if_success (with_reducible show wpList _ _ _ (_ :: _) _ _)); go_step))
  rw [Nat.mul_one] at hS
  go_loopg [21] N (fun gk kv w => ∃ (i : Nat) (l : List Int), gk + i = N ∧ kv = .int .i64 i ∧ Hid (l.length = N) ∧ Hid (∀ j, j < i → nth l j = q) ∧ St W w [own 3 1 (some ⟨g18, 0, none⟩) N N (l.map (Value.int .i64))])
  case atStart => exact ⟨0, _, rfl, rfl, hid List.length_replicate, hid (fun j hj => by omega), hS⟩
  case round =>
    clear hS
    obtain ⟨i, l, hi, rfl, HL, HV, hS⟩ := hrel
    by_cases hlt : i < N
    · skip
      repeat' (first
        | go_skip
        | go_big_skip
        | ((with_reducible show wpList _ _ _ (⟨_, .move _, _, _, _, _⟩ :: _) _ _); (first | go_big_want | go_step); go_step)
        | ((with_reducible show wpList _ _ _ (⟨_, .assign _, _, _, _, _⟩ :: _) _ _); (first | go_big_want | go_step); go_step)
        | ((with_reducible show wpList _ _ _ (⟨_, .pick _ _ _, _, _, _, _⟩ :: _) _ _); first | (refine wplPickT rfl (by kernel_rfl) ?_; go_step) | (refine wplPickF rfl (by kernel_rfl) ?_; go_step))
        | ((with_reducible show wpList _ _ _ (⟨_, .binOp .lss _ _ _ _, _, _, _, _⟩ :: _) _ _); first | (refine wplV _ (V.lss rfl rfl) (by kernel_rfl) ?_; go_step))
        | ((with_reducible show wpList _ _ _ (⟨some 27, .indexAddr 23 _ _, _, _, _, _⟩ :: _) _ _); first | (refine wplV _ (V.indexSl Try.underlying23 isz3 rfl rfl (by (repeat (first | exact IsN.auto | with_reducible apply IsN.add | with_reducible apply IsN.sub | with_reducible apply IsN.mul | with_reducible apply IsN.div | with_reducible apply IsN.mod | with_reducible apply IsN.min | with_reducible apply IsN.max | (with_reducible show (_ : Nat) ≤ _; omega) | exact IsN.toNat (by omega)))) (by omega) (Nat.mul_one _) (by first | with_reducible exact Nat.zero_add _ | with_reducible exact Nat.add_zero _ | exact rfl)) (by kernel_rfl) ?_; go_step) | (refine wpl_indexI (by with_reducible assumption) Try.underlying23 isz3 rfl rfl (by (repeat (first | exact IsN.auto | with_reducible apply IsN.add | with_reducible apply IsN.sub | with_reducible apply IsN.mul | with_reducible apply IsN.div | with_reducible apply IsN.mod | with_reducible apply IsN.min | with_reducible apply IsN.max | (with_reducible show (_ : Nat) ≤ _; omega) | exact IsN.toNat (by omega)))) (by omega) rfl ?_; intro b27 o27 hc27; go_step) | (refine wpl_indexW (by with_reducible assumption) Try.underlying23 isz3 rfl rfl (by (repeat (first | exact IsN.auto | with_reducible apply IsN.add | with_reducible apply IsN.sub | with_reducible apply IsN.mul | with_reducible apply IsN.div | with_reducible apply IsN.mod | with_reducible apply IsN.min | with_reducible apply IsN.max | (with_reducible show (_ : Nat) ≤ _; omega) | exact IsN.toNat (by omega)))) (by omega) rfl ?_; intro b27 o27 hc27; go_step) | (refine wpl_indexO hS rfl (by (repeat (first | with_reducible exact Pull.head | apply Pull.tail))) Try.underlying23 isz3 rfl (by (repeat (first | exact IsN.auto | with_reducible apply IsN.add | with_reducible apply IsN.sub | with_reducible apply IsN.mul | with_reducible apply IsN.div | with_reducible apply IsN.mod | with_reducible apply IsN.min | with_reducible apply IsN.max | (with_reducible show (_ : Nat) ≤ _; omega) | exact IsN.toNat (by omega)))) (by omega) (Nat.mul_one _) rfl ?_; (first | (rintro b27 rfl) | (intro b27 hb27; cases hb27)); go_step))
        | ((with_reducible show wpList _ _ _ (⟨_, .binOp .add _ _ _ _, _, _, _, _⟩ :: _) _ _); first | (refine wplV _ (V.addI rfl rfl (by omega)) (by kernel_rfl) ?_; go_step) | (refine wplV _ (V.addR (by decide) rfl rfl) (by kernel_rfl) ?_; go_step))
        | ((with_reducible show wpList _ _ _ (⟨_, .store 3 _ _, _, _, _, _⟩ :: _) _ _); first | (refine wpl (by kernel_rfl) ?_; apply wp_store1A hS 3 _ _ rfl _ _ rfl (one_of rfl) _ _; (case hp => (repeat (first | with_reducible exact Pull.head | apply Pull.tail))); (case hy => rfl); (case hi => omega); (case hd => exact rfl); clear hS; intro w hS) | (refine wpl (by kernel_rfl) ?_; apply wp_store1 hS 3 _ _ rfl _ _ rfl (one_of rfl) _ _; (case hp => (repeat (first | with_reducible exact Pull.head | apply Pull.tail))); (case hy => (first | exact IsV.int rfl | exact IsV.bool rfl | exact IsV.slice rfl | exact IsV.pointer rfl | exact IsV.string rfl | exact IsV.map rfl | exact IsV.func rfl)); (case hv => rfl); (case hc => (repeat (first | with_reducible exact SetAt.head | apply SetAt.tail))); (case hd => exact rfl); clear hS; intro w hS) | (refine wpl (by kernel_rfl) ?_; apply wp_store1OI hS 3 _ _ rfl _ _ rfl (one_of rfl) _ _ _ _ _; (case hp => (repeat (first | with_reducible exact Pull.head | apply Pull.tail))); (case hy => rfl); (case hi => omega); (case hd => exact rfl); clear hS; intro w hS) | (refine wpl (by kernel_rfl) ?_; apply wp_store1O hS 3 _ _ rfl _ _ rfl (one_of rfl) _ _ _ _ _; (case hp => (repeat (first | with_reducible exact Pull.head | apply Pull.tail))); (case hy => (first | exact IsV.int rfl | exact IsV.bool rfl | exact IsV.slice rfl | exact IsV.pointer rfl | exact IsV.string rfl | exact IsV.map rfl | exact IsV.func rfl)); (case hv => rfl); (case hi => omega); (case hd => exact rfl); clear hS; intro w hS))
        | ((fail_if_success (with_reducible show wpList _ _ _ (_ :: _) _ _)); go_step))
      go_roundg (gk - 1)
      case measure => omega
      case rel =>
        refine ⟨i + 1, l.set i q, by omega, by go_num, hid (by rw [List.length_set]; exact HL.out), hid (fun j hj => ?_), hS.sub (by (repeat (first | exact Sub.nil | with_reducible exact Sub.refl | (apply Sub.cons; (case p => (repeat (first | with_reducible exact Pull.head | apply Pull.tail)))) | apply Sub.skip)))⟩
        by_cases hj2 : j = i
        · subst hj2
          have := HL.out
          simp [nth, List.getD, List.getElem?_set, this, hlt]
        · have := HV.out j (by omega)
          simp only [nth, List.getD, List.getElem?_set] at this ⊢
          rw [if_neg (by omega)]; exact this
    · obtain rfl : i = N := by omega
      have hl : l = List.replicate i q := by
        refine List.ext_getElem (by rw [HL.out, List.length_replicate]) fun j h1 h2 => ?_
        have h3 := HV.out j (by rw [← HL.out]; exact h1)
        simp only [nth, List.getD, List.getElem?_eq_getElem h1, Option.getD_some] at h3
        rw [h3, List.getElem_replicate]
      subst hl
      repeat' (first
        | go_skip
        | go_big_skip
        | ((with_reducible show wpList _ _ _ (⟨_, .move _, _, _, _, _⟩ :: _) _ _); (first | go_big_want | go_step); go_step)
        | ((with_reducible show wpList _ _ _ (⟨_, .assign _, _, _, _, _⟩ :: _) _ _); (first | go_big_want | go_step); go_step)
        | ((with_reducible show wpList _ _ _ (⟨_, .pick _ _ _, _, _, _, _⟩ :: _) _ _); first | (refine wplPickT rfl (by kernel_rfl) ?_; go_step) | (refine wplPickF rfl (by kernel_rfl) ?_; go_step))
        | ((with_reducible show wpList _ _ _ (⟨_, .binOp .lss _ _ _ _, _, _, _, _⟩ :: _) _ _); first | (refine wplV _ (V.lss rfl rfl) (by kernel_rfl) ?_; go_step))
        | ((fail_if_success (with_reducible show wpList _ _ _ (_ :: _) _ _)); go_step))
      repeat' (first
        | ((with_reducible show wpList _ _ _ (⟨some 31, _, _, _, _, _⟩ :: _) _ _); refine wpl_call (f := 16) Try.call16 (by kernel_rfl) ?_; refine ⟨_, (made_any _ (List.replicate i q) _ i i (hS.sl (by (repeat (first | with_reducible exact Pull.head | apply Pull.tail)))) (by omega)), ?_⟩; rintro e w ⟨X, hX, rfl, hE2⟩; have HX := hid hX; rw [decide_eq_true HB.out]; replace hS := hS.ext hE2; clear hE2 hX; refine ⟨_, rfl, ?_⟩; refine put_move ?_; go_step)
        | go_skip
        | go_big_skip
        | ((with_reducible show wpList _ _ _ (⟨_, .move _, _, _, _, _⟩ :: _) _ _); (first | go_big_want | go_step); go_step)
        | ((with_reducible show wpList _ _ _ (⟨_, .assign _, _, _, _, _⟩ :: _) _ _); (first | go_big_want | go_step); go_step)
        | ((with_reducible show wpList _ _ _ (⟨_, .pick _ _ _, _, _, _, _⟩ :: _) _ _); first | (refine wplPickT rfl (by kernel_rfl) ?_; go_step) | (refine wplPickF rfl (by kernel_rfl) ?_; go_step))
        | ((with_reducible show wpList _ _ _ (⟨_, .extract _ _, _, _, _, _⟩ :: _) _ _); first | (refine wplV _ (V.extract rfl rfl) (by kernel_rfl) ?_; go_step))
        | ((fail_if_success (with_reducible show wpList _ _ _ (_ :: _) _ _)); go_step))
      have hX : X = q * (k : Int) * (i : Int) := by
        obtain ⟨C, S, h1, h2⟩ := HX.out.1 HB.out
        rw [h2, equal_law hq1.1 hk1.1 (by omega) HN.out h1]
        push_cast
        rw [Int.mul_assoc]
      repeat' (first
        | ((with_reducible show wpList _ _ _ (⟨_, .call ⟨.value (.func 11), _, _⟩, _, _, _, _⟩ :: _) _ _); refine wpl_call (f := 11) Try.call11 (by kernel_rfl) ?_; refine ⟨_, (bested_any _), ?_⟩; rintro e w ⟨rfl, hE2⟩; replace hS := hS.ext hE2; clear hE2; refine ⟨_, rfl, ?_⟩; refine put_move ?_; go_step)
        | ((with_reducible show wpList _ _ _ (⟨some 44, .binOp .shl _ _ _ _, _, _, _, _⟩ :: _) _ _); first | (refine wplV (.int _ (((P : Nat) : Int))) (V.as (V.shl1 rfl rfl (by (repeat (first | exact IsN.auto | with_reducible apply IsN.add | with_reducible apply IsN.sub | with_reducible apply IsN.mul | with_reducible apply IsN.div | with_reducible apply IsN.mod | with_reducible apply IsN.min | with_reducible apply IsN.max | (with_reducible show (_ : Nat) ≤ _; omega) | exact IsN.toNat (by omega)))) (by omega)) (by exact HP.out)) rfl ?_; go_step) | (refine wplV (.int _ (((P : Nat) : Int))) (V.as (V.shlI rfl rfl (by (repeat (first | exact IsN.auto | with_reducible apply IsN.add | with_reducible apply IsN.sub | with_reducible apply IsN.mul | with_reducible apply IsN.div | with_reducible apply IsN.mod | with_reducible apply IsN.min | with_reducible apply IsN.max | (with_reducible show (_ : Nat) ≤ _; omega) | exact IsN.toNat (by omega)))) (by omega) (by omega)) (by exact HP.out)) rfl ?_; go_step) | (refine wplV (.int _ (((P : Nat) : Int))) (V.as (V.shl rfl rfl (by (repeat (first | exact IsN.auto | with_reducible apply IsN.add | with_reducible apply IsN.sub | with_reducible apply IsN.mul | with_reducible apply IsN.div | with_reducible apply IsN.mod | with_reducible apply IsN.min | with_reducible apply IsN.max | (with_reducible show (_ : Nat) ≤ _; omega) | exact IsN.toNat (by omega)))) (by omega) rfl) (by exact HP.out)) rfl ?_; go_step))
        | ((with_reducible show wpList _ _ _ (⟨some 45, .binOp .sub _ _ _ _, _, _, _, _⟩ :: _) _ _); first | (refine wplV (.int _ (((i : Nat) : Int))) (V.as (V.subI rfl rfl (by omega)) (by omega)) rfl ?_; go_step) | (refine wplV (.int _ (((i : Nat) : Int))) (V.as (V.subR (by decide) rfl rfl) (by omega)) rfl ?_; go_step))
        | go_skip
        | go_big_skip
        | ((with_reducible show wpList _ _ _ (⟨_, .move _, _, _, _, _⟩ :: _) _ _); (first | go_big_want | go_step); go_step)
        | ((with_reducible show wpList _ _ _ (⟨_, .assign _, _, _, _, _⟩ :: _) _ _); (first | go_big_want | go_step); go_step)
        | ((with_reducible show wpList _ _ _ (⟨_, .pick _ _ _, _, _, _, _⟩ :: _) _ _); first | (refine wplPickT rfl (by kernel_rfl) ?_; go_step) | (refine wplPickF rfl (by kernel_rfl) ?_; go_step))
        | ((with_reducible show wpList _ _ _ (⟨_, .binOp .mul _ _ _ _, _, _, _, _⟩ :: _) _ _); first | (refine wplV _ (V.mulI rfl rfl (by omega)) (by kernel_rfl) ?_; go_step) | (refine wplV _ (V.mulR (by decide) rfl rfl) (by kernel_rfl) ?_; go_step))
        | ((with_reducible show wpList _ _ _ (⟨_, .binOp .shl _ _ _ _, _, _, _, _⟩ :: _) _ _); first | (refine wplV _ (V.shl1 rfl rfl (by (repeat (first | exact IsN.auto | with_reducible apply IsN.add | with_reducible apply IsN.sub | with_reducible apply IsN.mul | with_reducible apply IsN.div | with_reducible apply IsN.mod | with_reducible apply IsN.min | with_reducible apply IsN.max | (with_reducible show (_ : Nat) ≤ _; omega) | exact IsN.toNat (by omega)))) (by omega)) (by kernel_rfl) ?_; go_step) | (refine wplV _ (V.shlI rfl rfl (by (repeat (first | exact IsN.auto | with_reducible apply IsN.add | with_reducible apply IsN.sub | with_reducible apply IsN.mul | with_reducible apply IsN.div | with_reducible apply IsN.mod | with_reducible apply IsN.min | with_reducible apply IsN.max | (with_reducible show (_ : Nat) ≤ _; omega) | exact IsN.toNat (by omega)))) (by omega) (by omega)) (by kernel_rfl) ?_; go_step) | (refine wplV _ (V.shl rfl rfl (by (repeat (first | exact IsN.auto | with_reducible apply IsN.add | with_reducible apply IsN.sub | with_reducible apply IsN.mul | with_reducible apply IsN.div | with_reducible apply IsN.mod | with_reducible apply IsN.min | with_reducible apply IsN.max | (with_reducible show (_ : Nat) ≤ _; omega) | exact IsN.toNat (by omega)))) (by omega) rfl) (by kernel_rfl) ?_; go_step))
        | ((with_reducible show wpList _ _ _ (⟨_, .binOp .sub _ _ _ _, _, _, _, _⟩ :: _) _ _); first | (refine wplV _ (V.subI rfl rfl (by omega)) (by kernel_rfl) ?_; go_step) | (refine wplV _ (V.subR (by decide) rfl rfl) (by kernel_rfl) ?_; go_step))
        | ((with_reducible show wpList _ _ _ (⟨_, .binOp .eql 3 _ _ _, _, _, _, _⟩ :: _) _ _); first | (refine wplV _ (V.eql rfl rfl) (by kernel_rfl) ?_; go_step))
        | ((fail_if_success (with_reducible show wpList _ _ _ (_ :: _) _ _)); go_step))
      all_goals (go_ret; exact ⟨ret_bool (decide_eq_true (by omega)), hS.1⟩)
end Go.Proofs.Ytembekkanggciaa
