/- The law BestFlat: its walk, and the statement. -/
import Derived.Test.YtembekkanggciaaBestGood
import Derived.Test.YtembekkanggciaaOpen
import Derived.Test.YtembekkanggciaaOpenTab
import Derived.Test.YtembekkanggciaaUpto
namespace Go.Proofs.Ytembekkanggciaa
open Go.ChangeShapes Go.WideShapes Go.ChangeAt Go.RowKit
set_option linter.unusedVariables false
/-- How much comes in all, up to n. -/
def allK (c : List Int) (n : Nat) : Int := isum (fun s : Nat => nth c s) (List.range n)
theorem allK_succ (c : List Int) (n : Nat) : allK c (n + 1) = allK c n + nth c n := by
  unfold allK; rw [List.range_succ, isum_append]; simp [isum]
theorem posL_succ (c : List Int) (n : Nat) : (posL c (n + 1)).length = (posL c n).length + if 0 < nth c n then 1 else 0 := by
  unfold posL
  rw [List.range_succ, List.filter_append, List.map_append, List.length_append]
  by_cases h : 0 < nth c n
  · rw [if_pos h]; simp [h]
  · rw [if_neg h]; simp [h]
theorem posL_le (c : List Int) (n : Nat) : (posL c n).length ≤ n := by
  induction n with
  | zero => simp [posL]
  | succ n ih => rw [posL_succ]; split <;> omega
theorem allK_bd {c : List Int} {n : Nat} (h : ∀ i, i < n → 0 ≤ nth c i ∧ nth c i ≤ 9999) : 0 ≤ allK c n ∧ allK c n ≤ n * 9999 := by
  induction n with
  | zero => simp [allK, isum]
  | succ n ih =>
    rw [allK_succ]
    have h1 := h n (by omega)
    have h2 := ih fun i hi => h i (by omega)
    omega
theorem costL_one {c : List Int} {n : Nat} {l : Int → Nat} (h : ∀ i, i < n → 0 ≤ nth c i) (hl : ∀ s ∈ posL c n, 1 ≤ l s) : allK c n ≤ costL c n l := by
  unfold allK costL
  refine isum_le _ _ _ fun s hs => ?_
  have hs := List.mem_range.1 hs
  by_cases hp : 0 < nth c s
  · have := hl s ((posL_mem c n s).2 ⟨by omega, by omega, by simpa using hp⟩)
    have h2 : nth c s * 1 ≤ nth c s * ((l (s : Int) : Nat) : Int) := Int.mul_le_mul_of_nonneg_left (by omega) (by omega)
    omega
  · have : nth c s = 0 := by have := h s hs; omega
    rw [this]; simp
theorem costL_flat (c : List Int) (n w : Nat) : costL c n (fun _ => w) = allK c n * w := by
  induction n with
  | zero => simp [costL, allK, isum]
  | succ n ih =>
    have e : costL c (n + 1) (fun _ => w) = costL c n (fun _ => w) + nth c n * (w : Nat) := by
      unfold costL; rw [List.range_succ, isum_append]; simp [isum]
    rw [e, ih, allK_succ, Int.add_mul]
theorem lens_flat {c : List Int} {n w : Nat} (h0 : (posL c n).length + 1 ≤ 2 ^ w) (h1 : w ≤ 16) (hw : 1 ≤ w) : LenOk c n (fun _ => w) := by
  refine ⟨fun s _ => ⟨hw, h1⟩, ?_⟩
  have e : nsum (fun _ : Int => 2 ^ (16 - w)) (posL c n) = (posL c n).length * 2 ^ (16 - w) := by
    have := nsum_mul (fun _ : Int => 1) (2 ^ (16 - w)) (posL c n)
    simp only [Nat.one_mul] at this
    rw [this, nsum_const]
  rw [e]
  have h2 : ((posL c n).length + 1) * 2 ^ (16 - w) ≤ 2 ^ w * 2 ^ (16 - w) := Nat.mul_le_mul_right _ h0
  rw [← Nat.pow_add, show w + (16 - w) = 16 by omega, Nat.add_mul] at h2
  have := Nat.two_pow_pos (16 - w)
  omega
theorem flat_law {c C S : List Int} {n w : Nat} (h : Mk c n C S) (hc : ∀ i, i < n → 0 ≤ nth c i ∧ nth c i ≤ 9999) (h0 : (posL c n).length + 1 ≤ 2 ^ w) (h1 : w ≤ 16) :
    allK c n ≤ costL c n (lw (wds C S)) ∧ costL c n (lw (wds C S)) ≤ allK c n * w := by
  refine ⟨costL_one (fun i hi => (hc i hi).1) fun s hs => (h.lens.top s hs).1, ?_⟩
  by_cases hw : 1 ≤ w
  · rw [← costL_flat]
    exact h.best _ (lens_flat h0 h1 hw)
  · obtain rfl : w = 0 := by omega
    have hp : posL c n = [] := List.eq_nil_of_length_eq_zero (by simp at h0; rw [h0]; rfl)
    have h2 := h.best (fun _ => 0) ⟨(fun s hs => absurd hs (by rw [hp]; simp)), (by rw [hp]; decide)⟩
    rw [costL_flat] at h2
    exact h2
set_option maxRecDepth 100000 in
set_option maxHeartbeats 8000000 in
theorem BestFlat_walk {H : Type} {enc : TypeId × Value → H} {d0 : DataW H} {p0 : List MemPlace} {v0 : Value} {base : Nat} (W : World)
    (o0 : Value.okWide Try.prog W .any base 23 v0) (h0 : DataW.Trod enc Try.prog W 0 (fun _ => true) true 23 v0 d0 p0) (lt0 : ∀ x ∈ p0, x.block < W.heap.size)
    :
    Calls Try.prog 7 #[v0] W fun e w' => e = .returned (.bool true) ∧ Ext W w' := by
  obtain ⟨m, l, ad2, c2, hl, rfl, hnc2, hcm2, hv2, hlt, hbk⟩ := op_ints o0 h0
  clear o0 h0 lt0
  have hmm : m ≤ 9223372036854775807 := by omega
  clear hlt hbk hnc2 hcm2
  have hS := St.start W
  by_cases hb : bE l = 0
  case neg =>
    have HB := hid hb
    obtain ⟨B, hB⟩ : ∃ B, bE l = B := ⟨_, rfl⟩
    have HB2 := hid hB
    rw [hB] at hb
    clear hl hB
    go_enter Try.func7, Try.ntmps7
    repeat' (first
      | ((with_reducible show wpList _ _ _ (⟨_, .call ⟨.value (.func 11), _, _⟩, _, _, _, _⟩ :: _) _ _); refine wpl_call (f := 11) Try.call11 (by kernel_rfl) ?_; refine ⟨_, (bested_any _), ?_⟩; rintro e w ⟨rfl, hE2⟩; replace hS := hS.ext hE2; clear hE2; refine ⟨_, rfl, ?_⟩; refine put_move ?_; go_step)
      | ((with_reducible show wpList _ _ _ (⟨some 16, _, _, _, _, _⟩ :: _) _ _); refine wpl_call (f := 13) Try.call13 (by kernel_rfl) ?_; refine ⟨_, (make_bad _ l _ m c2 (hv2.ext hS.1) hmm HB.out), ?_⟩; rintro e w ⟨rfl, hE2⟩; have hLen := zero_len; rw [HB2.out]; replace hS := hS.ext hE2; clear hE2; refine ⟨_, rfl, ?_⟩; refine put_move ?_; go_step)
      | go_skip
      | go_big_skip
      | ((with_reducible show wpList _ _ _ (⟨_, .move _, _, _, _, _⟩ :: _) _ _); (first | go_big_want | go_step); go_step)
      | ((with_reducible show wpList _ _ _ (⟨_, .assign _, _, _, _, _⟩ :: _) _ _); (first | go_big_want | go_step); go_step)
      | ((with_reducible show wpList _ _ _ (⟨_, .pick _ _ _, _, _, _, _⟩ :: _) _ _); first | (refine wplPickT rfl (by kernel_rfl) ?_; go_step) | (refine wplPickF rfl (by kernel_rfl) ?_; go_step))
      | ((with_reducible show wpList _ _ _ (⟨_, .unOp .not _ _, _, _, _, _⟩ :: _) _ _); first | (refine wplV _ (V.notD rfl) (by kernel_rfl) ?_; go_step) | (refine wplV _ (V.not rfl) (by kernel_rfl) ?_; go_step))
      | ((with_reducible show wpList _ _ _ (⟨_, .extract _ _, _, _, _, _⟩ :: _) _ _); first | (refine wplV _ (V.extract rfl rfl) (by kernel_rfl) ?_; go_step))
      | ((with_reducible show wpList _ _ _ (⟨_, .binOp .neq 27 _ _ _, _, _, _, _⟩ :: _) _ _); first | (refine wplV _ (V.neq rfl rfl) (by kernel_rfl) ?_; go_step))
      | ((with_reducible show wpList _ _ _ (⟨some 3, .alloc 25, _, _, _, _⟩ :: _) _ _); first | (refine wpl (by kernel_rfl) ?_; apply wp_allocP (o := ⟨some 3, _, _, _, _, _⟩) hS 25 rfl _ zp25; clear hS; intro g3 w hS; refine put_move ?_; go_step))
      | ((with_reducible show wpList _ _ _ (⟨_, .store 25 _ _, _, _, _, _⟩ :: _) _ _); first | (refine wpl (by kernel_rfl) ?_; apply wp_storePP hS 25 _ _ rfl _ rfl 17 (row_of rfl) _ _; (case hp => (repeat (first | with_reducible exact Pull.head | apply Pull.tail))); (case hy => rfl); (case hn => (repeat (first | exact Pre.nil | (apply Pre.ints; (case hn => (first | (with_reducible assumption) | exact Len.rep | exact Len.set (by with_reducible assumption) | exact Len.set Len.rep | exact Len.set (Len.set Len.rep))); (case h => omega); (case hm => rfl)) | apply Pre.val))); (case hn' => (repeat (first | exact Pre.nil | (apply Pre.ints; (case hn => (first | (with_reducible assumption) | exact Len.rep | exact Len.set (by with_reducible assumption) | exact Len.set Len.rep | exact Len.set (Len.set Len.rep))); (case h => omega); (case hm => rfl)) | apply Pre.val))); (case hv => rfl); (case hd => exact rfl); clear hS; intro w hS) | (refine wpl (by kernel_rfl) ?_; apply wp_storeA hS 25 _ _ rfl _ rfl 17 (row_of rfl) _ _; (case hp => (repeat (first | with_reducible exact Pull.head | apply Pull.tail))); (case hy => rfl); (case hm => (repeat (first | assumption | exact Len.rep | apply Len.set | ((with_reducible show Len (_ :: _) _); exact rfl)))); (case hd => exact rfl); clear hS; intro w hS) | (refine wpl (by kernel_rfl) ?_; apply wp_storeG hS 25 _ _ rfl _ rfl 17 (row_of rfl) _ _; (case hp => (repeat (first | with_reducible exact Pull.head | apply Pull.tail))); (case hy => rfl); (case hn => rfl); (case hn' => rfl); (case hv => rfl); (case hd => exact rfl); clear hS; intro w hS))
      | ((fail_if_success (with_reducible show wpList _ _ _ (_ :: _) _ _)); go_step))
    all_goals (go_ret; exact ⟨rfl, hS.1⟩)
  have HB := hid hb
  have HL := hid hl
  have h256 := (bE_ok hb).1
  rw [hl] at h256
  have HC := hid (bE_ok hb).2
  rw [hl] at HC
  clear hb hl
  go_enter Try.func7, Try.ntmps7
  repeat' (first
    | ((with_reducible show wpList _ _ _ (⟨_, .call ⟨.value (.func 11), _, _⟩, _, _, _, _⟩ :: _) _ _); refine wpl_call (f := 11) Try.call11 (by kernel_rfl) ?_; refine ⟨_, (bested_any _), ?_⟩; rintro e w ⟨rfl, hE2⟩; replace hS := hS.ext hE2; clear hE2; refine ⟨_, rfl, ?_⟩; refine put_move ?_; go_step)
    | ((with_reducible show wpList _ _ _ (⟨some 16, _, _, _, _, _⟩ :: _) _ _); refine wpl_call (f := 13) Try.call13 (by kernel_rfl) ?_; refine ⟨_, (make_good _ l _ m c2 (hv2.ext hS.1) hmm HB.out), ?_⟩; rintro e w ⟨C, S, ao, co, hM, rfl, hS2⟩; have hLen := hM.len; have HM := hid hM; replace hS := hS.call1 hS2; clear hS2 hM; refine ⟨_, rfl, ?_⟩; refine put_move ?_; go_step)
    | go_skip
    | go_big_skip
    | ((with_reducible show wpList _ _ _ (⟨_, .move _, _, _, _, _⟩ :: _) _ _); (first | go_big_want | go_step); go_step)
    | ((with_reducible show wpList _ _ _ (⟨_, .assign _, _, _, _, _⟩ :: _) _ _); (first | go_big_want | go_step); go_step)
    | ((with_reducible show wpList _ _ _ (⟨_, .pick _ _ _, _, _, _, _⟩ :: _) _ _); first | (refine wplPickT rfl (by kernel_rfl) ?_; go_step) | (refine wplPickF rfl (by kernel_rfl) ?_; go_step))
    | ((with_reducible show wpList _ _ _ (⟨_, .unOp .not _ _, _, _, _, _⟩ :: _) _ _); first | (refine wplV _ (V.notD rfl) (by kernel_rfl) ?_; go_step) | (refine wplV _ (V.not rfl) (by kernel_rfl) ?_; go_step))
    | ((with_reducible show wpList _ _ _ (⟨_, .extract _ _, _, _, _, _⟩ :: _) _ _); first | (refine wplV _ (V.extract rfl rfl) (by kernel_rfl) ?_; go_step))
    | ((with_reducible show wpList _ _ _ (⟨_, .binOp .neq 27 _ _ _, _, _, _, _⟩ :: _) _ _); first | (refine wplV _ (V.neq rfl rfl) (by kernel_rfl) ?_; go_step))
    | ((with_reducible show wpList _ _ _ (⟨some 3, .alloc 25, _, _, _, _⟩ :: _) _ _); first | (refine wpl (by kernel_rfl) ?_; apply wp_allocP (o := ⟨some 3, _, _, _, _, _⟩) hS 25 rfl _ zp25; clear hS; intro g3 w hS; refine put_move ?_; go_step))
    | ((with_reducible show wpList _ _ _ (⟨_, .store 25 _ _, _, _, _, _⟩ :: _) _ _); first | (refine wpl (by kernel_rfl) ?_; apply wp_storePP hS 25 _ _ rfl _ rfl 17 (row_of rfl) _ _; (case hp => (repeat (first | with_reducible exact Pull.head | apply Pull.tail))); (case hy => rfl); (case hn => (repeat (first | exact Pre.nil | (apply Pre.ints; (case hn => (first | (with_reducible assumption) | exact Len.rep | exact Len.set (by with_reducible assumption) | exact Len.set Len.rep | exact Len.set (Len.set Len.rep))); (case h => omega); (case hm => rfl)) | apply Pre.val))); (case hn' => (repeat (first | exact Pre.nil | (apply Pre.ints; (case hn => (first | (with_reducible assumption) | exact Len.rep | exact Len.set (by with_reducible assumption) | exact Len.set Len.rep | exact Len.set (Len.set Len.rep))); (case h => omega); (case hm => rfl)) | apply Pre.val))); (case hv => rfl); (case hd => exact rfl); clear hS; intro w hS) | (refine wpl (by kernel_rfl) ?_; apply wp_storeA hS 25 _ _ rfl _ rfl 17 (row_of rfl) _ _; (case hp => (repeat (first | with_reducible exact Pull.head | apply Pull.tail))); (case hy => rfl); (case hm => (repeat (first | assumption | exact Len.rep | apply Len.set | ((with_reducible show Len (_ :: _) _); exact rfl)))); (case hd => exact rfl); clear hS; intro w hS) | (refine wpl (by kernel_rfl) ?_; apply wp_storeG hS 25 _ _ rfl _ rfl 17 (row_of rfl) _ _; (case hp => (repeat (first | with_reducible exact Pull.head | apply Pull.tail))); (case hy => rfl); (case hn => rfl); (case hn' => rfl); (case hv => rfl); (case hd => exact rfl); clear hS; intro w hS))
    | ((fail_if_success (with_reducible show wpList _ _ _ (_ :: _) _ _)); go_step))
  have HCS := hid (cost_made HM.out HL.out HB.out)
  have hn5 : S.length ≤ 256 := (tabE_ok HM.out.ok).2.2.1
  have hsl := HM.out.slen
  have HFL := hid (fun w h0 h1 => flat_law (w := w) HM.out HC.out h0 h1)
  obtain ⟨n2, hn2⟩ : ∃ n, S.length = n := ⟨_, rfl⟩
  have HSl := hid hn2
  rw [hn2] at hS hn5 hsl
  try rw [hn2]
  have HSL := hid hsl
  obtain ⟨X, hX⟩ : ∃ X, costL l m (lw (wds C S)) = X := ⟨_, rfl⟩
  rw [hX] at HCS HFL
  clear hn2 hX hsl
  repeat' (first
    | go_skip
    | go_big_skip
    | ((with_reducible show wpList _ _ _ (⟨_, .move _, _, _, _, _⟩ :: _) _ _); (first | go_big_want | go_step); go_step)
    | ((with_reducible show wpList _ _ _ (⟨_, .assign _, _, _, _, _⟩ :: _) _ _); (first | go_big_want | go_step); go_step)
    | ((with_reducible show wpList _ _ _ (⟨_, .pick _ _ _, _, _, _, _⟩ :: _) _ _); first | (refine wplPickT rfl (by kernel_rfl) ?_; go_step) | (refine wplPickF rfl (by kernel_rfl) ?_; go_step))
    | ((with_reducible show wpList _ _ _ (⟨_, .call ⟨.builtin .len, _, _⟩, _, _, _, _⟩ :: _) _ _); first | (refine wplV _ (V.len Try.underlying23 rfl) (by kernel_rfl) ?_; go_step))
    | ((fail_if_success (with_reducible show wpList _ _ _ (_ :: _) _ _)); go_step))
  go_loopg [5, 6, 23] m (fun gk av kn kv w => ∃ (i : Nat) (A : Int) (K : Nat), gk + i = m ∧ kv = .int .i64 i ∧ av = .int .i64 A ∧ kn = .int .i64 K ∧ Hid (A = allK l i) ∧ Hid (K = (posL l i).length) ∧ St W w [own 3 1 ao n2 co (S.map (Value.int .i64)), prt g3 [.ints C, .val (.slice ao n2 co)]])
  case atStart => exact ⟨0, 0, 0, rfl, rfl, rfl, rfl, hid rfl, hid rfl, hS.sub (by (repeat (first | exact Sub.nil | with_reducible exact Sub.refl | (apply Sub.cons; (case p => (repeat (first | with_reducible exact Pull.head | apply Pull.tail)))) | apply Sub.skip)))⟩
  case round =>
    clear hS
    obtain ⟨i, A, K, hi, rfl, rfl, rfl, HA, HK, hS⟩ := hrel
    by_cases hlt : i < m
    · have hci := HC.out i hlt
      have hbd := allK_bd (n := i) (fun j hj => HC.out j (by omega))
      have hkb := posL_le l i
      rw [← HA.out] at hbd
      rw [← HK.out] at hkb
      have H1 := hid (allK_succ l i)
      have H2 := hid (posL_succ l i)
      obtain ⟨x, hx⟩ : ∃ x, nth l i = x := ⟨_, rfl⟩
      have HX := hid hx
      rw [hx] at hci H1 H2
      clear hx
      repeat' (first
        | go_skip
        | go_big_skip
        | ((with_reducible show wpList _ _ _ (⟨_, .move _, _, _, _, _⟩ :: _) _ _); (first | go_big_want | go_step); go_step)
        | ((with_reducible show wpList _ _ _ (⟨_, .assign _, _, _, _, _⟩ :: _) _ _); (first | go_big_want | go_step); go_step)
        | ((with_reducible show wpList _ _ _ (⟨_, .pick _ _ _, _, _, _, _⟩ :: _) _ _); first | (refine wplPickT rfl (by kernel_rfl) ?_; go_step) | (refine wplPickF rfl (by kernel_rfl) ?_; go_step))
        | ((with_reducible show wpList _ _ _ (⟨_, .binOp .lss _ _ _ _, _, _, _, _⟩ :: _) _ _); first | (refine wplV _ (V.lss rfl rfl) (by kernel_rfl) ?_; go_step))
        | ((with_reducible show wpList _ _ _ (⟨some 25, .indexAddr 23 _ _, _, _, _, _⟩ :: _) _ _); first | (refine wplV _ (V.indexSl Try.underlying23 isz3 rfl rfl (by (repeat (first | exact IsN.auto | with_reducible apply IsN.add | with_reducible apply IsN.sub | with_reducible apply IsN.mul | with_reducible apply IsN.div | with_reducible apply IsN.mod | with_reducible apply IsN.min | with_reducible apply IsN.max | (with_reducible show (_ : Nat) ≤ _; omega) | exact IsN.toNat (by omega)))) (by omega) (Nat.mul_one _) (by first | with_reducible exact Nat.zero_add _ | with_reducible exact Nat.add_zero _ | exact rfl)) (by kernel_rfl) ?_; go_step) | (refine wpl_indexI (by with_reducible assumption) Try.underlying23 isz3 rfl rfl (by (repeat (first | exact IsN.auto | with_reducible apply IsN.add | with_reducible apply IsN.sub | with_reducible apply IsN.mul | with_reducible apply IsN.div | with_reducible apply IsN.mod | with_reducible apply IsN.min | with_reducible apply IsN.max | (with_reducible show (_ : Nat) ≤ _; omega) | exact IsN.toNat (by omega)))) (by omega) rfl ?_; intro b25 o25 hc25; go_step) | (refine wpl_indexW (by with_reducible assumption) Try.underlying23 isz3 rfl rfl (by (repeat (first | exact IsN.auto | with_reducible apply IsN.add | with_reducible apply IsN.sub | with_reducible apply IsN.mul | with_reducible apply IsN.div | with_reducible apply IsN.mod | with_reducible apply IsN.min | with_reducible apply IsN.max | (with_reducible show (_ : Nat) ≤ _; omega) | exact IsN.toNat (by omega)))) (by omega) rfl ?_; intro b25 o25 hc25; go_step) | (refine wpl_indexO hS rfl (by (repeat (first | with_reducible exact Pull.head | apply Pull.tail))) Try.underlying23 isz3 rfl (by (repeat (first | exact IsN.auto | with_reducible apply IsN.add | with_reducible apply IsN.sub | with_reducible apply IsN.mul | with_reducible apply IsN.div | with_reducible apply IsN.mod | with_reducible apply IsN.min | with_reducible apply IsN.max | (with_reducible show (_ : Nat) ≤ _; omega) | exact IsN.toNat (by omega)))) (by omega) (Nat.mul_one _) rfl ?_; (first | (rintro b25 rfl) | (intro b25 hb25; cases hb25)); go_step))
        | ((with_reducible show wpList _ _ _ (⟨_, .load 3 _, _, _, _, _⟩ :: _) _ _); first | (refine wpl (by kernel_rfl) ?_; apply wp_load1A hS 3 _ rfl _ _ rfl (one_of rfl) _ _; (case hp => (repeat (first | with_reducible exact Pull.head | apply Pull.tail))); (case hi => omega); refine put_move ?_; go_step) | (refine wpl (by kernel_rfl) ?_; apply wp_load1OI hS 3 _ rfl _ _ rfl (one_of rfl) _ _ _ _ _; (case hp => (repeat (first | with_reducible exact Pull.head | apply Pull.tail))); (case hi => omega); refine put_move ?_; go_step) | (refine wpl (by kernel_rfl) ?_; apply wp_load1 hS 3 _ rfl _ _ rfl (one_of rfl) _; (case hp => (repeat (first | with_reducible exact Pull.head | apply Pull.tail))); (case hc => rfl); refine put_move ?_; go_step) | (refine wpl (by kernel_rfl) ?_; apply wp_load1O hS 3 _ rfl _ _ rfl (one_of rfl) _ _ _ _ _; (case hp => (repeat (first | with_reducible exact Pull.head | apply Pull.tail))); (case hv => with_reducible assumption); refine put_move ?_; go_step) | (refine wpl (by kernel_rfl) ?_; apply wp_loadW hS 3 _ rfl _ rfl (one_of rfl) _; (case hc => with_reducible assumption); refine put_move ?_; go_step) | (refine wpl (by kernel_rfl) ?_; apply wp_load1R hS 3 _ rfl _ _ _ rfl (one_of rfl) _ _; (case hl => with_reducible assumption); (case hr => with_reducible assumption); (case hf => omega); refine put_move ?_; go_step) | (refine wpl (by kernel_rfl) ?_; apply wp_load1R0 hS 3 _ rfl _ _ rfl (one_of rfl) _ _; (case hl => with_reducible assumption); (case hr => with_reducible assumption); (case hf => omega); refine put_move ?_; go_step) | (refine wpl (by kernel_rfl) ?_; apply wp_load1PE hS 3 _ rfl _ _ rfl (one_of rfl) _; (case hp => (repeat (first | with_reducible exact Pull.head | apply Pull.tail))); (case hi => (repeat (first | (apply AtI.head; (case hn => (first | (with_reducible assumption) | exact Len.rep | exact Len.set (by with_reducible assumption) | exact Len.set Len.rep | exact Len.set (Len.set Len.rep))); (case h => omega)) | (apply AtI.skipI; (case hn => (first | (with_reducible assumption) | exact Len.rep | exact Len.set (by with_reducible assumption) | exact Len.set Len.rep | exact Len.set (Len.set Len.rep))); (case h => omega); (case ho => rfl)) | apply AtI.skipV))); (case hz => with_reducible assumption); refine put_move ?_; go_step) | (refine wpl (by kernel_rfl) ?_; apply wp_load1P hS 3 _ rfl _ _ rfl (one_of rfl) _; (case hp => (repeat (first | with_reducible exact Pull.head | apply Pull.tail))); (case hi => (repeat (first | (apply AtI.head; (case hn => (first | (with_reducible assumption) | exact Len.rep | exact Len.set (by with_reducible assumption) | exact Len.set Len.rep | exact Len.set (Len.set Len.rep))); (case h => omega)) | (apply AtI.skipI; (case hn => (first | (with_reducible assumption) | exact Len.rep | exact Len.set (by with_reducible assumption) | exact Len.set Len.rep | exact Len.set (Len.set Len.rep))); (case h => omega); (case ho => rfl)) | apply AtI.skipV))); refine put_move ?_; go_step) | (refine wpl (by kernel_rfl) ?_; apply wp_loadVP hS 3 _ rfl _ _ rfl (one_of rfl) _; (case hp => (repeat (first | with_reducible exact Pull.head | apply Pull.tail))); (case hi => (repeat (first | exact AtV.head | (apply AtV.skipI; (case hn => (first | (with_reducible assumption) | exact Len.rep | exact Len.set (by with_reducible assumption) | exact Len.set Len.rep | exact Len.set (Len.set Len.rep))); (case h => omega); (case ho => rfl)) | apply AtV.skipV))); refine put_move ?_; go_step))
        | ((fail_if_success (with_reducible show wpList _ _ _ (_ :: _) _ _)); go_step))
      rw [HX.out]
      by_cases hx0 : 0 < x
      · skip
        repeat' (first
          | go_skip
          | go_big_skip
          | ((with_reducible show wpList _ _ _ (⟨_, .move _, _, _, _, _⟩ :: _) _ _); (first | go_big_want | go_step); go_step)
          | ((with_reducible show wpList _ _ _ (⟨_, .assign _, _, _, _, _⟩ :: _) _ _); (first | go_big_want | go_step); go_step)
          | ((with_reducible show wpList _ _ _ (⟨_, .pick _ _ _, _, _, _, _⟩ :: _) _ _); first | (refine wplPickT rfl (by kernel_rfl) ?_; go_step) | (refine wplPickF rfl (by kernel_rfl) ?_; go_step))
          | ((with_reducible show wpList _ _ _ (⟨_, .binOp .add _ _ _ _, _, _, _, _⟩ :: _) _ _); first | (refine wplV _ (V.addI rfl rfl (by omega)) (by kernel_rfl) ?_; go_step) | (refine wplV _ (V.addR (by decide) rfl rfl) (by kernel_rfl) ?_; go_step))
          | ((with_reducible show wpList _ _ _ (⟨_, .binOp .gtr _ _ _ _, _, _, _, _⟩ :: _) _ _); first | (refine wplV _ (V.gtr rfl rfl) (by kernel_rfl) ?_; go_step))
          | ((fail_if_success (with_reducible show wpList _ _ _ (_ :: _) _ _)); go_step))
        go_roundg (gk - 1)
        case measure => omega
        case rel =>
          refine ⟨i + 1, A + x, K + 1, by omega, by go_num, rfl, by go_num, hid (by rw [H1.out, HA.out]), hid (by rw [H2.out, HK.out, if_pos hx0]), hS.sub (by (repeat (first | exact Sub.nil | with_reducible exact Sub.refl | (apply Sub.cons; (case p => (repeat (first | with_reducible exact Pull.head | apply Pull.tail)))) | apply Sub.skip)))⟩
      · skip
        repeat' (first
          | go_skip
          | go_big_skip
          | ((with_reducible show wpList _ _ _ (⟨_, .move _, _, _, _, _⟩ :: _) _ _); (first | go_big_want | go_step); go_step)
          | ((with_reducible show wpList _ _ _ (⟨_, .assign _, _, _, _, _⟩ :: _) _ _); (first | go_big_want | go_step); go_step)
          | ((with_reducible show wpList _ _ _ (⟨_, .pick _ _ _, _, _, _, _⟩ :: _) _ _); first | (refine wplPickT rfl (by kernel_rfl) ?_; go_step) | (refine wplPickF rfl (by kernel_rfl) ?_; go_step))
          | ((with_reducible show wpList _ _ _ (⟨_, .binOp .add _ _ _ _, _, _, _, _⟩ :: _) _ _); first | (refine wplV _ (V.addI rfl rfl (by omega)) (by kernel_rfl) ?_; go_step) | (refine wplV _ (V.addR (by decide) rfl rfl) (by kernel_rfl) ?_; go_step))
          | ((with_reducible show wpList _ _ _ (⟨_, .binOp .gtr _ _ _ _, _, _, _, _⟩ :: _) _ _); first | (refine wplV _ (V.gtr rfl rfl) (by kernel_rfl) ?_; go_step))
          | ((fail_if_success (with_reducible show wpList _ _ _ (_ :: _) _ _)); go_step))
        go_roundg (gk - 1)
        case measure => omega
        case rel =>
          refine ⟨i + 1, A + x, K, by omega, by go_num, rfl, rfl, hid (by rw [H1.out, HA.out]), hid (by rw [H2.out, HK.out, if_neg hx0, Nat.add_zero]), hS.sub (by (repeat (first | exact Sub.nil | with_reducible exact Sub.refl | (apply Sub.cons; (case p => (repeat (first | with_reducible exact Pull.head | apply Pull.tail)))) | apply Sub.skip)))⟩
    · obtain rfl : i = m := by omega
      have hbd := allK_bd HC.out
      rw [← HA.out] at hbd
      rw [← HA.out, ← HK.out] at HFL
      rw [← HK.out] at HSL
      obtain rfl : n2 = K := HSL.out
      repeat' (first
        | go_skip
        | go_big_skip
        | ((with_reducible show wpList _ _ _ (⟨_, .move _, _, _, _, _⟩ :: _) _ _); (first | go_big_want | go_step); go_step)
        | ((with_reducible show wpList _ _ _ (⟨_, .assign _, _, _, _, _⟩ :: _) _ _); (first | go_big_want | go_step); go_step)
        | ((with_reducible show wpList _ _ _ (⟨_, .pick _ _ _, _, _, _, _⟩ :: _) _ _); first | (refine wplPickT rfl (by kernel_rfl) ?_; go_step) | (refine wplPickF rfl (by kernel_rfl) ?_; go_step))
        | ((with_reducible show wpList _ _ _ (⟨_, .binOp .lss _ _ _ _, _, _, _, _⟩ :: _) _ _); first | (refine wplV _ (V.lss rfl rfl) (by kernel_rfl) ?_; go_step))
        | ((fail_if_success (with_reducible show wpList _ _ _ (_ :: _) _ _)); go_step))
      repeat' (first
        | go_skip
        | go_big_skip
        | ((with_reducible show wpList _ _ _ (⟨_, .move _, _, _, _, _⟩ :: _) _ _); (first | go_big_want | go_step); go_step)
        | ((with_reducible show wpList _ _ _ (⟨_, .assign _, _, _, _, _⟩ :: _) _ _); (first | go_big_want | go_step); go_step)
        | ((with_reducible show wpList _ _ _ (⟨_, .pick _ _ _, _, _, _, _⟩ :: _) _ _); first | (refine wplPickT rfl (by kernel_rfl) ?_; go_step) | (refine wplPickF rfl (by kernel_rfl) ?_; go_step))
        | ((fail_if_success (with_reducible show wpList _ _ _ (_ :: _) _ _)); go_step))
      go_loopg [9] 17 (fun gk wv w => ∃ (v : Nat), gk + v = 17 ∧ wv = .int .i64 v ∧ v ≤ 9 ∧ Hid (v = 0 ∨ 2 ^ (v - 1) ≤ n2) ∧ St W w [own 3 1 ao n2 co (S.map (Value.int .i64)), prt g3 [.ints C, .val (.slice ao n2 co)]])
      case atStart => exact ⟨0, rfl, rfl, by omega, hid (.inl rfl), hS⟩
      case round =>
        clear hS
        obtain ⟨v, hv, rfl, hv9, HV, hS⟩ := hrel
        obtain ⟨P, hP⟩ : ∃ P, 2 ^ v = P := ⟨_, rfl⟩
        have HP : Hid ((2 : Int) ^ v = ((P : Nat) : Int)) := hid (by rw [← hP]; push_cast; rfl)
        have hP2 : P ≤ 512 := by rw [← hP]; exact Nat.pow_le_pow_right (n := 2) (j := 9) (by omega) hv9
        have HP2 := hid hP
        clear hP
        by_cases hlt2 : P < n2 + 1
        · have hv8 : v ≤ 8 := by
            by_cases h : v = 9
            · have := HP2.out; rw [h] at this; omega
            · omega
          repeat' (first
            | ((with_reducible show wpList _ _ _ (⟨some 36, .binOp .shl _ _ _ _, _, _, _, _⟩ :: _) _ _); first | (refine wplV (.int _ (((P : Nat) : Int))) (V.as (V.shl1 rfl rfl (by (repeat (first | exact IsN.auto | with_reducible apply IsN.add | with_reducible apply IsN.sub | with_reducible apply IsN.mul | with_reducible apply IsN.div | with_reducible apply IsN.mod | with_reducible apply IsN.min | with_reducible apply IsN.max | (with_reducible show (_ : Nat) ≤ _; omega) | exact IsN.toNat (by omega)))) (by omega)) (by exact HP.out)) rfl ?_; go_step) | (refine wplV (.int _ (((P : Nat) : Int))) (V.as (V.shlI rfl rfl (by (repeat (first | exact IsN.auto | with_reducible apply IsN.add | with_reducible apply IsN.sub | with_reducible apply IsN.mul | with_reducible apply IsN.div | with_reducible apply IsN.mod | with_reducible apply IsN.min | with_reducible apply IsN.max | (with_reducible show (_ : Nat) ≤ _; omega) | exact IsN.toNat (by omega)))) (by omega) (by omega)) (by exact HP.out)) rfl ?_; go_step) | (refine wplV (.int _ (((P : Nat) : Int))) (V.as (V.shl rfl rfl (by (repeat (first | exact IsN.auto | with_reducible apply IsN.add | with_reducible apply IsN.sub | with_reducible apply IsN.mul | with_reducible apply IsN.div | with_reducible apply IsN.mod | with_reducible apply IsN.min | with_reducible apply IsN.max | (with_reducible show (_ : Nat) ≤ _; omega) | exact IsN.toNat (by omega)))) (by omega) rfl) (by exact HP.out)) rfl ?_; go_step))
            | go_skip
            | go_big_skip
            | ((with_reducible show wpList _ _ _ (⟨_, .move _, _, _, _, _⟩ :: _) _ _); (first | go_big_want | go_step); go_step)
            | ((with_reducible show wpList _ _ _ (⟨_, .assign _, _, _, _, _⟩ :: _) _ _); (first | go_big_want | go_step); go_step)
            | ((with_reducible show wpList _ _ _ (⟨_, .pick _ _ _, _, _, _, _⟩ :: _) _ _); first | (refine wplPickT rfl (by kernel_rfl) ?_; go_step) | (refine wplPickF rfl (by kernel_rfl) ?_; go_step))
            | ((with_reducible show wpList _ _ _ (⟨_, .binOp .shl _ _ _ _, _, _, _, _⟩ :: _) _ _); first | (refine wplV _ (V.shl1 rfl rfl (by (repeat (first | exact IsN.auto | with_reducible apply IsN.add | with_reducible apply IsN.sub | with_reducible apply IsN.mul | with_reducible apply IsN.div | with_reducible apply IsN.mod | with_reducible apply IsN.min | with_reducible apply IsN.max | (with_reducible show (_ : Nat) ≤ _; omega) | exact IsN.toNat (by omega)))) (by omega)) (by kernel_rfl) ?_; go_step) | (refine wplV _ (V.shlI rfl rfl (by (repeat (first | exact IsN.auto | with_reducible apply IsN.add | with_reducible apply IsN.sub | with_reducible apply IsN.mul | with_reducible apply IsN.div | with_reducible apply IsN.mod | with_reducible apply IsN.min | with_reducible apply IsN.max | (with_reducible show (_ : Nat) ≤ _; omega) | exact IsN.toNat (by omega)))) (by omega) (by omega)) (by kernel_rfl) ?_; go_step) | (refine wplV _ (V.shl rfl rfl (by (repeat (first | exact IsN.auto | with_reducible apply IsN.add | with_reducible apply IsN.sub | with_reducible apply IsN.mul | with_reducible apply IsN.div | with_reducible apply IsN.mod | with_reducible apply IsN.min | with_reducible apply IsN.max | (with_reducible show (_ : Nat) ≤ _; omega) | exact IsN.toNat (by omega)))) (by omega) rfl) (by kernel_rfl) ?_; go_step))
            | ((with_reducible show wpList _ _ _ (⟨_, .binOp .add _ _ _ _, _, _, _, _⟩ :: _) _ _); first | (refine wplV _ (V.addI rfl rfl (by omega)) (by kernel_rfl) ?_; go_step) | (refine wplV _ (V.addR (by decide) rfl rfl) (by kernel_rfl) ?_; go_step))
            | ((with_reducible show wpList _ _ _ (⟨_, .binOp .lss _ _ _ _, _, _, _, _⟩ :: _) _ _); first | (refine wplV _ (V.lss rfl rfl) (by kernel_rfl) ?_; go_step))
            | ((fail_if_success (with_reducible show wpList _ _ _ (_ :: _) _ _)); go_step))
          go_roundg (gk - 1)
          case measure => omega
          case rel => exact ⟨v + 1, by omega, by go_num, by omega, hid (.inr (by rw [Nat.add_sub_cancel, HP2.out]; omega)), hS.sub (by (repeat (first | exact Sub.nil | with_reducible exact Sub.refl | (apply Sub.cons; (case p => (repeat (first | with_reducible exact Pull.head | apply Pull.tail)))) | apply Sub.skip)))⟩
        · have hfl := HFL.out v (by rw [HP2.out]; omega) (by omega)
          have hmul : 0 ≤ A * (v : Int) ∧ A * (v : Int) ≤ (i * 9999 : Nat) * 9 := ⟨Int.mul_nonneg hbd.1 (by omega), Int.mul_le_mul (by omega) (by omega) (by omega) (by omega)⟩
          repeat' (first
            | ((with_reducible show wpList _ _ _ (⟨some 36, .binOp .shl _ _ _ _, _, _, _, _⟩ :: _) _ _); first | (refine wplV (.int _ (((P : Nat) : Int))) (V.as (V.shl1 rfl rfl (by (repeat (first | exact IsN.auto | with_reducible apply IsN.add | with_reducible apply IsN.sub | with_reducible apply IsN.mul | with_reducible apply IsN.div | with_reducible apply IsN.mod | with_reducible apply IsN.min | with_reducible apply IsN.max | (with_reducible show (_ : Nat) ≤ _; omega) | exact IsN.toNat (by omega)))) (by omega)) (by exact HP.out)) rfl ?_; go_step) | (refine wplV (.int _ (((P : Nat) : Int))) (V.as (V.shlI rfl rfl (by (repeat (first | exact IsN.auto | with_reducible apply IsN.add | with_reducible apply IsN.sub | with_reducible apply IsN.mul | with_reducible apply IsN.div | with_reducible apply IsN.mod | with_reducible apply IsN.min | with_reducible apply IsN.max | (with_reducible show (_ : Nat) ≤ _; omega) | exact IsN.toNat (by omega)))) (by omega) (by omega)) (by exact HP.out)) rfl ?_; go_step) | (refine wplV (.int _ (((P : Nat) : Int))) (V.as (V.shl rfl rfl (by (repeat (first | exact IsN.auto | with_reducible apply IsN.add | with_reducible apply IsN.sub | with_reducible apply IsN.mul | with_reducible apply IsN.div | with_reducible apply IsN.mod | with_reducible apply IsN.min | with_reducible apply IsN.max | (with_reducible show (_ : Nat) ≤ _; omega) | exact IsN.toNat (by omega)))) (by omega) rfl) (by exact HP.out)) rfl ?_; go_step))
            | go_skip
            | go_big_skip
            | ((with_reducible show wpList _ _ _ (⟨_, .move _, _, _, _, _⟩ :: _) _ _); (first | go_big_want | go_step); go_step)
            | ((with_reducible show wpList _ _ _ (⟨_, .assign _, _, _, _, _⟩ :: _) _ _); (first | go_big_want | go_step); go_step)
            | ((with_reducible show wpList _ _ _ (⟨_, .pick _ _ _, _, _, _, _⟩ :: _) _ _); first | (refine wplPickT rfl (by kernel_rfl) ?_; go_step) | (refine wplPickF rfl (by kernel_rfl) ?_; go_step))
            | ((with_reducible show wpList _ _ _ (⟨_, .binOp .shl _ _ _ _, _, _, _, _⟩ :: _) _ _); first | (refine wplV _ (V.shl1 rfl rfl (by (repeat (first | exact IsN.auto | with_reducible apply IsN.add | with_reducible apply IsN.sub | with_reducible apply IsN.mul | with_reducible apply IsN.div | with_reducible apply IsN.mod | with_reducible apply IsN.min | with_reducible apply IsN.max | (with_reducible show (_ : Nat) ≤ _; omega) | exact IsN.toNat (by omega)))) (by omega)) (by kernel_rfl) ?_; go_step) | (refine wplV _ (V.shlI rfl rfl (by (repeat (first | exact IsN.auto | with_reducible apply IsN.add | with_reducible apply IsN.sub | with_reducible apply IsN.mul | with_reducible apply IsN.div | with_reducible apply IsN.mod | with_reducible apply IsN.min | with_reducible apply IsN.max | (with_reducible show (_ : Nat) ≤ _; omega) | exact IsN.toNat (by omega)))) (by omega) (by omega)) (by kernel_rfl) ?_; go_step) | (refine wplV _ (V.shl rfl rfl (by (repeat (first | exact IsN.auto | with_reducible apply IsN.add | with_reducible apply IsN.sub | with_reducible apply IsN.mul | with_reducible apply IsN.div | with_reducible apply IsN.mod | with_reducible apply IsN.min | with_reducible apply IsN.max | (with_reducible show (_ : Nat) ≤ _; omega) | exact IsN.toNat (by omega)))) (by omega) rfl) (by kernel_rfl) ?_; go_step))
            | ((with_reducible show wpList _ _ _ (⟨_, .binOp .add _ _ _ _, _, _, _, _⟩ :: _) _ _); first | (refine wplV _ (V.addI rfl rfl (by omega)) (by kernel_rfl) ?_; go_step) | (refine wplV _ (V.addR (by decide) rfl rfl) (by kernel_rfl) ?_; go_step))
            | ((with_reducible show wpList _ _ _ (⟨_, .binOp .lss _ _ _ _, _, _, _, _⟩ :: _) _ _); first | (refine wplV _ (V.lss rfl rfl) (by kernel_rfl) ?_; go_step))
            | ((fail_if_success (with_reducible show wpList _ _ _ (_ :: _) _ _)); go_step))
          repeat' (first
            | ((with_reducible show wpList _ _ _ (⟨some 45, _, _, _, _, _⟩ :: _) _ _); refine wpl_call (f := 12) Try.call12 (by kernel_rfl) ?_; refine ⟨_, (cost_any _ C S ao n2 co hLen (hS.sl (by (repeat (first | with_reducible exact Pull.head | apply Pull.tail)))) (by omega) l _ i c2 (hv2.ext hS.1) hmm), ?_⟩; rintro e w ⟨rfl, hE2⟩; rw [HCS.out.1, HCS.out.2]; replace hS := hS.ext hE2; clear hE2; refine ⟨_, rfl, ?_⟩; refine put_move ?_; go_step)
            | go_skip
            | go_big_skip
            | ((with_reducible show wpList _ _ _ (⟨_, .move _, _, _, _, _⟩ :: _) _ _); (first | go_big_want | go_step); go_step)
            | ((with_reducible show wpList _ _ _ (⟨_, .assign _, _, _, _, _⟩ :: _) _ _); (first | go_big_want | go_step); go_step)
            | ((with_reducible show wpList _ _ _ (⟨_, .pick _ _ _, _, _, _, _⟩ :: _) _ _); first | (refine wplPickT rfl (by kernel_rfl) ?_; go_step) | (refine wplPickF rfl (by kernel_rfl) ?_; go_step))
            | ((with_reducible show wpList _ _ _ (⟨some 49, .binOp .eql 27 _ _ _, _, _, _, _⟩ :: _) _ _); first | (refine wplD _ (V.eql rfl rfl) (by kernel_rfl) (fun hB => ?_) (fun hB => ?_) <;> (try (have hF : False := (by omega); cases hF)) <;> go_step) | (refine wplB _ (V.eql rfl rfl) (by kernel_rfl) (fun hB => ?_) (fun hB => ?_) <;> (try (have hF : False := (absurd hB (by decide)); cases hF)) <;> go_step))
            | ((with_reducible show wpList _ _ _ (⟨some 53, .binOp .geq _ _ _ _, _, _, _, _⟩ :: _) _ _); first | (refine wplD _ (V.geq rfl rfl) (by kernel_rfl) (fun hB => ?_) (fun hB => ?_) <;> (try (have hF : False := (by omega); cases hF)) <;> go_step) | (refine wplB _ (V.geq rfl rfl) (by kernel_rfl) (fun hB => ?_) (fun hB => ?_) <;> (try (have hF : False := (absurd hB (by decide)); cases hF)) <;> go_step))
            | ((with_reducible show wpList _ _ _ (⟨some 60, .binOp .leq _ _ _ _, _, _, _, _⟩ :: _) _ _); first | (refine wplD _ (V.leq rfl rfl) (by kernel_rfl) (fun hB => ?_) (fun hB => ?_) <;> (try (have hF : False := (by omega); cases hF)) <;> go_step) | (refine wplB _ (V.leq rfl rfl) (by kernel_rfl) (fun hB => ?_) (fun hB => ?_) <;> (try (have hF : False := (absurd hB (by decide)); cases hF)) <;> go_step))
            | ((with_reducible show wpList _ _ _ (⟨_, .extract _ _, _, _, _, _⟩ :: _) _ _); first | (refine wplV _ (V.extract rfl rfl) (by kernel_rfl) ?_; go_step))
            | ((with_reducible show wpList _ _ _ (⟨_, .binOp .mul _ _ _ _, _, _, _, _⟩ :: _) _ _); first | (refine wplV _ (V.mulI rfl rfl (by omega)) (by kernel_rfl) ?_; go_step) | (refine wplV _ (V.mulR (by decide) rfl rfl) (by kernel_rfl) ?_; go_step))
            | ((with_reducible show wpList _ _ _ (⟨_, .fieldAddr 25 _ 1, _, _, _, _⟩ :: _) _ _); first | (refine wplV _ (V.fieldAddr fo25_1 rfl (by first | with_reducible exact Nat.zero_add _ | with_reducible exact Nat.add_zero _ | exact rfl)) (by kernel_rfl) ?_; go_step))
            | ((with_reducible show wpList _ _ _ (⟨_, .call ⟨.builtin .len, _, _⟩, _, _, _, _⟩ :: _) _ _); first | (refine wplV _ (V.len Try.underlying23 rfl) (by kernel_rfl) ?_; go_step))
            | ((with_reducible show wpList _ _ _ (⟨_, .binOp .eql 3 _ _ _, _, _, _, _⟩ :: _) _ _); first | (refine wplV _ (V.eql rfl rfl) (by kernel_rfl) ?_; go_step))
            | ((with_reducible show wpList _ _ _ (⟨_, .load 25 _, _, _, _, _⟩ :: _) _ _); first | (refine wpl (by kernel_rfl) ?_; apply wp_loadPP hS 25 _ rfl _ _ rfl 17 (row_of rfl) _; (case hp => (repeat (first | with_reducible exact Pull.head | apply Pull.tail))); (case hi => (repeat (first | (apply AtP.head; (repeat (first | exact Pre.nil | (apply Pre.ints; (case hn => (first | (with_reducible assumption) | exact Len.rep | exact Len.set (by with_reducible assumption) | exact Len.set Len.rep | exact Len.set (Len.set Len.rep))); (case h => omega); (case hm => rfl)) | apply Pre.val))) | (apply AtP.skipI; (case hn => (first | (with_reducible assumption) | exact Len.rep | exact Len.set (by with_reducible assumption) | exact Len.set Len.rep | exact Len.set (Len.set Len.rep))); (case h => omega); (case ho => rfl)) | apply AtP.skipV))); refine put_move ?_; go_step) | (refine wpl (by kernel_rfl) ?_; apply wp_loadA hS 25 _ rfl _ rfl 17 (row_of rfl) _; (case hp => (repeat (first | with_reducible exact Pull.head | apply Pull.tail))); refine put_move ?_; go_step) | (refine wpl (by kernel_rfl) ?_; apply wp_loadG hS 25 _ rfl _ rfl 17 (row_of rfl) _; (case hp => (repeat (first | with_reducible exact Pull.head | apply Pull.tail))); (case hn => rfl); refine put_move ?_; go_step) | (refine wpl (by kernel_rfl) ?_; apply wp_loadRW hS 25 _ rfl _ _ rfl 17 (row_of rfl) _; (case hc => with_reducible assumption); (case hn => rfl); refine put_move ?_; go_step))
            | ((with_reducible show wpList _ _ _ (⟨_, .load 23 _, _, _, _, _⟩ :: _) _ _); first | (refine wpl (by kernel_rfl) ?_; apply wp_load1 hS 23 _ rfl _ _ rfl (one_of rfl) _; (case hp => (repeat (first | with_reducible exact Pull.head | apply Pull.tail))); (case hc => rfl); refine put_move ?_; go_step) | (refine wpl (by kernel_rfl) ?_; apply wp_load1O hS 23 _ rfl _ _ rfl (one_of rfl) _ _ _ _ _; (case hp => (repeat (first | with_reducible exact Pull.head | apply Pull.tail))); (case hv => with_reducible assumption); refine put_move ?_; go_step) | (refine wpl (by kernel_rfl) ?_; apply wp_loadW hS 23 _ rfl _ rfl (one_of rfl) _; (case hc => with_reducible assumption); refine put_move ?_; go_step) | (refine wpl (by kernel_rfl) ?_; apply wp_loadVP hS 23 _ rfl _ _ rfl (one_of rfl) _; (case hp => (repeat (first | with_reducible exact Pull.head | apply Pull.tail))); (case hi => (repeat (first | exact AtV.head | (apply AtV.skipI; (case hn => (first | (with_reducible assumption) | exact Len.rep | exact Len.set (by with_reducible assumption) | exact Len.set Len.rep | exact Len.set (Len.set Len.rep))); (case h => omega); (case ho => rfl)) | apply AtV.skipV))); refine put_move ?_; go_step))
            | ((fail_if_success (with_reducible show wpList _ _ _ (_ :: _) _ _)); go_step))
          all_goals (go_ret; first | exact ⟨ret_bool (decide_eq_true (by omega)), hS.1⟩ | exact ⟨rfl, hS.1⟩)
end Go.Proofs.Ytembekkanggciaa
