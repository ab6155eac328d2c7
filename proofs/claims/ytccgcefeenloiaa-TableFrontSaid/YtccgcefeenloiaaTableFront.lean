/- The law TableFront: its walk, and the statement. -/
import Derived.Test.YtccgcefeenloiaaTableKeep
import Derived.Test.YtccgcefeenloiaaOpenTab
import Derived.Test.YtccgcefeenloiaaTableDec
import Derived.Test.YtccgcefeenloiaaEqInt
import Derived.Test.YtccgcefeenloiaaUpto
import Derived.Test.YtccgcefeenloiaaSized
namespace Go.Proofs.Ytccgcefeenloiaa
open Go.ChangeShapes Go.WideShapes Go.ChangeAt Go.RowKit
set_option linter.unusedVariables false
theorem Sl.cap {w : World} {s n m c : Nat} {a : Option Addr} {cs : List Value} (h : Sl w s (.slice a n c) m cs) : n ≤ c := by
  obtain ⟨_, a', c', e, h1, _⟩ := h
  cases e; exact h1
/-- Bit by bit. -/
def ones (m : Nat) : List Int := List.replicate m 1
theorem ones_rd (N : Nat) (l : List Nat) : ∀ (m i : Nat), i + m ≤ N → rdE N (ones m) i = 0 ∧ rdT (ones m) i = i + m ∧ rdV l (ones m) i = (List.range' i m).map fun j => (numAt l j 1 : Int)
  | 0, i, _ => ⟨rfl, rfl, rfl⟩
  | m + 1, i, h => by
    obtain ⟨h1, h2, h3⟩ := ones_rd N l m (i + 1) (by omega)
    unfold ones at *
    rw [List.replicate_succ]
    refine ⟨?_, ?_, ?_⟩
    · rw [rdE, show okW 1 = true from rfl, if_pos rfl, if_neg (by show ¬ N < i + 1; omega)]; exact h1
    · rw [rdT]; show rdT _ (i + 1) = _; rw [h2]; omega
    · rw [rdV, List.range'_succ, List.map_cons]; show _ :: rdV l _ (i + 1) = _; rw [h3]; rfl
theorem numAt_bits (a b : List Nat) (T j : Nat) (h : (unpack a).take T = (unpack b).take T) (hj : j < T) : numAt a j 1 = numAt b j 1 := by
  unfold numAt
  have e : ∀ l : List Bool, (l.drop j).take 1 = ((l.take T).drop j).take 1 := fun l => by
    rw [List.drop_take, List.take_take, show min 1 (T - j) = 1 by omega]
  rw [e (unpack a), e (unpack b), h]
theorem front_spec {C S : List Int} {l : List Nat} {n k : Nat} (hn : n ≤ 29) (hk : k ≤ n) (h : decE C S l n = 0) : ∃ (all : List Int) (T T2 : Nat), decV C S l n = all ∧ decT C S l n = T ∧ all.length = n ∧ T ≤ 464 ∧ decE C S l k = 0 ∧ decV C S l k = all.take k ∧ decT C S l k = T2 ∧ T2 ≤ T ∧ T ≤ 8 * l.length ∧
    encE C S all = 0 ∧ T ≤ 8 * (encB C S all).length ∧ rdV l (ones T) 0 = rdV (encB C S all) (ones T) 0 := by
  have h1 : tabE C S = 0 := by
    unfold decE at h
    by_cases h0 : tabE C S = 0
    · exact h0
    · rw [if_neg h0] at h; exact h
  have hG := wds_good h1
  have hd : (dcW (wds C S) l n 0).2.1 = 0 := by
    unfold decE at h
    rw [if_pos h1, if_pos (by omega), Int.toNat_natCast] at h; exact h
  obtain ⟨r1, r2, r3, r4, r5, r6, r7⟩ := dc_ok hG l n 0 hd (by omega)
  obtain ⟨q1, q2, q3⟩ := r7 k hk
  have hk0 : decE C S l k = 0 := by rw [decE, if_pos h1, if_pos (by omega), Int.toNat_natCast]; exact q1
  obtain ⟨all, hall⟩ : ∃ a, (dcW (wds C S) l n 0).1 = a := ⟨_, rfl⟩
  obtain ⟨T, hT⟩ : ∃ T, (dcW (wds C S) l n 0).2.2 = T := ⟨_, rfl⟩
  rw [hall] at r1 r2 r6 q2
  rw [hT] at r4 r5 r6 q3
  have hE : encE C S all = 0 := by
    rw [encE, if_pos h1, if_neg (by omega), if_pos]
    rw [List.all_eq_true]; intro s hs
    exact decide_eq_true ((symW_iff h1 s).1 (r2 s hs))
  have hB : unpack (encB C S all) = encBits (wds C S) all ++ padding (encBits (wds C S) all) := by rw [encB, if_pos hE, unpack_bytesOf]
  rw [List.drop_zero, Nat.sub_zero] at r6
  have hlen : (encBits (wds C S) all).length = T := by rw [r6, List.length_take, unpack_len]; omega
  have hT8 : T ≤ 8 * (encB C S all).length := by rw [← unpack_len, hB, List.length_append]; omega
  have htk : (unpack (encB C S all)).take T = (unpack l).take T := by rw [hB, List.take_left' hlen, r6]
  refine ⟨all, T, (dcW (wds C S) l k 0).2.2, ?_, ?_, r1, by omega, hk0, ?_, ?_, q3, r4, hE, hT8, ?_⟩
  · rw [decV, if_pos h, Int.toNat_natCast, hall]
  · rw [decT, if_pos h, Int.toNat_natCast, hT]
  · rw [decV, if_pos hk0, Int.toNat_natCast, q2]
  · rw [decT, if_pos hk0, Int.toNat_natCast]
  · rw [(ones_rd (8 * l.length) l T 0 (by omega)).2.2, (ones_rd (8 * l.length) (encB C S all) T 0 (by omega)).2.2]
    refine List.map_congr_left fun j hj => ?_
    have hj2 := List.mem_range'_1.1 hj
    rw [numAt_bits _ _ T j htk (by omega)]
theorem ones_set (T j : Nat) (h : j < T) : (ones j ++ List.replicate (T - j) 0).set j 1 = ones (j + 1) ++ List.replicate (T - (j + 1)) 0 := by
  unfold ones
  rw [List.set_append_right _ _ (by simp), List.length_replicate, Nat.sub_self, show T - j = (T - (j + 1)) + 1 by omega, List.replicate_succ, List.set_cons_zero, show List.replicate (j + 1) (1 : Int) = List.replicate j 1 ++ [1] by rw [List.replicate_succ'], List.append_assoc]
  rfl
set_option maxRecDepth 100000 in
set_option maxHeartbeats 4000000 in
theorem TableFront_walk {H : Type} {enc : TypeId × Value → H} {d0 d1 d2 d3 : DataW H} {p0 p1 p2 p3 : List MemPlace} {v0 v1 v2 v3 : Value} {base : Nat} (W : World)
    (o0 : Value.okWide Try.prog W .any base 25 v0) (h0 : DataW.Trod enc Try.prog W 0 (fun _ => true) true 25 v0 d0 p0) (lt0 : ∀ x ∈ p0, x.block < W.heap.size)
    (o1 : Value.okWide Try.prog W .any base 26 v1) (h1 : DataW.Trod enc Try.prog W 0 (fun _ => true) true 26 v1 d1 p1) (lt1 : ∀ x ∈ p1, x.block < W.heap.size)
    (o2 : Value.okWide Try.prog W .any base 3 v2) (h2 : DataW.Trod enc Try.prog W 0 (fun _ => true) true 3 v2 d2 p2) (lt2 : ∀ x ∈ p2, x.block < W.heap.size)
    (o3 : Value.okWide Try.prog W .any base 3 v3) (h3 : DataW.Trod enc Try.prog W 0 (fun _ => true) true 3 v3 d3 p3) (lt3 : ∀ x ∈ p3, x.block < W.heap.size)
    (hwt : (DataW.weightsEach Try.prog [25, 26, 3, 3] [d0, d1, d2, d3]).all (· ≤ reachBytes) = true) :
    Calls Try.prog 3 #[v0, v1, v2, v3] W fun e w' => e = .returned (.bool true) ∧ Ext W w' := by
  obtain ⟨C, S, ad, n, c, rfl, hT⟩ := op_tab o0 h0
  obtain ⟨m, l, ad2, c2, hl, rfl, hnc2, hcm2, hv2, hlt, hbk⟩ := op_bytes o1 h1
  have hbk2 := slice_sized (j := 1) Try.underlying26 (show Try.prog.bytesOf 5 = 1 by kernel_rfl) h1 hwt rfl rfl
  have hm20 : m ≤ 140737488351232 := by omega
  obtain ⟨z0, rfl, _, _⟩ := op_int Try.underlying3 o2 h2
  obtain ⟨z1, rfl, _, _⟩ := op_int Try.underlying3 o3 h3
  clear o0 h0 lt0 o1 h1 lt1 o2 h2 lt2 o3 h3 lt3
  have hC := hT.len
  have hv := hT.sl
  have hnc := hT.nc
  have hcm := hT.cm
  obtain ⟨N, hN⟩ : ∃ N : Nat, z0 % 30 = (N : Int) := ⟨(z0 % 30).toNat, by omega⟩
  have hN29 : N ≤ 29 := by omega
  have hr0 := Int.emod_nonneg z1 (b := (N : Int) + 1) (by omega)
  have hr1 := Int.emod_lt_of_pos z1 (b := (N : Int) + 1) (by omega)
  obtain ⟨K, hK⟩ : ∃ K : Nat, z1 % ((N : Int) + 1) = (K : Int) := ⟨(z1 % ((N : Int) + 1)).toNat, by omega⟩
  have hKN : K ≤ N := by omega
  have HN := hid hN
  have HK := hid hK
  have HLt := hid hlt
  have HL := hid hl
  clear hbk hbk2 hwt hT hN hK hr0 hr1 hlt hl
  have hS := St.start W
  obtain ⟨E, hE⟩ : ∃ E, decE C S l (N : Int) = E := ⟨_, rfl⟩
  by_cases h0 : E = 0
  case neg =>
    have HE := hid hE
    have HV : Hid (decV C S l (N : Int) = []) := hid (by rw [decV, if_neg (by rw [hE]; exact h0)])
    clear hE
    obtain ⟨V2, hV2⟩ : ∃ V2, decV C S l (K : Int) = V2 := ⟨_, rfl⟩
    go_enter Try.func3, Try.ntmps3
    repeat' (first
      | ((with_reducible show wpList _ _ _ (⟨_, .call ⟨.value (.func 5), _, _⟩, _, _, _, _⟩ :: _) _ _); refine wpl_call (f := 5) Try.call5 (by kernel_rfl) ?_; refine ⟨_, (tabled_any _), ?_⟩; rintro e w ⟨rfl, hE2⟩; replace hS := hS.ext hE2; clear hE2; refine ⟨_, rfl, ?_⟩; refine put_move ?_; go_step)
      | ((with_reducible show wpList _ _ _ (⟨some 28, _, _, _, _, _⟩ :: _) _ _); refine wpl_call (f := 6) Try.call6 (by kernel_rfl) ?_; refine ⟨_, (rest_any _ 30 _ (by omega) (by omega)), ?_⟩; rintro e w' ⟨rfl, rfl⟩; rw [HN.out]; refine ⟨_, rfl, ?_⟩; refine put_move ?_; go_step)
      | ((with_reducible show wpList _ _ _ (⟨some 32, _, _, _, _, _⟩ :: _) _ _); refine wpl_call (f := 6) Try.call6 (by kernel_rfl) ?_; refine ⟨_, (rest_any _ ((N : Int) + 1) _ (by omega) (by omega)), ?_⟩; rintro e w' ⟨rfl, rfl⟩; rw [HK.out]; refine ⟨_, rfl, ?_⟩; refine put_move ?_; go_step)
      | ((with_reducible show wpList _ _ _ (⟨some 37, _, _, _, _, _⟩ :: _) _ _); refine wpl_call (f := 7) Try.call7 (by kernel_rfl) ?_; refine ⟨_, (decode_any _ C S l (N : Int) ad ad2 n c m c2 hC (hv.ext hS.1) (by omega) (hv2.ext hS.1) HLt.out (by omega)), ?_⟩; rintro e w ⟨ad4, c4, rfl, hS2⟩; rw [HV.out, HE.out]; replace hS := hS.ext hS2.1; clear hS2; refine ⟨_, rfl, ?_⟩; refine put_move ?_; go_step)
      | ((with_reducible show wpList _ _ _ (⟨some 45, _, _, _, _, _⟩ :: _) _ _); refine wpl_call (f := 7) Try.call7 (by kernel_rfl) ?_; refine ⟨_, (decode_any _ C S l (K : Int) ad ad2 n c m c2 hC (hv.ext hS.1) (by omega) (hv2.ext hS.1) HLt.out (by omega)), ?_⟩; rintro e w ⟨ad4, c4, rfl, hS2⟩; replace hS := hS.ext hS2.1; clear hS2; refine ⟨_, rfl, ?_⟩; refine put_move ?_; go_step)
      | go_skip
      | go_big_skip
      | ((with_reducible show wpList _ _ _ (⟨_, .move _, _, _, _, _⟩ :: _) _ _); (first | go_big_want | go_step); go_step)
      | ((with_reducible show wpList _ _ _ (⟨_, .assign _, _, _, _, _⟩ :: _) _ _); (first | go_big_want | go_step); go_step)
      | ((with_reducible show wpList _ _ _ (⟨_, .pick _ _ _, _, _, _, _⟩ :: _) _ _); first | (refine wplPickT rfl (by kernel_rfl) ?_; go_step) | (refine wplPickF rfl (by kernel_rfl) ?_; go_step))
      | ((with_reducible show wpList _ _ _ (⟨_, .unOp .not _ _, _, _, _, _⟩ :: _) _ _); first | (refine wplV _ (V.notD rfl) (by kernel_rfl) ?_; go_step) | (refine wplV _ (V.not rfl) (by kernel_rfl) ?_; go_step))
      | ((with_reducible show wpList _ _ _ (⟨_, .binOp .add _ _ _ _, _, _, _, _⟩ :: _) _ _); first | (refine wplV _ (V.addI rfl rfl (by omega)) (by kernel_rfl) ?_; go_step) | (refine wplV _ (V.addR (by decide) rfl rfl) (by kernel_rfl) ?_; go_step))
      | ((with_reducible show wpList _ _ _ (⟨_, .extract _ _, _, _, _, _⟩ :: _) _ _); first | (refine wplV _ (V.extract rfl rfl) (by kernel_rfl) ?_; go_step))
      | ((with_reducible show wpList _ _ _ (⟨_, .binOp .neq 29 _ _ _, _, _, _, _⟩ :: _) _ _); first | (refine wplV _ (V.neq rfl rfl) (by kernel_rfl) ?_; go_step))
      | ((with_reducible show wpList _ _ _ (⟨_, .call ⟨.builtin .len, _, _⟩, _, _, _, _⟩ :: _) _ _); first | (refine wplV _ (V.len Try.underlying23 rfl) (by kernel_rfl) ?_; go_step))
      | ((with_reducible show wpList _ _ _ (⟨_, .binOp .eql 3 _ _ _, _, _, _, _⟩ :: _) _ _); first | (refine wplV _ (V.eql rfl rfl) (by kernel_rfl) ?_; go_step))
      | ((with_reducible show wpList _ _ _ (⟨some 4, .box 25 _, _, _, _, _⟩ :: _) _ _); first | (refine wpl (by kernel_rfl) ?_; apply wp_boxP (o := ⟨some 4, _, _, _, _, _⟩) hS 25 _ rfl _ rfl; clear hS; intro g4 w hS; refine put_move ?_; go_step))
      | ((with_reducible show wpList _ _ _ (⟨_, .load 25 _, _, _, _, _⟩ :: _) _ _); first | (refine wpl (by kernel_rfl) ?_; apply wp_loadPP hS 25 _ rfl _ _ rfl 17 (row_of rfl) _; (case hp => (repeat (first | with_reducible exact Pull.head | apply Pull.tail))); (case hi => (repeat (first | (apply AtP.head; (repeat (first | exact Pre.nil | (apply Pre.ints; (case hn => (first | (with_reducible assumption) | exact Len.rep | exact Len.set (by with_reducible assumption) | exact Len.set Len.rep | exact Len.set (Len.set Len.rep))); (case h => omega); (case hm => rfl)) | apply Pre.val))) | (apply AtP.skipI; (case hn => (first | (with_reducible assumption) | exact Len.rep | exact Len.set (by with_reducible assumption) | exact Len.set Len.rep | exact Len.set (Len.set Len.rep))); (case h => omega); (case ho => rfl)) | apply AtP.skipV))); refine put_move ?_; go_step) | (refine wpl (by kernel_rfl) ?_; apply wp_loadA hS 25 _ rfl _ rfl 17 (row_of rfl) _; (case hp => (repeat (first | with_reducible exact Pull.head | apply Pull.tail))); refine put_move ?_; go_step) | (refine wpl (by kernel_rfl) ?_; apply wp_loadG hS 25 _ rfl _ rfl 17 (row_of rfl) _; (case hp => (repeat (first | with_reducible exact Pull.head | apply Pull.tail))); (case hn => rfl); refine put_move ?_; go_step) | (refine wpl (by kernel_rfl) ?_; apply wp_loadRW hS 25 _ rfl _ _ rfl 17 (row_of rfl) _; (case hc => with_reducible assumption); (case hn => rfl); refine put_move ?_; go_step))
      | ((fail_if_success (with_reducible show wpList _ _ _ (_ :: _) _ _)); go_step))
    all_goals (try (have hF : False := (by omega); cases hF))
    all_goals (go_ret; first | exact ⟨rfl, hS.1⟩ | exact ⟨ret_bool (decide_eq_true (by omega)), hS.1⟩)
  subst h0
  obtain ⟨all, T, T2, s1, s2, s3, s4, s5, s6, s7, s8, s9, s10, s11, s12⟩ := front_spec hN29 hKN hE
  have HE := hid hE
  have S1 := hid s1
  have S2 := hid s2
  have S3 := hid s3
  have S5 := hid s5
  have S6 := hid s6
  have S7 := hid s7
  have S10 := hid s10
  obtain ⟨B, hB⟩ : ∃ B, encB C S all = B := ⟨_, rfl⟩
  have HBlt : Hid (∀ x ∈ B, x < 256) := hid (by rw [← hB, encB, if_pos s10]; exact bytesOf_lt _)
  rw [hB] at s11 s12
  have HB := hid hB
  obtain ⟨mb, hmb⟩ : ∃ mb, B.length = mb := ⟨_, rfl⟩
  have hmb2 : mb ≤ 1048576 := by
    have h1 := encBits_len (wds_good (by unfold encE at s10; by_cases h : tabE C S = 0; exact h; rw [if_neg h] at s10; exact s10)) all
    rw [← hmb, ← hB, encB, if_pos s10, bytesOf_len]; omega
  have HMb := hid hmb
  rw [hmb] at s11
  rw [HL.out] at s9
  obtain ⟨X, hX⟩ : ∃ X, rdV l (ones T) 0 = X := ⟨_, rfl⟩
  have S12 := hid (hX ▸ s12.symm)
  have HX := hid hX
  have HXl : Hid (X.length = T) := hid (by rw [← hX, rdV_len]; simp [ones])
  have HAk : Hid ((all.take K).length = K) := hid (by rw [List.length_take, s3]; omega)
  have R1 := hid (ones_rd (8 * m) l T 0 (by omega)).1
  have R2 := hid (ones_rd (8 * m) l T 0 (by omega)).2.1
  have R3 := hid (ones_rd (8 * mb) l T 0 (by omega)).1
  have HOn : Hid ((ones T).length = T) := hid (by simp [ones])
  clear hE s1 s2 s3 s5 s6 s7 s10 s12 hB hmb hX
  go_enter Try.func3, Try.ntmps3
  repeat' (first
    | ((with_reducible show wpList _ _ _ (⟨_, .call ⟨.value (.func 5), _, _⟩, _, _, _, _⟩ :: _) _ _); refine wpl_call (f := 5) Try.call5 (by kernel_rfl) ?_; refine ⟨_, (tabled_any _), ?_⟩; rintro e w ⟨rfl, hE2⟩; replace hS := hS.ext hE2; clear hE2; refine ⟨_, rfl, ?_⟩; refine put_move ?_; go_step)
    | ((with_reducible show wpList _ _ _ (⟨some 28, _, _, _, _, _⟩ :: _) _ _); refine wpl_call (f := 6) Try.call6 (by kernel_rfl) ?_; refine ⟨_, (rest_any _ 30 _ (by omega) (by omega)), ?_⟩; rintro e w' ⟨rfl, rfl⟩; rw [HN.out]; refine ⟨_, rfl, ?_⟩; refine put_move ?_; go_step)
    | ((with_reducible show wpList _ _ _ (⟨some 32, _, _, _, _, _⟩ :: _) _ _); refine wpl_call (f := 6) Try.call6 (by kernel_rfl) ?_; refine ⟨_, (rest_any _ ((N : Int) + 1) _ (by omega) (by omega)), ?_⟩; rintro e w' ⟨rfl, rfl⟩; rw [HK.out]; refine ⟨_, rfl, ?_⟩; refine put_move ?_; go_step)
    | ((with_reducible show wpList _ _ _ (⟨some 37, _, _, _, _, _⟩ :: _) _ _); refine wpl_call (f := 7) Try.call7 (by kernel_rfl) ?_; refine ⟨_, (decode_any _ C S l (N : Int) ad ad2 n c m c2 hC (hv.ext hS.1) (by omega) (hv2.ext hS.1) HLt.out (by omega)), ?_⟩; rintro e w ⟨ad4, c4, rfl, hS2⟩; rw [S1.out, S3.out] at hS2; rw [S1.out, S2.out, S3.out, HE.out]; replace hS := hS.call1 hS2; clear hS2; have hc4 := (hS.sl (a := ad4) (e := 3) (s := 1) (by (repeat (first | with_reducible exact Pull.head | apply Pull.tail)))).cap; refine ⟨_, rfl, ?_⟩; refine put_move ?_; go_step)
    | ((with_reducible show wpList _ _ _ (⟨some 45, _, _, _, _, _⟩ :: _) _ _); refine wpl_call (f := 7) Try.call7 (by kernel_rfl) ?_; refine ⟨_, (decode_any _ C S l (K : Int) ad ad2 n c m c2 hC (hv.ext hS.1) (by omega) (hv2.ext hS.1) HLt.out (by omega)), ?_⟩; rintro e w ⟨ad5, c5, rfl, hS2⟩; rw [S6.out, HAk.out] at hS2; rw [S6.out, S7.out, HAk.out, S5.out]; replace hS := hS.call1 hS2; clear hS2; refine ⟨_, rfl, ?_⟩; refine put_move ?_; go_step)
    | ((with_reducible show wpList _ _ _ (⟨some 57, _, _, _, _, _⟩ :: _) _ _); refine wpl_call (f := 8) Try.call8 (by kernel_rfl) ?_; refine ⟨_, (encode_any _ C S all ad ad4 n c N c4 hC (hv.ext hS.1) (by omega) (hS.sl (by (repeat (first | with_reducible exact Pull.head | apply Pull.tail)))) (by omega)), ?_⟩; rintro e w ⟨ad6, c6, rfl, hS2⟩; rw [HB.out, HMb.out] at hS2; rw [HB.out, HMb.out, S10.out]; replace hS := hS.call1 hS2; clear hS2; refine ⟨_, rfl, ?_⟩; refine put_move ?_; go_step)
    | ((with_reducible show wpList _ _ _ (⟨some 67, _, _, _, _, _⟩ :: _) _ _); refine wpl_call (f := 9) Try.call9 (by kernel_rfl) ?_; refine ⟨_, (eqInt_any _ _ _ (all.take K) (all.take K) (by have := hS.sl (a := ad5) (e := 3) (s := 1) (by (repeat (first | with_reducible exact Pull.head | apply Pull.tail))); unfold ISl; rw [HAk.out]; exact this) (by have := (hS.sl (a := ad4) (e := 3) (s := 1) (by (repeat (first | with_reducible exact Pull.head | apply Pull.tail)))).cutAt 0 K (by omega) (by omega); unfold ISl; rw [HAk.out, List.map_take]; rw [Nat.zero_mul, List.drop_zero, Nat.mul_one] at this; exact this)), ?_⟩; rintro e w' ⟨rfl, rfl⟩; refine ⟨_, rfl, ?_⟩; refine put_move ?_; go_step)
    | go_skip
    | go_big_skip
    | ((with_reducible show wpList _ _ _ (⟨_, .move _, _, _, _, _⟩ :: _) _ _); (first | go_big_want | go_step); go_step)
    | ((with_reducible show wpList _ _ _ (⟨_, .assign _, _, _, _, _⟩ :: _) _ _); (first | go_big_want | go_step); go_step)
    | ((with_reducible show wpList _ _ _ (⟨_, .pick _ _ _, _, _, _, _⟩ :: _) _ _); first | (refine wplPickT rfl (by kernel_rfl) ?_; go_step) | (refine wplPickF rfl (by kernel_rfl) ?_; go_step))
    | ((with_reducible show wpList _ _ _ (⟨some 61, .binOp .neq 29 _ _ _, _, _, _, _⟩ :: _) _ _); first | (refine wplD _ (V.neq rfl rfl) (by kernel_rfl) (fun hB => ?_) (fun hB => ?_) <;> (try (have hF : False := (by omega); cases hF)) <;> go_step) | (refine wplB _ (V.neq rfl rfl) (by kernel_rfl) (fun hB => ?_) (fun hB => ?_) <;> (try (have hF : False := (absurd hB (by decide)); cases hF)) <;> go_step))
    | ((with_reducible show wpList _ _ _ (⟨some 68, .unOp .not _ _, _, _, _, _⟩ :: _) _ _); first | (refine wplD _ (V.notD rfl) (by kernel_rfl) (fun hB => ?_) (fun hB => ?_) <;> (try (have hF : False := (by omega); cases hF)) <;> go_step) | (refine wplB _ (V.notD rfl) (by kernel_rfl) (fun hB => ?_) (fun hB => ?_) <;> (try (have hF : False := (absurd hB (by decide)); cases hF)) <;> go_step) | (refine wplB _ (V.not rfl) (by kernel_rfl) (fun hB => ?_) (fun hB => ?_) <;> (try (have hF : False := (absurd hB (by decide)); cases hF)) <;> go_step))
    | ((with_reducible show wpList _ _ _ (⟨some 73, .binOp .gtr _ _ _ _, _, _, _, _⟩ :: _) _ _); first | (refine wplD _ (V.gtr rfl rfl) (by kernel_rfl) (fun hB => ?_) (fun hB => ?_) <;> (try (have hF : False := (by omega); cases hF)) <;> go_step) | (refine wplB _ (V.gtr rfl rfl) (by kernel_rfl) (fun hB => ?_) (fun hB => ?_) <;> (try (have hF : False := (absurd hB (by decide)); cases hF)) <;> go_step))
    | ((with_reducible show wpList _ _ _ (⟨_, .unOp .not _ _, _, _, _, _⟩ :: _) _ _); first | (refine wplV _ (V.notD rfl) (by kernel_rfl) ?_; go_step) | (refine wplV _ (V.not rfl) (by kernel_rfl) ?_; go_step))
    | ((with_reducible show wpList _ _ _ (⟨_, .binOp .add _ _ _ _, _, _, _, _⟩ :: _) _ _); first | (refine wplV _ (V.addI rfl rfl (by omega)) (by kernel_rfl) ?_; go_step) | (refine wplV _ (V.addR (by decide) rfl rfl) (by kernel_rfl) ?_; go_step))
    | ((with_reducible show wpList _ _ _ (⟨_, .extract _ _, _, _, _, _⟩ :: _) _ _); first | (refine wplV _ (V.extract rfl rfl) (by kernel_rfl) ?_; go_step))
    | ((with_reducible show wpList _ _ _ (⟨_, .binOp .neq 29 _ _ _, _, _, _, _⟩ :: _) _ _); first | (refine wplV _ (V.neq rfl rfl) (by kernel_rfl) ?_; go_step))
    | ((with_reducible show wpList _ _ _ (⟨_, .call ⟨.builtin .len, _, _⟩, _, _, _, _⟩ :: _) _ _); first | (refine wplV _ (V.len Try.underlying23 rfl) (by kernel_rfl) ?_; go_step))
    | ((with_reducible show wpList _ _ _ (⟨_, .binOp .eql 3 _ _ _, _, _, _, _⟩ :: _) _ _); first | (refine wplV _ (V.eql rfl rfl) (by kernel_rfl) ?_; go_step))
    | ((with_reducible show wpList _ _ _ (⟨_, .slice 23 _ _ _ _, _, _, _, _⟩ :: _) _ _); first | (refine wplV _ (V.slice Try.underlying23 isz3 rfl (by (first | exact Lo.none | exact Lo.some rfl (by (repeat (first | exact IsN.auto | with_reducible apply IsN.add | with_reducible apply IsN.sub | with_reducible apply IsN.mul | with_reducible apply IsN.div | with_reducible apply IsN.mod | with_reducible apply IsN.min | with_reducible apply IsN.max | (with_reducible show (_ : Nat) ≤ _; omega) | exact IsN.toNat (by omega)))))) (by (first | exact Up.none | exact Up.some rfl (by (repeat (first | exact IsN.auto | with_reducible apply IsN.add | with_reducible apply IsN.sub | with_reducible apply IsN.mul | with_reducible apply IsN.div | with_reducible apply IsN.mod | with_reducible apply IsN.min | with_reducible apply IsN.max | (with_reducible show (_ : Nat) ≤ _; omega) | exact IsN.toNat (by omega)))))) (by omega) (by omega)) (by kernel_rfl) ?_; go_step))
    | ((with_reducible show wpList _ _ _ (⟨some 4, .box 25 _, _, _, _, _⟩ :: _) _ _); first | (refine wpl (by kernel_rfl) ?_; apply wp_boxP (o := ⟨some 4, _, _, _, _, _⟩) hS 25 _ rfl _ rfl; clear hS; intro g4 w hS; refine put_move ?_; go_step))
    | ((with_reducible show wpList _ _ _ (⟨_, .load 25 _, _, _, _, _⟩ :: _) _ _); first | (refine wpl (by kernel_rfl) ?_; apply wp_loadPP hS 25 _ rfl _ _ rfl 17 (row_of rfl) _; (case hp => (repeat (first | with_reducible exact Pull.head | apply Pull.tail))); (case hi => (repeat (first | (apply AtP.head; (repeat (first | exact Pre.nil | (apply Pre.ints; (case hn => (first | (with_reducible assumption) | exact Len.rep | exact Len.set (by with_reducible assumption) | exact Len.set Len.rep | exact Len.set (Len.set Len.rep))); (case h => omega); (case hm => rfl)) | apply Pre.val))) | (apply AtP.skipI; (case hn => (first | (with_reducible assumption) | exact Len.rep | exact Len.set (by with_reducible assumption) | exact Len.set Len.rep | exact Len.set (Len.set Len.rep))); (case h => omega); (case ho => rfl)) | apply AtP.skipV))); refine put_move ?_; go_step) | (refine wpl (by kernel_rfl) ?_; apply wp_loadA hS 25 _ rfl _ rfl 17 (row_of rfl) _; (case hp => (repeat (first | with_reducible exact Pull.head | apply Pull.tail))); refine put_move ?_; go_step) | (refine wpl (by kernel_rfl) ?_; apply wp_loadG hS 25 _ rfl _ rfl 17 (row_of rfl) _; (case hp => (repeat (first | with_reducible exact Pull.head | apply Pull.tail))); (case hn => rfl); refine put_move ?_; go_step) | (refine wpl (by kernel_rfl) ?_; apply wp_loadRW hS 25 _ rfl _ _ rfl 17 (row_of rfl) _; (case hc => with_reducible assumption); (case hn => rfl); refine put_move ?_; go_step))
    | ((with_reducible show wpList _ _ _ (⟨some 80, .makeSlice 23 _ _, _, _, _, _⟩ :: _) _ _); first | (refine wpl (by kernel_rfl) ?_; apply wp_make (o := ⟨some 80, _, _, _, _, _⟩) hS 23 _ _ rfl _ _ _ _ elz23 _ _ _ _ _ _ rfl rfl; (case hi => (repeat (first | exact IsN.auto | with_reducible apply IsN.add | with_reducible apply IsN.sub | with_reducible apply IsN.mul | with_reducible apply IsN.div | with_reducible apply IsN.mod | with_reducible apply IsN.min | with_reducible apply IsN.max | (with_reducible show (_ : Nat) ≤ _; omega) | exact IsN.toNat (by omega)))); (case hj => (repeat (first | exact IsN.auto | with_reducible apply IsN.add | with_reducible apply IsN.sub | with_reducible apply IsN.mul | with_reducible apply IsN.div | with_reducible apply IsN.mod | with_reducible apply IsN.min | with_reducible apply IsN.max | (with_reducible show (_ : Nat) ≤ _; omega) | exact IsN.toNat (by omega)))); (case hnm => omega); (case hb => omega); (case h63 => unfold maxLen; omega); clear hS; intro g80 w hS; refine put_move ?_; go_step))
    | ((fail_if_success (with_reducible show wpList _ _ _ (_ :: _) _ _)); go_step))
  all_goals (try (have hF : False := (by omega); cases hF))
  all_goals (try (have hF : False := (hB rfl); cases hF))
  replace hS := hS.sub (xs := [own 3 1 (some ⟨g80, 0, none⟩) T T ((List.replicate (T * 1) (0 : Int)).map (Value.int .i64)), own 5 1 ad6 mb c6 (bv B)]) (by (repeat (first | exact Sub.nil | with_reducible exact Sub.refl | (apply Sub.cons; (case p => (repeat (first | with_reducible exact Pull.head | apply Pull.tail)))) | apply Sub.skip)))
  rw [Nat.mul_one] at hS
  go_loopg [83] T (fun gk kv w => ∃ j : Nat, gk + j = T ∧ kv = .int .i64 j ∧ St W w [own 3 1 (some ⟨g80, 0, none⟩) T T ((ones j ++ List.replicate (T - j) 0).map (Value.int .i64)), own 5 1 ad6 mb c6 (bv B)])
  case atStart => exact ⟨0, rfl, rfl, hS⟩
  case round =>
    clear hS
    obtain ⟨j, hj, rfl, hS⟩ := hrel
    by_cases hlt : j < T
    · have HSet := hid (ones_set T j hlt)
      repeat' (first
        | go_skip
        | go_big_skip
        | ((with_reducible show wpList _ _ _ (⟨_, .move _, _, _, _, _⟩ :: _) _ _); (first | go_big_want | go_step); go_step)
        | ((with_reducible show wpList _ _ _ (⟨_, .assign _, _, _, _, _⟩ :: _) _ _); (first | go_big_want | go_step); go_step)
        | ((with_reducible show wpList _ _ _ (⟨_, .pick _ _ _, _, _, _, _⟩ :: _) _ _); first | (refine wplPickT rfl (by kernel_rfl) ?_; go_step) | (refine wplPickF rfl (by kernel_rfl) ?_; go_step))
        | ((with_reducible show wpList _ _ _ (⟨_, .binOp .lss _ _ _ _, _, _, _, _⟩ :: _) _ _); first | (refine wplV _ (V.lss rfl rfl) (by kernel_rfl) ?_; go_step))
        | ((with_reducible show wpList _ _ _ (⟨some 88, .indexAddr 23 _ _, _, _, _, _⟩ :: _) _ _); first | (refine wplV _ (V.indexSl Try.underlying23 isz3 rfl rfl (by (repeat (first | exact IsN.auto | with_reducible apply IsN.add | with_reducible apply IsN.sub | with_reducible apply IsN.mul | with_reducible apply IsN.div | with_reducible apply IsN.mod | with_reducible apply IsN.min | with_reducible apply IsN.max | (with_reducible show (_ : Nat) ≤ _; omega) | exact IsN.toNat (by omega)))) (by omega) (Nat.mul_one _) (by first | with_reducible exact Nat.zero_add _ | with_reducible exact Nat.add_zero _ | exact rfl)) (by kernel_rfl) ?_; go_step) | (refine wpl_indexI (by with_reducible assumption) Try.underlying23 isz3 rfl rfl (by (repeat (first | exact IsN.auto | with_reducible apply IsN.add | with_reducible apply IsN.sub | with_reducible apply IsN.mul | with_reducible apply IsN.div | with_reducible apply IsN.mod | with_reducible apply IsN.min | with_reducible apply IsN.max | (with_reducible show (_ : Nat) ≤ _; omega) | exact IsN.toNat (by omega)))) (by omega) rfl ?_; intro b88 o88 hc88; go_step) | (refine wpl_indexW (by with_reducible assumption) Try.underlying23 isz3 rfl rfl (by (repeat (first | exact IsN.auto | with_reducible apply IsN.add | with_reducible apply IsN.sub | with_reducible apply IsN.mul | with_reducible apply IsN.div | with_reducible apply IsN.mod | with_reducible apply IsN.min | with_reducible apply IsN.max | (with_reducible show (_ : Nat) ≤ _; omega) | exact IsN.toNat (by omega)))) (by omega) rfl ?_; intro b88 o88 hc88; go_step) | (refine wpl_indexO hS rfl (by (repeat (first | with_reducible exact Pull.head | apply Pull.tail))) Try.underlying23 isz3 rfl (by (repeat (first | exact IsN.auto | with_reducible apply IsN.add | with_reducible apply IsN.sub | with_reducible apply IsN.mul | with_reducible apply IsN.div | with_reducible apply IsN.mod | with_reducible apply IsN.min | with_reducible apply IsN.max | (with_reducible show (_ : Nat) ≤ _; omega) | exact IsN.toNat (by omega)))) (by omega) (Nat.mul_one _) rfl ?_; (first | (rintro b88 rfl) | (intro b88 hb88; cases hb88)); go_step))
        | ((with_reducible show wpList _ _ _ (⟨_, .binOp .add _ _ _ _, _, _, _, _⟩ :: _) _ _); first | (refine wplV _ (V.addI rfl rfl (by omega)) (by kernel_rfl) ?_; go_step) | (refine wplV _ (V.addR (by decide) rfl rfl) (by kernel_rfl) ?_; go_step))
        | ((with_reducible show wpList _ _ _ (⟨_, .store 3 _ _, _, _, _, _⟩ :: _) _ _); first | (refine wpl (by kernel_rfl) ?_; apply wp_store1A hS 3 _ _ rfl _ _ rfl (one_of rfl) _ _; (case hp => (repeat (first | with_reducible exact Pull.head | apply Pull.tail))); (case hy => rfl); (case hi => omega); (case hd => exact rfl); clear hS; intro w hS) | (refine wpl (by kernel_rfl) ?_; apply wp_store1 hS 3 _ _ rfl _ _ rfl (one_of rfl) _ _; (case hp => (repeat (first | with_reducible exact Pull.head | apply Pull.tail))); (case hy => (first | exact IsV.int rfl | exact IsV.bool rfl | exact IsV.slice rfl | exact IsV.pointer rfl | exact IsV.string rfl | exact IsV.map rfl | exact IsV.func rfl)); (case hv => rfl); (case hc => (repeat (first | with_reducible exact SetAt.head | apply SetAt.tail))); (case hd => exact rfl); clear hS; intro w hS) | (refine wpl (by kernel_rfl) ?_; apply wp_store1OI hS 3 _ _ rfl _ _ rfl (one_of rfl) _ _ _ _ _; (case hp => (repeat (first | with_reducible exact Pull.head | apply Pull.tail))); (case hy => rfl); (case hi => omega); (case hd => exact rfl); clear hS; intro w hS) | (refine wpl (by kernel_rfl) ?_; apply wp_store1P hS 3 _ _ rfl _ _ rfl (one_of rfl) _ _; (case hp => (repeat (first | with_reducible exact Pull.head | apply Pull.tail))); (case hy => rfl); (case hi => (repeat (first | (apply PutI.head; (case hn => (first | (with_reducible assumption) | exact Len.rep | exact Len.set (by with_reducible assumption) | exact Len.set Len.rep | exact Len.set (Len.set Len.rep))); (case h => omega)) | (apply PutI.skipI; (case hn => (first | (with_reducible assumption) | exact Len.rep | exact Len.set (by with_reducible assumption) | exact Len.set Len.rep | exact Len.set (Len.set Len.rep))); (case h => omega); (case ho => rfl)) | apply PutI.skipV))); (case hd => exact rfl); clear hS; intro w hS) | (refine wpl (by kernel_rfl) ?_; apply wp_storeVP hS 3 _ _ rfl _ _ rfl (one_of rfl) _ _; (case hp => (repeat (first | with_reducible exact Pull.head | apply Pull.tail))); (case hy => (first | exact IsV.int rfl | exact IsV.bool rfl | exact IsV.slice rfl | exact IsV.pointer rfl | exact IsV.string rfl | exact IsV.map rfl | exact IsV.func rfl)); (case hz => rfl); (case hi => (repeat (first | exact PutV.head | (apply PutV.skipI; (case hn => (first | (with_reducible assumption) | exact Len.rep | exact Len.set (by with_reducible assumption) | exact Len.set Len.rep | exact Len.set (Len.set Len.rep))); (case h => omega); (case ho => rfl)) | apply PutV.skipV))); (case hd => exact rfl); clear hS; intro w hS) | (refine wpl (by kernel_rfl) ?_; apply wp_store1O hS 3 _ _ rfl _ _ rfl (one_of rfl) _ _ _ _ _; (case hp => (repeat (first | with_reducible exact Pull.head | apply Pull.tail))); (case hy => (first | exact IsV.int rfl | exact IsV.bool rfl | exact IsV.slice rfl | exact IsV.pointer rfl | exact IsV.string rfl | exact IsV.map rfl | exact IsV.func rfl)); (case hv => rfl); (case hi => omega); (case hd => exact rfl); clear hS; intro w hS))
        | ((fail_if_success (with_reducible show wpList _ _ _ (_ :: _) _ _)); go_step))
      rw [HSet.out] at hS
      go_roundg (gk - 1)
      case measure => omega
      case rel => exact ⟨j + 1, by omega, by go_num, hS.sub (by (repeat (first | exact Sub.nil | with_reducible exact Sub.refl | (apply Sub.cons; (case p => (repeat (first | with_reducible exact Pull.head | apply Pull.tail)))) | apply Sub.skip)))⟩
    · obtain rfl : j = T := by omega
      rw [Nat.sub_self, List.replicate_zero, List.append_nil] at hS
      repeat' (first
        | ((with_reducible show wpList _ _ _ (⟨some 93, _, _, _, _, _⟩ :: _) _ _); refine wpl_call (f := 10) Try.call10 (by kernel_rfl) ?_; refine ⟨_, (readOk_any _ ad2 (some ⟨g80, 0, none⟩) m c2 j j l (ones j) X j (hv2.ext hS.1) HLt.out (by omega) (hS.sl (by (repeat (first | with_reducible exact Pull.head | apply Pull.tail)))) (by omega) (by rw [readE, if_neg (by rw [HOn.out]; omega)]; exact R1.out) HX.out (by rw [R2.out, Nat.zero_add])), ?_⟩; rintro e w ⟨ad7, c7, rfl, hS2⟩; replace hS := hS.call1 hS2; clear hS2; refine ⟨_, rfl, ?_⟩; refine put_move ?_; go_step)
        | ((with_reducible show wpList _ _ _ (⟨some 100, _, _, _, _, _⟩ :: _) _ _); refine wpl_call (f := 10) Try.call10 (by kernel_rfl) ?_; refine ⟨_, (readOk_any _ ad6 (some ⟨g80, 0, none⟩) mb c6 j j B (ones j) X j (show Sl _ 1 _ mb (bv B) from hS.sl (by (repeat (first | with_reducible exact Pull.head | apply Pull.tail)))) HBlt.out (by omega) (hS.sl (by (repeat (first | with_reducible exact Pull.head | apply Pull.tail)))) (by omega) (by rw [readE, if_neg (by rw [HOn.out]; omega)]; exact R3.out) S12.out (by rw [R2.out, Nat.zero_add])), ?_⟩; rintro e w ⟨ad8, c8, rfl, hS2⟩; replace hS := hS.call1 hS2; clear hS2; refine ⟨_, rfl, ?_⟩; refine put_move ?_; go_step)
        | ((with_reducible show wpList _ _ _ (⟨some 113, _, _, _, _, _⟩ :: _) _ _); refine wpl_call (f := 9) Try.call9 (by kernel_rfl) ?_; refine ⟨_, (eqInt_any _ _ _ X X (by have := hS.sl (a := ad7) (e := 3) (s := 1) (by (repeat (first | with_reducible exact Pull.head | apply Pull.tail))); unfold ISl; rw [HXl.out]; exact this) (by have := hS.sl (a := ad8) (e := 3) (s := 1) (by (repeat (first | with_reducible exact Pull.head | apply Pull.tail))); unfold ISl; rw [HXl.out]; exact this)), ?_⟩; rintro e w' ⟨rfl, rfl⟩; refine ⟨_, rfl, ?_⟩; refine put_move ?_; go_step)
        | go_skip
        | go_big_skip
        | ((with_reducible show wpList _ _ _ (⟨_, .move _, _, _, _, _⟩ :: _) _ _); (first | go_big_want | go_step); go_step)
        | ((with_reducible show wpList _ _ _ (⟨_, .assign _, _, _, _, _⟩ :: _) _ _); (first | go_big_want | go_step); go_step)
        | ((with_reducible show wpList _ _ _ (⟨_, .pick _ _ _, _, _, _, _⟩ :: _) _ _); first | (refine wplPickT rfl (by kernel_rfl) ?_; go_step) | (refine wplPickF rfl (by kernel_rfl) ?_; go_step))
        | ((with_reducible show wpList _ _ _ (⟨some 105, .binOp .eql 29 _ _ _, _, _, _, _⟩ :: _) _ _); first | (refine wplD _ (V.eql rfl rfl) (by kernel_rfl) (fun hB => ?_) (fun hB => ?_) <;> (try (have hF : False := (by omega); cases hF)) <;> go_step) | (refine wplB _ (V.eql rfl rfl) (by kernel_rfl) (fun hB => ?_) (fun hB => ?_) <;> (try (have hF : False := (absurd hB (by decide)); cases hF)) <;> go_step))
        | ((with_reducible show wpList _ _ _ (⟨some 108, .binOp .eql 29 _ _ _, _, _, _, _⟩ :: _) _ _); first | (refine wplD _ (V.eql rfl rfl) (by kernel_rfl) (fun hB => ?_) (fun hB => ?_) <;> (try (have hF : False := (by omega); cases hF)) <;> go_step) | (refine wplB _ (V.eql rfl rfl) (by kernel_rfl) (fun hB => ?_) (fun hB => ?_) <;> (try (have hF : False := (absurd hB (by decide)); cases hF)) <;> go_step))
        | ((with_reducible show wpList _ _ _ (⟨_, .binOp .lss _ _ _ _, _, _, _, _⟩ :: _) _ _); first | (refine wplV _ (V.lss rfl rfl) (by kernel_rfl) ?_; go_step))
        | ((with_reducible show wpList _ _ _ (⟨some 88, .indexAddr 23 _ _, _, _, _, _⟩ :: _) _ _); first | (refine wplV _ (V.indexSl Try.underlying23 isz3 rfl rfl (by (repeat (first | exact IsN.auto | with_reducible apply IsN.add | with_reducible apply IsN.sub | with_reducible apply IsN.mul | with_reducible apply IsN.div | with_reducible apply IsN.mod | with_reducible apply IsN.min | with_reducible apply IsN.max | (with_reducible show (_ : Nat) ≤ _; omega) | exact IsN.toNat (by omega)))) (by omega) (Nat.mul_one _) (by first | with_reducible exact Nat.zero_add _ | with_reducible exact Nat.add_zero _ | exact rfl)) (by kernel_rfl) ?_; go_step) | (refine wpl_indexI (by with_reducible assumption) Try.underlying23 isz3 rfl rfl (by (repeat (first | exact IsN.auto | with_reducible apply IsN.add | with_reducible apply IsN.sub | with_reducible apply IsN.mul | with_reducible apply IsN.div | with_reducible apply IsN.mod | with_reducible apply IsN.min | with_reducible apply IsN.max | (with_reducible show (_ : Nat) ≤ _; omega) | exact IsN.toNat (by omega)))) (by omega) rfl ?_; intro b88 o88 hc88; go_step) | (refine wpl_indexW (by with_reducible assumption) Try.underlying23 isz3 rfl rfl (by (repeat (first | exact IsN.auto | with_reducible apply IsN.add | with_reducible apply IsN.sub | with_reducible apply IsN.mul | with_reducible apply IsN.div | with_reducible apply IsN.mod | with_reducible apply IsN.min | with_reducible apply IsN.max | (with_reducible show (_ : Nat) ≤ _; omega) | exact IsN.toNat (by omega)))) (by omega) rfl ?_; intro b88 o88 hc88; go_step) | (refine wpl_indexO hS rfl (by (repeat (first | with_reducible exact Pull.head | apply Pull.tail))) Try.underlying23 isz3 rfl (by (repeat (first | exact IsN.auto | with_reducible apply IsN.add | with_reducible apply IsN.sub | with_reducible apply IsN.mul | with_reducible apply IsN.div | with_reducible apply IsN.mod | with_reducible apply IsN.min | with_reducible apply IsN.max | (with_reducible show (_ : Nat) ≤ _; omega) | exact IsN.toNat (by omega)))) (by omega) (Nat.mul_one _) rfl ?_; (first | (rintro b88 rfl) | (intro b88 hb88; cases hb88)); go_step))
        | ((with_reducible show wpList _ _ _ (⟨_, .binOp .add _ _ _ _, _, _, _, _⟩ :: _) _ _); first | (refine wplV _ (V.addI rfl rfl (by omega)) (by kernel_rfl) ?_; go_step) | (refine wplV _ (V.addR (by decide) rfl rfl) (by kernel_rfl) ?_; go_step))
        | ((with_reducible show wpList _ _ _ (⟨_, .extract _ _, _, _, _, _⟩ :: _) _ _); first | (refine wplV _ (V.extract rfl rfl) (by kernel_rfl) ?_; go_step))
        | ((with_reducible show wpList _ _ _ (⟨_, .store 3 _ _, _, _, _, _⟩ :: _) _ _); first | (refine wpl (by kernel_rfl) ?_; apply wp_store1A hS 3 _ _ rfl _ _ rfl (one_of rfl) _ _; (case hp => (repeat (first | with_reducible exact Pull.head | apply Pull.tail))); (case hy => rfl); (case hi => omega); (case hd => exact rfl); clear hS; intro w hS) | (refine wpl (by kernel_rfl) ?_; apply wp_store1 hS 3 _ _ rfl _ _ rfl (one_of rfl) _ _; (case hp => (repeat (first | with_reducible exact Pull.head | apply Pull.tail))); (case hy => (first | exact IsV.int rfl | exact IsV.bool rfl | exact IsV.slice rfl | exact IsV.pointer rfl | exact IsV.string rfl | exact IsV.map rfl | exact IsV.func rfl)); (case hv => rfl); (case hc => (repeat (first | with_reducible exact SetAt.head | apply SetAt.tail))); (case hd => exact rfl); clear hS; intro w hS) | (refine wpl (by kernel_rfl) ?_; apply wp_store1OI hS 3 _ _ rfl _ _ rfl (one_of rfl) _ _ _ _ _; (case hp => (repeat (first | with_reducible exact Pull.head | apply Pull.tail))); (case hy => rfl); (case hi => omega); (case hd => exact rfl); clear hS; intro w hS) | (refine wpl (by kernel_rfl) ?_; apply wp_store1P hS 3 _ _ rfl _ _ rfl (one_of rfl) _ _; (case hp => (repeat (first | with_reducible exact Pull.head | apply Pull.tail))); (case hy => rfl); (case hi => (repeat (first | (apply PutI.head; (case hn => (first | (with_reducible assumption) | exact Len.rep | exact Len.set (by with_reducible assumption) | exact Len.set Len.rep | exact Len.set (Len.set Len.rep))); (case h => omega)) | (apply PutI.skipI; (case hn => (first | (with_reducible assumption) | exact Len.rep | exact Len.set (by with_reducible assumption) | exact Len.set Len.rep | exact Len.set (Len.set Len.rep))); (case h => omega); (case ho => rfl)) | apply PutI.skipV))); (case hd => exact rfl); clear hS; intro w hS) | (refine wpl (by kernel_rfl) ?_; apply wp_storeVP hS 3 _ _ rfl _ _ rfl (one_of rfl) _ _; (case hp => (repeat (first | with_reducible exact Pull.head | apply Pull.tail))); (case hy => (first | exact IsV.int rfl | exact IsV.bool rfl | exact IsV.slice rfl | exact IsV.pointer rfl | exact IsV.string rfl | exact IsV.map rfl | exact IsV.func rfl)); (case hz => rfl); (case hi => (repeat (first | exact PutV.head | (apply PutV.skipI; (case hn => (first | (with_reducible assumption) | exact Len.rep | exact Len.set (by with_reducible assumption) | exact Len.set Len.rep | exact Len.set (Len.set Len.rep))); (case h => omega); (case ho => rfl)) | apply PutV.skipV))); (case hd => exact rfl); clear hS; intro w hS) | (refine wpl (by kernel_rfl) ?_; apply wp_store1O hS 3 _ _ rfl _ _ rfl (one_of rfl) _ _ _ _ _; (case hp => (repeat (first | with_reducible exact Pull.head | apply Pull.tail))); (case hy => (first | exact IsV.int rfl | exact IsV.bool rfl | exact IsV.slice rfl | exact IsV.pointer rfl | exact IsV.string rfl | exact IsV.map rfl | exact IsV.func rfl)); (case hv => rfl); (case hi => omega); (case hd => exact rfl); clear hS; intro w hS))
        | ((fail_if_success (with_reducible show wpList _ _ _ (_ :: _) _ _)); go_step))
      all_goals (try (have hF : False := (by omega); cases hF))
      all_goals (go_ret; first | exact ⟨rfl, hS.1⟩ | exact ⟨ret_bool (decide_eq_true (by omega)), hS.1⟩ | exact ⟨ret_bool (by simp), hS.1⟩)
end Go.Proofs.Ytccgcefeenloiaa
