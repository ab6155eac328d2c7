/- The law BitsBack: its walk, and the statement. -/
import Derived.Test.YtgnpppcljpjkjaaBitsKeep
import Derived.Test.YtgnpppcljpjkjaaBitsRd
import Derived.Test.YtgnpppcljpjkjaaFields
import Derived.Test.YtgnpppcljpjkjaaEqInt
namespace Go.Proofs.Ytgnpppcljpjkjaa
open Go.ChangeShapes Go.WideShapes Go.ChangeAt Go.RowKit
set_option linter.unusedVariables false
def fW (ns : List Int) (n : Nat) : List Int := tab n fun i => nth ns (2 * i)
def fV (ns : List Int) (n : Nat) : List Int := tab n fun i => nth ns (2 * i + 1)
theorem tab_drop (F : Nat → Int) (n k : Nat) (h : k < n) : (tab n F).drop k = F k :: (tab n F).drop (k + 1) := by
  rw [List.drop_eq_getElem_cons (by rw [tab_len]; exact h)]
  simp [tab]
theorem tab_snoc (F : Nat → Int) (n : Nat) : tab (n + 1) F = tab n F ++ [F n] := by simp [tab, List.range_succ]
theorem fBits_pre (ns : List Int) (n : Nat) : ∀ k, k ≤ n → ∃ r, fBits ns n = fBits ns k ++ r := by
  induction n with
  | zero => exact fun k hk => ⟨[], by rw [show k = 0 by omega]; rfl⟩
  | succ n ih =>
    intro k hk
    by_cases h : k = n + 1
    · subst h; exact ⟨[], by simp⟩
    · obtain ⟨r, hr⟩ := ih k (by omega)
      exact ⟨r ++ bitsOf (nth ns (2 * n)).toNat (nth ns (2 * n + 1)).toNat, by rw [fBits, hr, List.append_assoc]⟩
theorem back_at (ns : List Int) (n k : Nat) (hk : k < n) (hok : fOk ns k = true) : numAt (bytesOf (fBits ns n)) (fBits ns k).length (nth ns (2 * k)).toNat = (nth ns (2 * k + 1)).toNat ∧
    (fBits ns (k + 1)).length = (fBits ns k).length + (nth ns (2 * k)).toNat := by
  simp only [fOk, Bool.and_eq_true, decide_eq_true_eq] at hok
  obtain ⟨r, hr⟩ := fBits_pre ns n (k + 1) (by omega)
  refine ⟨?_, by rw [fBits, List.length_append, bitsOf_len]⟩
  unfold numAt
  rw [unpack_bytesOf, hr, fBits, List.append_assoc, List.append_assoc, List.drop_left' rfl, List.take_append_of_le_length (by rw [bitsOf_len]; omega), List.take_of_length_le (by rw [bitsOf_len]; omega)]
  refine num_bitsOf_lt _ _ ?_
  have h1 := hok.2
  have h2 : ((nth ns (2 * k + 1)).toNat : Int) < ((2 ^ (nth ns (2 * k)).toNat : Nat) : Int) := by push_cast; omega
  omega
theorem back_all (ns : List Int) (n : Nat) (hok : ∀ i, i < n → fOk ns i = true) (N : Nat) (hN : (fBits ns n).length ≤ N) : ∀ m k, k + m = n →
    rdE N ((fW ns n).drop k) (fBits ns k).length = 0 ∧ rdV (bytesOf (fBits ns n)) ((fW ns n).drop k) (fBits ns k).length = (fV ns n).drop k ∧ rdT ((fW ns n).drop k) (fBits ns k).length = (fBits ns n).length := by
  intro m
  induction m with
  | zero =>
    intro k hk
    obtain rfl : k = n := by omega
    have h1 : (fW ns k).drop k = [] := by rw [List.drop_eq_nil_iff, fW, tab_len]; omega
    have h2 : (fV ns k).drop k = [] := by rw [List.drop_eq_nil_iff, fV, tab_len]; omega
    rw [h1, h2]; exact ⟨rfl, rfl, rfl⟩
  | succ m ih =>
    intro k hk
    obtain ⟨i1, i2, i3⟩ := ih (k + 1) (by omega)
    obtain ⟨b1, b2⟩ := back_at ns n k (by omega) (hok k (by omega))
    obtain ⟨r, hr⟩ := fBits_pre ns n (k + 1) (by omega)
    have hlen : (fBits ns n).length = (fBits ns (k + 1)).length + r.length := by rw [hr, List.length_append]
    have ho := hok k (by omega)
    simp only [fOk, Bool.and_eq_true, decide_eq_true_eq] at ho
    have hw : okW (nth ns (2 * k)) = true := by unfold okW; simp; omega
    unfold fW at *
    unfold fV at *
    rw [tab_drop (fun i => nth ns (2 * i)) n k (by omega), tab_drop (fun i => nth ns (2 * i + 1)) n k (by omega)]
    simp only [rdE, rdV, rdT, hw, if_true]
    rw [← b2, if_neg (by omega), b1]
    refine ⟨i1, ?_, i3⟩
    rw [i2]
    congr 1
    omega
theorem back_spec (ns : List Int) (n : Nat) (h : wErr ns n = 0) : readE (wBytes ns n).length (fW ns n) = 0 ∧ rdV (wBytes ns n) (fW ns n) 0 = fV ns n ∧ rdT (fW ns n) 0 = (fBits ns n).length ∧ (wBytes ns n).length = ((fBits ns n).length + 7) / 8 ∧ n ≤ 20000 ∧ (fBits ns n).length ≤ 24 * n := by
  obtain ⟨hn, hok⟩ := fsOk_of ns n h
  have hB : wBytes ns n = bytesOf (fBits ns n) := by rw [wBytes, if_pos h]
  have hlen : (wBytes ns n).length = ((fBits ns n).length + 7) / 8 := by rw [hB, bytesOf_len]
  obtain ⟨h1, h2, h3⟩ := back_all ns n hok (8 * (wBytes ns n).length) (by omega) n 0 (by omega)
  rw [List.drop_zero] at h1 h2 h3
  refine ⟨?_, ?_, h3, hlen, hn, fBits_len ns n hok⟩
  · rw [readE, if_neg (by rw [fW, tab_len]; omega)]; exact h1
  · rw [hB]; exact h2
theorem readOk_any (w0 : World) (ad ad2 : Option Addr) (n c n2 c2 : Nat) (l : List Nat) (ws vs : List Int) (T : Nat) (hv : Sl w0 1 (.slice ad n c) n (l.map fun (x : Nat) => Value.int .u8 (x : Int))) (hl : ∀ x ∈ l, x < 256) (hn : n ≤ 1000000000000000000)
    (hv2 : Sl w0 1 (.slice ad2 n2 c2) n2 (ws.map (Value.int .i64))) (hn2 : n2 ≤ 9223372036854775807) (hE : readE n ws = 0) (hV : rdV l ws 0 = vs) (hT : rdT ws 0 = T) :
    Calls Try.prog 28 #[.slice ad n c, .slice ad2 n2 c2] w0 fun e w => ∃ ad c, e = .returned (.tuple #[.slice ad n2 c, .int .i64 (T : Nat), .int .i64 0]) ∧ St w0 w [own 3 1 ad n2 c (vs.map (Value.int .i64))] :=
  (read_any w0 ad ad2 n c n2 c2 l ws hv hl hn hv2 hn2).mono fun e w ⟨ad3, c3, h1, h2⟩ => by
    have hwl : ws.length = n2 := by have := hv2.1; simpa using this
    rw [if_pos hE, if_pos hE, hE, hwl, hT] at h1
    rw [if_pos hE, if_pos hE, hwl, hV] at h2
    exact ⟨ad3, c3, h1, h2⟩
set_option maxRecDepth 100000 in
set_option maxHeartbeats 4000000 in
theorem BitsBack_walk {H : Type} {enc : TypeId × Value → H} {d0 : DataW H} {p0 : List MemPlace} {v0 : Value} {base : Nat} (W : World)
    (o0 : Value.okWide Try.prog W .any base 46 v0) (h0 : DataW.Trod enc Try.prog W 0 (fun _ => true) true 46 v0 d0 p0) (lt0 : ∀ x ∈ p0, x.block < W.heap.size)
    :
    Calls Try.prog 13 #[v0] W fun e w' => e = .returned (.bool true) ∧ Ext W w' := by
  obtain ⟨n, ns, hl, hv, hw⟩ := op_fields o0 h0
  clear o0 h0 lt0
  obtain ⟨ad, c, rfl, hnc, hcm⟩ : ∃ ad c, v0 = .slice ad n c ∧ n ≤ c ∧ c ≤ 9223372036854775807 := by
    obtain ⟨_, ad, c, h1, h2, h3, _⟩ := hv
    exact ⟨ad, c, h1, h2, by unfold maxLen at h3; exact h3⟩
  have HW := hid hw
  have HL := hid hl
  clear hw hl
  have hS := St.start W
  by_cases he : wErr ns n = 0
  case neg =>
    have HE := hid he
    clear he
    go_enter Try.func13, Try.ntmps13
    repeat' (first
      | ((with_reducible show wpList _ _ _ (⟨_, .call ⟨.value (.func 26), _, _⟩, _, _, _, _⟩ :: _) _ _); refine wpl_call (f := 26) Try.call26 rfl ?_; refine ⟨_, (written_any _), ?_⟩; rintro e w ⟨rfl, hE⟩; replace hS := hS.ext hE; clear hE; refine ⟨_, rfl, ?_⟩; refine put_move ?_; go_step)
      | ((with_reducible show wpList _ _ _ (⟨_, .call ⟨.value (.func 27), _, _⟩, _, _, _, _⟩ :: _) _ _); refine wpl_call (f := 27) Try.call27 rfl ?_; refine ⟨_, (write_any _ _ n ns (hv.ext hS.1) HW.out), ?_⟩; rintro e w ⟨ad2, c2, rfl, hS2⟩; obtain ⟨E, hE⟩ : ∃ E, wErr ns n = E := ⟨_, rfl⟩; have hE0 : E ≠ 0 := (by rw [← hE]; exact HE.out); have hB : wBytes ns n = [] := (by rw [wBytes, if_neg HE.out]); rw [hE, hB]; clear hE hB; replace hS := hS.ext hS2.1; clear hS2; refine ⟨_, rfl, ?_⟩; refine put_move ?_; go_step)
      | go_skip
      | go_big_skip
      | ((with_reducible show wpList _ _ _ (⟨_, .move _, _, _, _, _⟩ :: _) _ _); (first | go_big_want | go_step); go_step)
      | ((with_reducible show wpList _ _ _ (⟨_, .assign _, _, _, _, _⟩ :: _) _ _); (first | go_big_want | go_step); go_step)
      | ((with_reducible show wpList _ _ _ (⟨_, .pick _ _ _, _, _, _, _⟩ :: _) _ _); first | (refine wplPickT rfl (by kernel_rfl) ?_; go_step) | (refine wplPickF rfl (by kernel_rfl) ?_; go_step))
      | ((with_reducible show wpList _ _ _ (⟨_, .unOp .not _ _, _, _, _, _⟩ :: _) _ _); first | (refine wplV _ (V.notD rfl) (by kernel_rfl) ?_; go_step) | (refine wplV _ (V.not rfl) (by kernel_rfl) ?_; go_step))
      | ((with_reducible show wpList _ _ _ (⟨_, .extract _ _, _, _, _, _⟩ :: _) _ _); first | (refine wplV _ (V.extract rfl rfl) (by kernel_rfl) ?_; go_step))
      | ((with_reducible show wpList _ _ _ (⟨_, .binOp .neq 25 _ _ _, _, _, _, _⟩ :: _) _ _); first | (refine wplV _ (V.neq rfl rfl) (by kernel_rfl) ?_; go_step))
      | ((with_reducible show wpList _ _ _ (⟨_, .call ⟨.builtin .len, _, _⟩, _, _, _, _⟩ :: _) _ _); first | (refine wplV _ (V.len Try.underlying47 rfl) (by kernel_rfl) ?_; go_step))
      | ((with_reducible show wpList _ _ _ (⟨_, .binOp .eql 3 _ _ _, _, _, _, _⟩ :: _) _ _); first | (refine wplV _ (V.eql rfl rfl) (by kernel_rfl) ?_; go_step))
      | ((fail_if_success (with_reducible show wpList _ _ _ (_ :: _) _ _)); go_step))
    all_goals (go_ret; exact ⟨rfl, hS.1⟩)
  obtain ⟨e1, e2, e3, e4, e5, e6⟩ := back_spec ns n he
  obtain ⟨B, hB⟩ : ∃ B, wBytes ns n = B := ⟨_, rfl⟩
  have hBlt : ∀ x ∈ B, x < 256 := by rw [← hB, wBytes, if_pos he]; exact bytesOf_lt _
  obtain ⟨T, hT⟩ : ∃ T, (fBits ns n).length = T := ⟨_, rfl⟩
  rw [hB] at e1 e2 e4
  rw [hT] at e3 e4 e6
  obtain ⟨m, hm⟩ : ∃ m, B.length = m := ⟨_, rfl⟩
  rw [hm] at e1 e4
  have E1 := hid e1
  have E2 := hid e2
  have E3 := hid e3
  have HB := hid hB
  have HBlt := hid hBlt
  have HT := hid hT
  have HM := hid hm
  have HE := hid he
  clear e1 e2 e3 hB hBlt hT hm he
  go_enter Try.func13, Try.ntmps13
  repeat' (first
    | ((with_reducible show wpList _ _ _ (⟨_, .call ⟨.value (.func 26), _, _⟩, _, _, _, _⟩ :: _) _ _); refine wpl_call (f := 26) Try.call26 rfl ?_; refine ⟨_, (written_any _), ?_⟩; rintro e w ⟨rfl, hE⟩; replace hS := hS.ext hE; clear hE; refine ⟨_, rfl, ?_⟩; refine put_move ?_; go_step)
    | ((with_reducible show wpList _ _ _ (⟨_, .call ⟨.value (.func 27), _, _⟩, _, _, _, _⟩ :: _) _ _); refine wpl_call (f := 27) Try.call27 rfl ?_; refine ⟨_, (write_any _ _ n ns (hv.ext hS.1) HW.out), ?_⟩; rintro e w ⟨ad2, c2, rfl, hS2⟩; rw [HB.out, HM.out] at hS2; rw [HE.out, HB.out, HM.out]; replace hS := hS.call1 hS2; clear hS2; refine ⟨_, rfl, ?_⟩; refine put_move ?_; go_step)
    | go_skip
    | go_big_skip
    | ((with_reducible show wpList _ _ _ (⟨_, .move _, _, _, _, _⟩ :: _) _ _); (first | go_big_want | go_step); go_step)
    | ((with_reducible show wpList _ _ _ (⟨_, .assign _, _, _, _, _⟩ :: _) _ _); (first | go_big_want | go_step); go_step)
    | ((with_reducible show wpList _ _ _ (⟨_, .pick _ _ _, _, _, _, _⟩ :: _) _ _); first | (refine wplPickT rfl (by kernel_rfl) ?_; go_step) | (refine wplPickF rfl (by kernel_rfl) ?_; go_step))
    | ((with_reducible show wpList _ _ _ (⟨_, .unOp .not _ _, _, _, _, _⟩ :: _) _ _); first | (refine wplV _ (V.notD rfl) (by kernel_rfl) ?_; go_step) | (refine wplV _ (V.not rfl) (by kernel_rfl) ?_; go_step))
    | ((with_reducible show wpList _ _ _ (⟨_, .extract _ _, _, _, _, _⟩ :: _) _ _); first | (refine wplV _ (V.extract rfl rfl) (by kernel_rfl) ?_; go_step))
    | ((with_reducible show wpList _ _ _ (⟨_, .binOp .neq 25 _ _ _, _, _, _, _⟩ :: _) _ _); first | (refine wplV _ (V.neq rfl rfl) (by kernel_rfl) ?_; go_step))
    | ((with_reducible show wpList _ _ _ (⟨_, .call ⟨.builtin .len, _, _⟩, _, _, _, _⟩ :: _) _ _); first | (refine wplV _ (V.len Try.underlying47 rfl) (by kernel_rfl) ?_; go_step))
    | ((with_reducible show wpList _ _ _ (⟨_, .binOp .eql 3 _ _ _, _, _, _, _⟩ :: _) _ _); first | (refine wplV _ (V.eql rfl rfl) (by kernel_rfl) ?_; go_step))
    | ((with_reducible show wpList _ _ _ (⟨_, .call ⟨.builtin .len, _, _⟩, _, _, _, _⟩ :: _) _ _); first | (refine wplV _ (V.len Try.underlying46 rfl) (by kernel_rfl) ?_; go_step))
    | ((fail_if_success (with_reducible show wpList _ _ _ (_ :: _) _ _)); go_step))
  replace hS := (hS.nilk 3 1 .i64).nilk 3 1 .i64
  go_loopg [5, 6, 7, 27] n (fun gk av bv2 mv kv w => ∃ (k t : Nat) (a1 a2 : Option Addr) (k1 k2 : Nat), gk + k = n ∧ kv = .int .i64 k ∧ av = .slice a1 k k1 ∧ bv2 = .slice a2 k k2 ∧ mv = .int .i64 t ∧ t = (fBits ns k).length ∧ St W w [own 3 1 a1 k k1 ((fW ns k).map (Value.int .i64)), own 3 1 a2 k k2 ((fV ns k).map (Value.int .i64)), own 5 1 ad2 m c2 (bv B)])
  case atStart => exact ⟨0, 0, none, none, 0, 0, rfl, rfl, rfl, rfl, rfl, rfl, by rw [show fW ns 0 = [] from rfl, show fV ns 0 = [] from rfl]; exact hS.sub (by (repeat (first | exact Sub.nil | with_reducible exact Sub.refl | (refine Sub.cons (by (repeat (first | with_reducible exact Pull.head | apply Pull.tail))) ?_) | apply Sub.skip)))⟩
  case round =>
    clear hS
    obtain ⟨k, t, a1, a2, k1, k2, hk, rfl, rfl, rfl, rfl, ht, hS⟩ := hrel
    have HTk := hid ht
    clear ht
    by_cases hlt : k < n
    · obtain ⟨b, off, rfl, hr⟩ := field_at HL.out hv k hlt
      have hok := (fsOk_of ns n HE.out).2 k hlt
      have hbk := fBits_len ns k fun i hi => (fsOk_of ns n HE.out).2 i (by omega)
      have hb2 := (back_at ns n k hlt hok).2
      simp only [fOk, Bool.and_eq_true, decide_eq_true_eq] at hok
      have t24 : t ≤ 24 * n := by rw [HTk.out]; omega
      have HFW := hid (show fW ns (k + 1) = fW ns k ++ [nth ns (2 * k)] from tab_snoc _ _)
      have HFV := hid (show fV ns (k + 1) = fV ns k ++ [nth ns (2 * k + 1)] from tab_snoc _ _)
      have HB2 := hid hb2
      obtain ⟨x, hx⟩ : ∃ x, nth ns (2 * k) = x := ⟨_, rfl⟩
      obtain ⟨y, hy⟩ : ∃ y, nth ns (2 * k + 1) = y := ⟨_, rfl⟩
      rw [hx, hy] at hr
      rw [hx] at HFW HB2
      rw [hy] at HFV
      have hx24 : 0 ≤ x ∧ x ≤ 24 := by rw [← hx]; omega
      clear hx hy hok hbk hb2
      repeat' (first
        | go_skip
        | go_big_skip
        | ((with_reducible show wpList _ _ _ (⟨_, .move _, _, _, _, _⟩ :: _) _ _); (first | go_big_want | go_step); go_step)
        | ((with_reducible show wpList _ _ _ (⟨_, .assign _, _, _, _, _⟩ :: _) _ _); (first | go_big_want | go_step); go_step)
        | ((with_reducible show wpList _ _ _ (⟨_, .pick _ _ _, _, _, _, _⟩ :: _) _ _); first | (refine wplPickT rfl (by kernel_rfl) ?_; go_step) | (refine wplPickF rfl (by kernel_rfl) ?_; go_step))
        | ((with_reducible show wpList _ _ _ (⟨_, .binOp .lss _ _ _ _, _, _, _, _⟩ :: _) _ _); first | (refine wplV _ (V.lss rfl rfl) (by kernel_rfl) ?_; go_step))
        | ((with_reducible show wpList _ _ _ (⟨some 29, .indexAddr 46 _ _, _, _, _, _⟩ :: _) _ _); first | (refine wplV _ (V.indexSl Try.underlying46 isz51 rfl rfl (by (repeat (first | exact IsN.auto | with_reducible apply IsN.add | with_reducible apply IsN.sub | with_reducible apply IsN.mul | with_reducible apply IsN.div | with_reducible apply IsN.mod | with_reducible apply IsN.min | with_reducible apply IsN.max | (with_reducible show (_ : Nat) ≤ _; omega) | exact IsN.toNat (by omega)))) (by omega) rfl (by first | with_reducible exact Nat.zero_add _ | with_reducible exact Nat.add_zero _ | exact rfl)) (by kernel_rfl) ?_; go_step) | (refine wpl_indexS (by with_reducible assumption) Try.underlying46 isz51 rfl rfl (by (repeat (first | exact IsN.auto | with_reducible apply IsN.add | with_reducible apply IsN.sub | with_reducible apply IsN.mul | with_reducible apply IsN.div | with_reducible apply IsN.mod | with_reducible apply IsN.min | with_reducible apply IsN.max | (with_reducible show (_ : Nat) ≤ _; omega) | exact IsN.toNat (by omega)))) (by omega) rfl ?_; intro b29 o29 hl29 hc29; go_step) | (refine wpl_indexW (by with_reducible assumption) Try.underlying46 isz51 rfl rfl (by (repeat (first | exact IsN.auto | with_reducible apply IsN.add | with_reducible apply IsN.sub | with_reducible apply IsN.mul | with_reducible apply IsN.div | with_reducible apply IsN.mod | with_reducible apply IsN.min | with_reducible apply IsN.max | (with_reducible show (_ : Nat) ≤ _; omega) | exact IsN.toNat (by omega)))) (by omega) rfl ?_; intro b29 o29 hc29; go_step) | (refine wpl_indexO hS rfl (by (repeat (first | with_reducible exact Pull.head | apply Pull.tail))) Try.underlying46 isz51 rfl (by (repeat (first | exact IsN.auto | with_reducible apply IsN.add | with_reducible apply IsN.sub | with_reducible apply IsN.mul | with_reducible apply IsN.div | with_reducible apply IsN.mod | with_reducible apply IsN.min | with_reducible apply IsN.max | (with_reducible show (_ : Nat) ≤ _; omega) | exact IsN.toNat (by omega)))) (by omega) rfl rfl ?_; (first | (rintro b29 rfl) | (intro b29 hb29; cases hb29)); go_step))
        | ((with_reducible show wpList _ _ _ (⟨_, .load 51 _, _, _, _, _⟩ :: _) _ _); first | (refine wpl (by kernel_rfl) ?_; apply wp_loadRI hS 51 _ rfl _ _ rfl 2 (row_of rfl) _; (case hl => with_reducible assumption); (case hr => with_reducible assumption); refine put_move ?_; go_step) | (refine wpl (by kernel_rfl) ?_; apply wp_loadRO hS 51 _ rfl _ _ rfl 2 (row_of rfl) _ _ _ _ _; (case hp => (repeat (first | with_reducible exact Pull.head | apply Pull.tail))); (case hi => omega); refine put_move ?_; go_step) | (refine wpl (by kernel_rfl) ?_; apply wp_loadA hS 51 _ rfl _ rfl 2 (row_of rfl) _; (case hp => (repeat (first | with_reducible exact Pull.head | apply Pull.tail))); refine put_move ?_; go_step) | (refine wpl (by kernel_rfl) ?_; apply wp_loadG hS 51 _ rfl _ rfl 2 (row_of rfl) _; (case hp => (repeat (first | with_reducible exact Pull.head | apply Pull.tail))); (case hn => rfl); refine put_move ?_; go_step) | (refine wpl (by kernel_rfl) ?_; apply wp_loadRW hS 51 _ rfl _ _ rfl 2 (row_of rfl) _; (case hc => with_reducible assumption); (case hn => rfl); refine put_move ?_; go_step))
        | ((with_reducible show wpList _ _ _ (⟨some 9, .alloc 51, _, _, _, _⟩ :: _) _ _); first | (refine wpl (by kernel_rfl) ?_; apply wp_alloc (o := ⟨some 9, _, _, _, _, _⟩) hS 51 rfl (.agg #[.int .i64 0, .int .i64 0]) [.int .i64 0, .int .i64 0] (fun w => Try.zeroValue51 w) rfl; clear hS; intro g9 w hS; refine put_move ?_; go_step))
        | ((with_reducible show wpList _ _ _ (⟨_, .store 51 _ _, _, _, _, _⟩ :: _) _ _); first | (refine wpl (by kernel_rfl) ?_; apply wp_storeA hS 51 _ _ rfl _ rfl 2 (row_of rfl) _ _; (case hp => (repeat (first | with_reducible exact Pull.head | apply Pull.tail))); (case hy => rfl); (case hm => (repeat (first | assumption | exact Len.rep | apply Len.set))); (case hd => exact rfl); clear hS; intro w hS) | (refine wpl (by kernel_rfl) ?_; apply wp_storeG hS 51 _ _ rfl _ rfl 2 (row_of rfl) _ _; (case hp => (repeat (first | with_reducible exact Pull.head | apply Pull.tail))); (case hy => rfl); (case hn => rfl); (case hn' => rfl); (case hv => rfl); (case hd => exact rfl); clear hS; intro w hS))
        | ((fail_if_success (with_reducible show wpList _ _ _ (_ :: _) _ _)); go_step))
      refine drawn_lit [9] (fun w => St W w [blk g9 [.int .i64 x, .int .i64 y]]) (by kernel_rfl) ?_
      replace hS := hS.drew
      focus
        refine takeM 0 _ (by (repeat (first | with_reducible exact AtL.head | apply AtL.tail))) (by kernel_rfl) (by kernel_rfl) (by kernel_rfl) (by exact fun _ _ _ _ h => h) rfl ?_
        go_step
        first | (refine takeV 1 _ (by (repeat (first | with_reducible exact AtL.head | apply AtL.tail))) (by kernel_rfl) (by kernel_rfl) (by kernel_rfl) (by exact fun _ _ _ _ h => h) (V.fieldAddr fo51_0 rfl (by first | with_reducible exact Nat.zero_add _ | with_reducible exact Nat.add_zero _ | exact rfl)) rfl ?_)
        go_step
        apply takeS 2 (by (repeat (first | with_reducible exact AtL.head | apply AtL.tail))) (by kernel_rfl) (by kernel_rfl) (by kernel_rfl) (by exact fun _ _ _ _ h => h) [3, 4, 9, 10, 11] (by kernel_rfl) (hS.sub (by (repeat (first | exact Sub.nil | with_reducible exact Sub.refl | (refine Sub.cons (by (repeat (first | with_reducible exact Pull.head | apply Pull.tail))) ?_) | apply Sub.skip))))
        case hfr => intro w hS; (first | (refine wpl (by kernel_rfl) ?_; apply wp_load1A hS 3 _ rfl _ _ rfl (one_of rfl) _ _; (case hp => (repeat (first | with_reducible exact Pull.head | apply Pull.tail))); (case hi => omega); refine put_move ?_; go_step) | (refine wpl (by kernel_rfl) ?_; apply wp_load1OI hS 3 _ rfl _ _ rfl (one_of rfl) _ _ _ _ _; (case hp => (repeat (first | with_reducible exact Pull.head | apply Pull.tail))); (case hi => omega); refine put_move ?_; go_step) | (refine wpl (by kernel_rfl) ?_; apply wp_load1 hS 3 _ rfl _ _ rfl (one_of rfl) _; (case hp => (repeat (first | with_reducible exact Pull.head | apply Pull.tail))); (case hc => rfl); refine put_move ?_; go_step) | (refine wpl (by kernel_rfl) ?_; apply wp_load1O hS 3 _ rfl _ _ rfl (one_of rfl) _ _ _ _ _; (case hp => (repeat (first | with_reducible exact Pull.head | apply Pull.tail))); (case hv => with_reducible assumption); refine put_move ?_; go_step) | (refine wpl (by kernel_rfl) ?_; apply wp_loadW hS 3 _ rfl _ rfl (one_of rfl) _; (case hc => with_reducible assumption); refine put_move ?_; go_step) | (refine wpl (by kernel_rfl) ?_; apply wp_load1R hS 3 _ rfl _ _ _ rfl (one_of rfl) _ _; (case hl => with_reducible assumption); (case hr => with_reducible assumption); (case hf => omega); refine put_move ?_; go_step) | (refine wpl (by kernel_rfl) ?_; apply wp_load1R0 hS 3 _ rfl _ _ rfl (one_of rfl) _ _; (case hl => with_reducible assumption); (case hr => with_reducible assumption); (case hf => omega); refine put_move ?_; go_step)); refine wpList_nil ?_; exact ⟨rfl, rfl⟩
        case hd => rfl
        refine takeM 5 _ (by (repeat (first | with_reducible exact AtL.head | apply AtL.tail))) (by kernel_rfl) (by kernel_rfl) (by kernel_rfl) (by exact fun _ _ _ _ h => h) rfl ?_
        go_step
        first | (refine takeV 6 _ (by (repeat (first | with_reducible exact AtL.head | apply AtL.tail))) (by kernel_rfl) (by kernel_rfl) (by kernel_rfl) (by exact fun _ _ _ _ h => h) (V.fieldAddr fo51_1 rfl (by first | with_reducible exact Nat.zero_add _ | with_reducible exact Nat.add_zero _ | exact rfl)) rfl ?_)
        go_step
        apply takeS 7 (by (repeat (first | with_reducible exact AtL.head | apply AtL.tail))) (by kernel_rfl) (by kernel_rfl) (by kernel_rfl) (by exact fun _ _ _ _ h => h) [8, 9, 10, 11] (by kernel_rfl) (hS.sub (by (repeat (first | exact Sub.nil | with_reducible exact Sub.refl | (refine Sub.cons (by (repeat (first | with_reducible exact Pull.head | apply Pull.tail))) ?_) | apply Sub.skip))))
        case hfr => intro w hS; (first | (refine wpl (by kernel_rfl) ?_; apply wp_load1A hS 3 _ rfl _ _ rfl (one_of rfl) _ _; (case hp => (repeat (first | with_reducible exact Pull.head | apply Pull.tail))); (case hi => omega); refine put_move ?_; go_step) | (refine wpl (by kernel_rfl) ?_; apply wp_load1OI hS 3 _ rfl _ _ rfl (one_of rfl) _ _ _ _ _; (case hp => (repeat (first | with_reducible exact Pull.head | apply Pull.tail))); (case hi => omega); refine put_move ?_; go_step) | (refine wpl (by kernel_rfl) ?_; apply wp_load1 hS 3 _ rfl _ _ rfl (one_of rfl) _; (case hp => (repeat (first | with_reducible exact Pull.head | apply Pull.tail))); (case hc => rfl); refine put_move ?_; go_step) | (refine wpl (by kernel_rfl) ?_; apply wp_load1O hS 3 _ rfl _ _ rfl (one_of rfl) _ _ _ _ _; (case hp => (repeat (first | with_reducible exact Pull.head | apply Pull.tail))); (case hv => with_reducible assumption); refine put_move ?_; go_step) | (refine wpl (by kernel_rfl) ?_; apply wp_loadW hS 3 _ rfl _ rfl (one_of rfl) _; (case hc => with_reducible assumption); refine put_move ?_; go_step) | (refine wpl (by kernel_rfl) ?_; apply wp_load1R hS 3 _ rfl _ _ _ rfl (one_of rfl) _ _; (case hl => with_reducible assumption); (case hr => with_reducible assumption); (case hf => omega); refine put_move ?_; go_step) | (refine wpl (by kernel_rfl) ?_; apply wp_load1R0 hS 3 _ rfl _ _ rfl (one_of rfl) _ _; (case hl => with_reducible assumption); (case hr => with_reducible assumption); (case hf => omega); refine put_move ?_; go_step)); refine wpList_nil ?_; exact ⟨rfl, rfl⟩
        case hd => rfl
        refine branch [3, 8] (by kernel_rfl) (by simp) (.cons (by (repeat (first | with_reducible exact AtL.head | apply AtL.tail))) rfl ?_ (.cons (by (repeat (first | with_reducible exact AtL.head | apply AtL.tail))) rfl ?_ (.nil)))
        rotate_left 1
        focus
          first | (refine wp_buildSlice1 (o := ⟨some 39, _, _, _, _, _⟩) hS 24 1 _ rfl 3 1 8 el24 _ _ (by (repeat (first | exact Parts.nil | (apply Parts.agg; (rfl); (rfl)) | (apply Parts.one; (first | exact IsV.int rfl | exact IsV.bool rfl | exact IsV.slice rfl | exact IsV.pointer rfl | exact IsV.string rfl | exact IsV.map rfl | exact IsV.func rfl); (rfl); (rfl))))) (by rfl) (by decide) (by decide) ?_; clear hS; intro g39 w hS)
          refine ⟨fun _ _ => hS.sub (by (repeat (first | exact Sub.nil | with_reducible exact Sub.refl | (refine Sub.cons (by (repeat (first | with_reducible exact Pull.head | apply Pull.tail))) ?_) | apply Sub.skip))), ?_⟩
          refine drawn_move ?_
          go_step
          refine branch1 3 (by (repeat (first | with_reducible exact AtL.head | apply AtL.tail))) rfl (by kernel_rfl) ?_
          first | (refine wp_buildSlice1 (o := ⟨some 34, _, _, _, _, _⟩) hS 24 1 _ rfl 3 1 8 el24 _ _ (by (repeat (first | exact Parts.nil | (apply Parts.agg; (rfl); (rfl)) | (apply Parts.one; (first | exact IsV.int rfl | exact IsV.bool rfl | exact IsV.slice rfl | exact IsV.pointer rfl | exact IsV.string rfl | exact IsV.map rfl | exact IsV.func rfl); (rfl); (rfl))))) (by rfl) (by decide) (by decide) ?_; clear hS; intro g34 w hS)
          refine ⟨fun _ _ => hS.sub (by (repeat (first | exact Sub.nil | with_reducible exact Sub.refl | (refine Sub.cons (by (repeat (first | with_reducible exact Pull.head | apply Pull.tail))) ?_) | apply Sub.skip))), ?_⟩
          refine drawn_move ?_
          go_step
          refine branch1 4 (by (repeat (first | with_reducible exact AtL.head | apply AtL.tail))) rfl (by kernel_rfl) ?_
          first | (refine wp_append (o := ⟨some 35, _, _, _, _, _⟩) hS _ _ 24 rfl 3 1 8 el24 _ _ _ _ rfl (by (repeat (first | with_reducible exact Pull.head | apply Pull.tail))) _ rfl _ _ (by (first | exact hS.slBlk (by (repeat (first | with_reducible exact Pull.head | apply Pull.tail))) (by rfl) (by decide) | exact hS.sl (by (repeat (first | with_reducible exact Pull.head | apply Pull.tail))) | with_reducible assumption | exact Sl.ext (by with_reducible assumption) hS.1 | exact Sl.nil _ _)) (by (first | exact oneAll rfl | exact oneMap _ _ | (intro u hu; cases hu))) (by unfold maxLen; omega) (by omega) ?_; clear hS; intro ad35 c35 w hS; (first | simp only [mapk1] at hS | simp only [mapk2] at hS | simp only [mapk3] at hS | simp only [mapkl] at hS | skip)) | (refine wp_append (o := ⟨some 35, _, _, _, _, _⟩) (hS.nilk 3 1 .i64) _ _ 24 rfl 3 1 8 el24 _ _ _ _ rfl (by (repeat (first | with_reducible exact Pull.head | apply Pull.tail))) _ rfl _ _ (by (first | exact hS.slBlk (by (repeat (first | with_reducible exact Pull.head | apply Pull.tail))) (by rfl) (by decide) | exact hS.sl (by (repeat (first | with_reducible exact Pull.head | apply Pull.tail))) | with_reducible assumption | exact Sl.ext (by with_reducible assumption) hS.1 | exact Sl.nil _ _)) (by (first | exact oneAll rfl | exact oneMap _ _ | (intro u hu; cases hu))) (by unfold maxLen; omega) (by omega) ?_; clear hS; intro ad35 c35 w hS; (first | simp only [mapk1] at hS | simp only [mapk2] at hS | simp only [mapk3] at hS | simp only [mapkl] at hS | skip))
          refine ⟨fun _ _ => hS.sub (by (repeat (first | exact Sub.nil | with_reducible exact Sub.refl | (refine Sub.cons (by (repeat (first | with_reducible exact Pull.head | apply Pull.tail))) ?_) | apply Sub.skip))), ?_⟩
          refine drawn_move ?_
          go_step
          refine branch1 9 (by (repeat (first | with_reducible exact AtL.head | apply AtL.tail))) rfl (by kernel_rfl) ?_
          first | (refine wp_append (o := ⟨some 40, _, _, _, _, _⟩) hS _ _ 24 rfl 3 1 8 el24 _ _ _ _ rfl (by (repeat (first | with_reducible exact Pull.head | apply Pull.tail))) _ rfl _ _ (by (first | exact hS.slBlk (by (repeat (first | with_reducible exact Pull.head | apply Pull.tail))) (by rfl) (by decide) | exact hS.sl (by (repeat (first | with_reducible exact Pull.head | apply Pull.tail))) | with_reducible assumption | exact Sl.ext (by with_reducible assumption) hS.1 | exact Sl.nil _ _)) (by (first | exact oneAll rfl | exact oneMap _ _ | (intro u hu; cases hu))) (by unfold maxLen; omega) (by omega) ?_; clear hS; intro ad40 c40 w hS; (first | simp only [mapk1] at hS | simp only [mapk2] at hS | simp only [mapk3] at hS | simp only [mapkl] at hS | skip)) | (refine wp_append (o := ⟨some 40, _, _, _, _, _⟩) (hS.nilk 3 1 .i64) _ _ 24 rfl 3 1 8 el24 _ _ _ _ rfl (by (repeat (first | with_reducible exact Pull.head | apply Pull.tail))) _ rfl _ _ (by (first | exact hS.slBlk (by (repeat (first | with_reducible exact Pull.head | apply Pull.tail))) (by rfl) (by decide) | exact hS.sl (by (repeat (first | with_reducible exact Pull.head | apply Pull.tail))) | with_reducible assumption | exact Sl.ext (by with_reducible assumption) hS.1 | exact Sl.nil _ _)) (by (first | exact oneAll rfl | exact oneMap _ _ | (intro u hu; cases hu))) (by unfold maxLen; omega) (by omega) ?_; clear hS; intro ad40 c40 w hS; (first | simp only [mapk1] at hS | simp only [mapk2] at hS | simp only [mapk3] at hS | simp only [mapkl] at hS | skip))
          refine ⟨fun h => absurd (by decide) h, ?_⟩
          refine drawn_move ?_
          go_step
          refine takeA 10 _ (by (repeat (first | with_reducible exact AtL.head | apply AtL.tail))) (by kernel_rfl) (by kernel_rfl) (by kernel_rfl) (by exact fun _ _ _ _ h => h) rfl ?_
          go_step
          refine takeA 11 _ (by (repeat (first | with_reducible exact AtL.head | apply AtL.tail))) (by kernel_rfl) (by kernel_rfl) (by kernel_rfl) (by exact fun _ _ _ _ h => h) rfl ?_
          go_step
          refine drawn_done (by kernel_rfl) ?_ _
        rotate_right 1
        focus
          first | (refine wp_buildSlice1 (o := ⟨some 34, _, _, _, _, _⟩) hS 24 1 _ rfl 3 1 8 el24 _ _ (by (repeat (first | exact Parts.nil | (apply Parts.agg; (rfl); (rfl)) | (apply Parts.one; (first | exact IsV.int rfl | exact IsV.bool rfl | exact IsV.slice rfl | exact IsV.pointer rfl | exact IsV.string rfl | exact IsV.map rfl | exact IsV.func rfl); (rfl); (rfl))))) (by rfl) (by decide) (by decide) ?_; clear hS; intro g34 w hS)
          refine ⟨fun _ _ => hS.sub (by (repeat (first | exact Sub.nil | with_reducible exact Sub.refl | (refine Sub.cons (by (repeat (first | with_reducible exact Pull.head | apply Pull.tail))) ?_) | apply Sub.skip))), ?_⟩
          refine drawn_move ?_
          go_step
          refine branch [4, 8] (by kernel_rfl) (by simp) (.cons (by (repeat (first | with_reducible exact AtL.head | apply AtL.tail))) rfl ?_ (.cons (by (repeat (first | with_reducible exact AtL.head | apply AtL.tail))) rfl ?_ (.nil)))
          rotate_left 1
          focus
            first | (refine wp_buildSlice1 (o := ⟨some 39, _, _, _, _, _⟩) hS 24 1 _ rfl 3 1 8 el24 _ _ (by (repeat (first | exact Parts.nil | (apply Parts.agg; (rfl); (rfl)) | (apply Parts.one; (first | exact IsV.int rfl | exact IsV.bool rfl | exact IsV.slice rfl | exact IsV.pointer rfl | exact IsV.string rfl | exact IsV.map rfl | exact IsV.func rfl); (rfl); (rfl))))) (by rfl) (by decide) (by decide) ?_; clear hS; intro g39 w hS)
            refine ⟨fun _ _ => hS.sub (by (repeat (first | exact Sub.nil | with_reducible exact Sub.refl | (refine Sub.cons (by (repeat (first | with_reducible exact Pull.head | apply Pull.tail))) ?_) | apply Sub.skip))), ?_⟩
            refine drawn_move ?_
            go_step
            refine branch1 4 (by (repeat (first | with_reducible exact AtL.head | apply AtL.tail))) rfl (by kernel_rfl) ?_
            first | (refine wp_append (o := ⟨some 35, _, _, _, _, _⟩) hS _ _ 24 rfl 3 1 8 el24 _ _ _ _ rfl (by (repeat (first | with_reducible exact Pull.head | apply Pull.tail))) _ rfl _ _ (by (first | exact hS.slBlk (by (repeat (first | with_reducible exact Pull.head | apply Pull.tail))) (by rfl) (by decide) | exact hS.sl (by (repeat (first | with_reducible exact Pull.head | apply Pull.tail))) | with_reducible assumption | exact Sl.ext (by with_reducible assumption) hS.1 | exact Sl.nil _ _)) (by (first | exact oneAll rfl | exact oneMap _ _ | (intro u hu; cases hu))) (by unfold maxLen; omega) (by omega) ?_; clear hS; intro ad35 c35 w hS; (first | simp only [mapk1] at hS | simp only [mapk2] at hS | simp only [mapk3] at hS | simp only [mapkl] at hS | skip)) | (refine wp_append (o := ⟨some 35, _, _, _, _, _⟩) (hS.nilk 3 1 .i64) _ _ 24 rfl 3 1 8 el24 _ _ _ _ rfl (by (repeat (first | with_reducible exact Pull.head | apply Pull.tail))) _ rfl _ _ (by (first | exact hS.slBlk (by (repeat (first | with_reducible exact Pull.head | apply Pull.tail))) (by rfl) (by decide) | exact hS.sl (by (repeat (first | with_reducible exact Pull.head | apply Pull.tail))) | with_reducible assumption | exact Sl.ext (by with_reducible assumption) hS.1 | exact Sl.nil _ _)) (by (first | exact oneAll rfl | exact oneMap _ _ | (intro u hu; cases hu))) (by unfold maxLen; omega) (by omega) ?_; clear hS; intro ad35 c35 w hS; (first | simp only [mapk1] at hS | simp only [mapk2] at hS | simp only [mapk3] at hS | simp only [mapkl] at hS | skip))
            refine ⟨fun _ _ => hS.sub (by (repeat (first | exact Sub.nil | with_reducible exact Sub.refl | (refine Sub.cons (by (repeat (first | with_reducible exact Pull.head | apply Pull.tail))) ?_) | apply Sub.skip))), ?_⟩
            refine drawn_move ?_
            go_step
            refine branch1 9 (by (repeat (first | with_reducible exact AtL.head | apply AtL.tail))) rfl (by kernel_rfl) ?_
            first | (refine wp_append (o := ⟨some 40, _, _, _, _, _⟩) hS _ _ 24 rfl 3 1 8 el24 _ _ _ _ rfl (by (repeat (first | with_reducible exact Pull.head | apply Pull.tail))) _ rfl _ _ (by (first | exact hS.slBlk (by (repeat (first | with_reducible exact Pull.head | apply Pull.tail))) (by rfl) (by decide) | exact hS.sl (by (repeat (first | with_reducible exact Pull.head | apply Pull.tail))) | with_reducible assumption | exact Sl.ext (by with_reducible assumption) hS.1 | exact Sl.nil _ _)) (by (first | exact oneAll rfl | exact oneMap _ _ | (intro u hu; cases hu))) (by unfold maxLen; omega) (by omega) ?_; clear hS; intro ad40 c40 w hS; (first | simp only [mapk1] at hS | simp only [mapk2] at hS | simp only [mapk3] at hS | simp only [mapkl] at hS | skip)) | (refine wp_append (o := ⟨some 40, _, _, _, _, _⟩) (hS.nilk 3 1 .i64) _ _ 24 rfl 3 1 8 el24 _ _ _ _ rfl (by (repeat (first | with_reducible exact Pull.head | apply Pull.tail))) _ rfl _ _ (by (first | exact hS.slBlk (by (repeat (first | with_reducible exact Pull.head | apply Pull.tail))) (by rfl) (by decide) | exact hS.sl (by (repeat (first | with_reducible exact Pull.head | apply Pull.tail))) | with_reducible assumption | exact Sl.ext (by with_reducible assumption) hS.1 | exact Sl.nil _ _)) (by (first | exact oneAll rfl | exact oneMap _ _ | (intro u hu; cases hu))) (by unfold maxLen; omega) (by omega) ?_; clear hS; intro ad40 c40 w hS; (first | simp only [mapk1] at hS | simp only [mapk2] at hS | simp only [mapk3] at hS | simp only [mapkl] at hS | skip))
            refine ⟨fun h => absurd (by decide) h, ?_⟩
            refine drawn_move ?_
            go_step
            refine takeA 10 _ (by (repeat (first | with_reducible exact AtL.head | apply AtL.tail))) (by kernel_rfl) (by kernel_rfl) (by kernel_rfl) (by exact fun _ _ _ _ h => h) rfl ?_
            go_step
            refine takeA 11 _ (by (repeat (first | with_reducible exact AtL.head | apply AtL.tail))) (by kernel_rfl) (by kernel_rfl) (by kernel_rfl) (by exact fun _ _ _ _ h => h) rfl ?_
            go_step
            refine drawn_done (by kernel_rfl) ?_ _
          rotate_right 1
          focus
            first | (refine wp_append (o := ⟨some 35, _, _, _, _, _⟩) hS _ _ 24 rfl 3 1 8 el24 _ _ _ _ rfl (by (repeat (first | with_reducible exact Pull.head | apply Pull.tail))) _ rfl _ _ (by (first | exact hS.slBlk (by (repeat (first | with_reducible exact Pull.head | apply Pull.tail))) (by rfl) (by decide) | exact hS.sl (by (repeat (first | with_reducible exact Pull.head | apply Pull.tail))) | with_reducible assumption | exact Sl.ext (by with_reducible assumption) hS.1 | exact Sl.nil _ _)) (by (first | exact oneAll rfl | exact oneMap _ _ | (intro u hu; cases hu))) (by unfold maxLen; omega) (by omega) ?_; clear hS; intro ad35 c35 w hS; (first | simp only [mapk1] at hS | simp only [mapk2] at hS | simp only [mapk3] at hS | simp only [mapkl] at hS | skip)) | (refine wp_append (o := ⟨some 35, _, _, _, _, _⟩) (hS.nilk 3 1 .i64) _ _ 24 rfl 3 1 8 el24 _ _ _ _ rfl (by (repeat (first | with_reducible exact Pull.head | apply Pull.tail))) _ rfl _ _ (by (first | exact hS.slBlk (by (repeat (first | with_reducible exact Pull.head | apply Pull.tail))) (by rfl) (by decide) | exact hS.sl (by (repeat (first | with_reducible exact Pull.head | apply Pull.tail))) | with_reducible assumption | exact Sl.ext (by with_reducible assumption) hS.1 | exact Sl.nil _ _)) (by (first | exact oneAll rfl | exact oneMap _ _ | (intro u hu; cases hu))) (by unfold maxLen; omega) (by omega) ?_; clear hS; intro ad35 c35 w hS; (first | simp only [mapk1] at hS | simp only [mapk2] at hS | simp only [mapk3] at hS | simp only [mapkl] at hS | skip))
            refine ⟨fun _ _ => hS.sub (by (repeat (first | exact Sub.nil | with_reducible exact Sub.refl | (refine Sub.cons (by (repeat (first | with_reducible exact Pull.head | apply Pull.tail))) ?_) | apply Sub.skip))), ?_⟩
            refine drawn_move ?_
            go_step
            refine branch1 8 (by (repeat (first | with_reducible exact AtL.head | apply AtL.tail))) rfl (by kernel_rfl) ?_
            first | (refine wp_buildSlice1 (o := ⟨some 39, _, _, _, _, _⟩) hS 24 1 _ rfl 3 1 8 el24 _ _ (by (repeat (first | exact Parts.nil | (apply Parts.agg; (rfl); (rfl)) | (apply Parts.one; (first | exact IsV.int rfl | exact IsV.bool rfl | exact IsV.slice rfl | exact IsV.pointer rfl | exact IsV.string rfl | exact IsV.map rfl | exact IsV.func rfl); (rfl); (rfl))))) (by rfl) (by decide) (by decide) ?_; clear hS; intro g39 w hS)
            refine ⟨fun _ _ => hS.sub (by (repeat (first | exact Sub.nil | with_reducible exact Sub.refl | (refine Sub.cons (by (repeat (first | with_reducible exact Pull.head | apply Pull.tail))) ?_) | apply Sub.skip))), ?_⟩
            refine drawn_move ?_
            go_step
            refine branch1 9 (by (repeat (first | with_reducible exact AtL.head | apply AtL.tail))) rfl (by kernel_rfl) ?_
            first | (refine wp_append (o := ⟨some 40, _, _, _, _, _⟩) hS _ _ 24 rfl 3 1 8 el24 _ _ _ _ rfl (by (repeat (first | with_reducible exact Pull.head | apply Pull.tail))) _ rfl _ _ (by (first | exact hS.slBlk (by (repeat (first | with_reducible exact Pull.head | apply Pull.tail))) (by rfl) (by decide) | exact hS.sl (by (repeat (first | with_reducible exact Pull.head | apply Pull.tail))) | with_reducible assumption | exact Sl.ext (by with_reducible assumption) hS.1 | exact Sl.nil _ _)) (by (first | exact oneAll rfl | exact oneMap _ _ | (intro u hu; cases hu))) (by unfold maxLen; omega) (by omega) ?_; clear hS; intro ad40 c40 w hS; (first | simp only [mapk1] at hS | simp only [mapk2] at hS | simp only [mapk3] at hS | simp only [mapkl] at hS | skip)) | (refine wp_append (o := ⟨some 40, _, _, _, _, _⟩) (hS.nilk 3 1 .i64) _ _ 24 rfl 3 1 8 el24 _ _ _ _ rfl (by (repeat (first | with_reducible exact Pull.head | apply Pull.tail))) _ rfl _ _ (by (first | exact hS.slBlk (by (repeat (first | with_reducible exact Pull.head | apply Pull.tail))) (by rfl) (by decide) | exact hS.sl (by (repeat (first | with_reducible exact Pull.head | apply Pull.tail))) | with_reducible assumption | exact Sl.ext (by with_reducible assumption) hS.1 | exact Sl.nil _ _)) (by (first | exact oneAll rfl | exact oneMap _ _ | (intro u hu; cases hu))) (by unfold maxLen; omega) (by omega) ?_; clear hS; intro ad40 c40 w hS; (first | simp only [mapk1] at hS | simp only [mapk2] at hS | simp only [mapk3] at hS | simp only [mapkl] at hS | skip))
            refine ⟨fun h => absurd (by decide) h, ?_⟩
            refine drawn_move ?_
            go_step
            refine takeA 10 _ (by (repeat (first | with_reducible exact AtL.head | apply AtL.tail))) (by kernel_rfl) (by kernel_rfl) (by kernel_rfl) (by exact fun _ _ _ _ h => h) rfl ?_
            go_step
            refine takeA 11 _ (by (repeat (first | with_reducible exact AtL.head | apply AtL.tail))) (by kernel_rfl) (by kernel_rfl) (by kernel_rfl) (by exact fun _ _ _ _ h => h) rfl ?_
            go_step
            refine drawn_done (by kernel_rfl) ?_ _
      all_goals
        repeat' (first
          | go_skip
          | go_big_skip
          | ((with_reducible show wpList _ _ _ (⟨_, .move _, _, _, _, _⟩ :: _) _ _); (first | go_big_want | go_step); go_step)
          | ((with_reducible show wpList _ _ _ (⟨_, .assign _, _, _, _, _⟩ :: _) _ _); (first | go_big_want | go_step); go_step)
          | ((with_reducible show wpList _ _ _ (⟨_, .pick _ _ _, _, _, _, _⟩ :: _) _ _); first | (refine wplPickT rfl (by kernel_rfl) ?_; go_step) | (refine wplPickF rfl (by kernel_rfl) ?_; go_step))
          | ((with_reducible show wpList _ _ _ (⟨_, .fieldAddr 51 _ 0, _, _, _, _⟩ :: _) _ _); first | (refine wplV _ (V.fieldAddr fo51_0 rfl (by first | with_reducible exact Nat.zero_add _ | with_reducible exact Nat.add_zero _ | exact rfl)) (by kernel_rfl) ?_; go_step))
          | ((with_reducible show wpList _ _ _ (⟨_, .binOp .add _ _ _ _, _, _, _, _⟩ :: _) _ _); first | (refine wplV _ (V.addI rfl rfl (by omega)) (by kernel_rfl) ?_; go_step) | (refine wplV _ (V.addR (by decide) rfl rfl) (by kernel_rfl) ?_; go_step))
          | ((with_reducible show wpList _ _ _ (⟨_, .load 3 _, _, _, _, _⟩ :: _) _ _); first | (refine wpl (by kernel_rfl) ?_; apply wp_load1A hS 3 _ rfl _ _ rfl (one_of rfl) _ _; (case hp => (repeat (first | with_reducible exact Pull.head | apply Pull.tail))); (case hi => omega); refine put_move ?_; go_step) | (refine wpl (by kernel_rfl) ?_; apply wp_load1OI hS 3 _ rfl _ _ rfl (one_of rfl) _ _ _ _ _; (case hp => (repeat (first | with_reducible exact Pull.head | apply Pull.tail))); (case hi => omega); refine put_move ?_; go_step) | (refine wpl (by kernel_rfl) ?_; apply wp_load1 hS 3 _ rfl _ _ rfl (one_of rfl) _; (case hp => (repeat (first | with_reducible exact Pull.head | apply Pull.tail))); (case hc => rfl); refine put_move ?_; go_step) | (refine wpl (by kernel_rfl) ?_; apply wp_load1O hS 3 _ rfl _ _ rfl (one_of rfl) _ _ _ _ _; (case hp => (repeat (first | with_reducible exact Pull.head | apply Pull.tail))); (case hv => with_reducible assumption); refine put_move ?_; go_step) | (refine wpl (by kernel_rfl) ?_; apply wp_loadW hS 3 _ rfl _ rfl (one_of rfl) _; (case hc => with_reducible assumption); refine put_move ?_; go_step) | (refine wpl (by kernel_rfl) ?_; apply wp_load1R hS 3 _ rfl _ _ _ rfl (one_of rfl) _ _; (case hl => with_reducible assumption); (case hr => with_reducible assumption); (case hf => omega); refine put_move ?_; go_step) | (refine wpl (by kernel_rfl) ?_; apply wp_load1R0 hS 3 _ rfl _ _ rfl (one_of rfl) _ _; (case hl => with_reducible assumption); (case hr => with_reducible assumption); (case hf => omega); refine put_move ?_; go_step))
          | ((fail_if_success (with_reducible show wpList _ _ _ (_ :: _) _ _)); go_step))
        go_roundg (gk - 1)
        case measure => omega
        case rel =>
          obtain ⟨x', rfl⟩ : ∃ x' : Nat, x = (x' : Int) := ⟨x.toNat, by omega⟩
          refine ⟨k + 1, t + x', _, _, _, _, by omega, by go_num, rfl, rfl, by go_num, by rw [HB2.out, HTk.out]; rfl, ?_⟩
          rw [HFW.out, HFV.out]
          exact hS.sub (by (repeat (first | exact Sub.nil | with_reducible exact Sub.refl | (refine Sub.cons (by (repeat (first | with_reducible exact Pull.head | apply Pull.tail))) ?_) | apply Sub.skip)))
    · obtain rfl : k = n := by omega
      have hT2 : t = T := HTk.out.trans HT.out
      subst hT2
      repeat' (first
        | ((with_reducible show wpList _ _ _ (⟨_, .call ⟨.value (.func 28), _, _⟩, _, _, _, _⟩ :: _) _ _); refine wpl_call (f := 28) Try.call28 rfl ?_; refine ⟨_, (readOk_any _ ad2 a1 m c2 k k1 B (fW ns k) (fV ns k) t (show Sl _ 1 _ m (bv B) from hS.sl (by (repeat (first | with_reducible exact Pull.head | apply Pull.tail)))) HBlt.out (by omega) (hS.sl (by (repeat (first | with_reducible exact Pull.head | apply Pull.tail)))) (by omega) E1.out E2.out E3.out), ?_⟩; rintro e w ⟨ad5, c5, rfl, hS2⟩; replace hS := hS.call1 hS2; clear hS2; refine ⟨_, rfl, ?_⟩; refine put_move ?_; go_step)
        | ((with_reducible show wpList _ _ _ (⟨_, .call ⟨.value (.func 29), _, _⟩, _, _, _, _⟩ :: _) _ _); refine wpl_call (f := 29) Try.call29 rfl ?_; refine ⟨_, (eqInt_any _ _ _ (fV ns k) (fV ns k) (by have := hS.sl (a := ad5) (e := 3) (s := 1) (by (repeat (first | with_reducible exact Pull.head | apply Pull.tail))); unfold ISl; rw [fV, tab_len]; exact this) (by have := hS.sl (a := a2) (e := 3) (s := 1) (by (repeat (first | with_reducible exact Pull.head | apply Pull.tail))); unfold ISl; rw [fV, tab_len]; exact this)), ?_⟩; rintro e w' ⟨rfl, rfl⟩; refine ⟨_, rfl, ?_⟩; refine put_move ?_; go_step)
        | go_skip
        | go_big_skip
        | ((with_reducible show wpList _ _ _ (⟨_, .move _, _, _, _, _⟩ :: _) _ _); (first | go_big_want | go_step); go_step)
        | ((with_reducible show wpList _ _ _ (⟨_, .assign _, _, _, _, _⟩ :: _) _ _); (first | go_big_want | go_step); go_step)
        | ((with_reducible show wpList _ _ _ (⟨_, .pick _ _ _, _, _, _, _⟩ :: _) _ _); first | (refine wplPickT rfl (by kernel_rfl) ?_; go_step) | (refine wplPickF rfl (by kernel_rfl) ?_; go_step))
        | ((with_reducible show wpList _ _ _ (⟨some 54, .binOp .eql 25 _ _ _, _, _, _, _⟩ :: _) _ _); first | (refine wplD _ (V.eql rfl rfl) (by kernel_rfl) (fun hB => ?_) (fun hB => ?_) <;> (try (have hF : False := (by omega); cases hF)) <;> go_step) | (refine wplB _ (V.eql rfl rfl) (by kernel_rfl) (fun hB => ?_) (fun hB => ?_) <;> go_step))
        | ((with_reducible show wpList _ _ _ (⟨some 63, .binOp .eql 3 _ _ _, _, _, _, _⟩ :: _) _ _); first | (refine wplD _ (V.eql rfl rfl) (by kernel_rfl) (fun hB => ?_) (fun hB => ?_) <;> (try (have hF : False := (by omega); cases hF)) <;> go_step) | (refine wplB _ (V.eql rfl rfl) (by kernel_rfl) (fun hB => ?_) (fun hB => ?_) <;> go_step))
        | ((with_reducible show wpList _ _ _ (⟨_, .binOp .lss _ _ _ _, _, _, _, _⟩ :: _) _ _); first | (refine wplV _ (V.lss rfl rfl) (by kernel_rfl) ?_; go_step))
        | ((with_reducible show wpList _ _ _ (⟨some 29, .indexAddr 46 _ _, _, _, _, _⟩ :: _) _ _); first | (refine wplV _ (V.indexSl Try.underlying46 isz51 rfl rfl (by (repeat (first | exact IsN.auto | with_reducible apply IsN.add | with_reducible apply IsN.sub | with_reducible apply IsN.mul | with_reducible apply IsN.div | with_reducible apply IsN.mod | with_reducible apply IsN.min | with_reducible apply IsN.max | (with_reducible show (_ : Nat) ≤ _; omega) | exact IsN.toNat (by omega)))) (by omega) rfl (by first | with_reducible exact Nat.zero_add _ | with_reducible exact Nat.add_zero _ | exact rfl)) (by kernel_rfl) ?_; go_step) | (refine wpl_indexS (by with_reducible assumption) Try.underlying46 isz51 rfl rfl (by (repeat (first | exact IsN.auto | with_reducible apply IsN.add | with_reducible apply IsN.sub | with_reducible apply IsN.mul | with_reducible apply IsN.div | with_reducible apply IsN.mod | with_reducible apply IsN.min | with_reducible apply IsN.max | (with_reducible show (_ : Nat) ≤ _; omega) | exact IsN.toNat (by omega)))) (by omega) rfl ?_; intro b29 o29 hl29 hc29; go_step) | (refine wpl_indexW (by with_reducible assumption) Try.underlying46 isz51 rfl rfl (by (repeat (first | exact IsN.auto | with_reducible apply IsN.add | with_reducible apply IsN.sub | with_reducible apply IsN.mul | with_reducible apply IsN.div | with_reducible apply IsN.mod | with_reducible apply IsN.min | with_reducible apply IsN.max | (with_reducible show (_ : Nat) ≤ _; omega) | exact IsN.toNat (by omega)))) (by omega) rfl ?_; intro b29 o29 hc29; go_step) | (refine wpl_indexO hS rfl (by (repeat (first | with_reducible exact Pull.head | apply Pull.tail))) Try.underlying46 isz51 rfl (by (repeat (first | exact IsN.auto | with_reducible apply IsN.add | with_reducible apply IsN.sub | with_reducible apply IsN.mul | with_reducible apply IsN.div | with_reducible apply IsN.mod | with_reducible apply IsN.min | with_reducible apply IsN.max | (with_reducible show (_ : Nat) ≤ _; omega) | exact IsN.toNat (by omega)))) (by omega) rfl rfl ?_; (first | (rintro b29 rfl) | (intro b29 hb29; cases hb29)); go_step))
        | ((with_reducible show wpList _ _ _ (⟨_, .fieldAddr 51 _ 0, _, _, _, _⟩ :: _) _ _); first | (refine wplV _ (V.fieldAddr fo51_0 rfl (by first | with_reducible exact Nat.zero_add _ | with_reducible exact Nat.add_zero _ | exact rfl)) (by kernel_rfl) ?_; go_step))
        | ((with_reducible show wpList _ _ _ (⟨_, .fieldAddr 51 _ 1, _, _, _, _⟩ :: _) _ _); first | (refine wplV _ (V.fieldAddr fo51_1 rfl (by first | with_reducible exact Nat.zero_add _ | with_reducible exact Nat.add_zero _ | exact rfl)) (by kernel_rfl) ?_; go_step))
        | ((with_reducible show wpList _ _ _ (⟨_, .binOp .add _ _ _ _, _, _, _, _⟩ :: _) _ _); first | (refine wplV _ (V.addI rfl rfl (by omega)) (by kernel_rfl) ?_; go_step) | (refine wplV _ (V.addR (by decide) rfl rfl) (by kernel_rfl) ?_; go_step))
        | ((with_reducible show wpList _ _ _ (⟨_, .extract _ _, _, _, _, _⟩ :: _) _ _); first | (refine wplV _ (V.extract rfl rfl) (by kernel_rfl) ?_; go_step))
        | ((with_reducible show wpList _ _ _ (⟨_, .call ⟨.builtin .len, _, _⟩, _, _, _, _⟩ :: _) _ _); first | (refine wplV _ (V.len Try.underlying47 rfl) (by kernel_rfl) ?_; go_step))
        | ((with_reducible show wpList _ _ _ (⟨_, .binOp .quo _ _ _ _, _, _, _, _⟩ :: _) _ _); first | (refine wplV _ (V.quo rfl rfl (by omega) (by omega)) (by kernel_rfl) ?_; go_step) | (refine wplV _ (V.quoT rfl rfl (by omega)) (by kernel_rfl) ?_; go_step))
        | ((with_reducible show wpList _ _ _ (⟨_, .binOp .eql 3 _ _ _, _, _, _, _⟩ :: _) _ _); first | (refine wplV _ (V.eql rfl rfl) (by kernel_rfl) ?_; go_step))
        | ((with_reducible show wpList _ _ _ (⟨_, .load 51 _, _, _, _, _⟩ :: _) _ _); first | (refine wpl (by kernel_rfl) ?_; apply wp_loadRI hS 51 _ rfl _ _ rfl 2 (row_of rfl) _; (case hl => with_reducible assumption); (case hr => with_reducible assumption); refine put_move ?_; go_step) | (refine wpl (by kernel_rfl) ?_; apply wp_loadRO hS 51 _ rfl _ _ rfl 2 (row_of rfl) _ _ _ _ _; (case hp => (repeat (first | with_reducible exact Pull.head | apply Pull.tail))); (case hi => omega); refine put_move ?_; go_step) | (refine wpl (by kernel_rfl) ?_; apply wp_loadA hS 51 _ rfl _ rfl 2 (row_of rfl) _; (case hp => (repeat (first | with_reducible exact Pull.head | apply Pull.tail))); refine put_move ?_; go_step) | (refine wpl (by kernel_rfl) ?_; apply wp_loadG hS 51 _ rfl _ rfl 2 (row_of rfl) _; (case hp => (repeat (first | with_reducible exact Pull.head | apply Pull.tail))); (case hn => rfl); refine put_move ?_; go_step) | (refine wpl (by kernel_rfl) ?_; apply wp_loadRW hS 51 _ rfl _ _ rfl 2 (row_of rfl) _; (case hc => with_reducible assumption); (case hn => rfl); refine put_move ?_; go_step))
        | ((with_reducible show wpList _ _ _ (⟨some 9, .alloc 51, _, _, _, _⟩ :: _) _ _); first | (refine wpl (by kernel_rfl) ?_; apply wp_alloc (o := ⟨some 9, _, _, _, _, _⟩) hS 51 rfl (.agg #[.int .i64 0, .int .i64 0]) [.int .i64 0, .int .i64 0] (fun w => Try.zeroValue51 w) rfl; clear hS; intro g9 w hS; refine put_move ?_; go_step))
        | ((with_reducible show wpList _ _ _ (⟨_, .store 51 _ _, _, _, _, _⟩ :: _) _ _); first | (refine wpl (by kernel_rfl) ?_; apply wp_storeA hS 51 _ _ rfl _ rfl 2 (row_of rfl) _ _; (case hp => (repeat (first | with_reducible exact Pull.head | apply Pull.tail))); (case hy => rfl); (case hm => (repeat (first | assumption | exact Len.rep | apply Len.set))); (case hd => exact rfl); clear hS; intro w hS) | (refine wpl (by kernel_rfl) ?_; apply wp_storeG hS 51 _ _ rfl _ rfl 2 (row_of rfl) _ _; (case hp => (repeat (first | with_reducible exact Pull.head | apply Pull.tail))); (case hy => rfl); (case hn => rfl); (case hn' => rfl); (case hv => rfl); (case hd => exact rfl); clear hS; intro w hS))
        | ((with_reducible show wpList _ _ _ (⟨_, .load 3 _, _, _, _, _⟩ :: _) _ _); first | (refine wpl (by kernel_rfl) ?_; apply wp_load1A hS 3 _ rfl _ _ rfl (one_of rfl) _ _; (case hp => (repeat (first | with_reducible exact Pull.head | apply Pull.tail))); (case hi => omega); refine put_move ?_; go_step) | (refine wpl (by kernel_rfl) ?_; apply wp_load1OI hS 3 _ rfl _ _ rfl (one_of rfl) _ _ _ _ _; (case hp => (repeat (first | with_reducible exact Pull.head | apply Pull.tail))); (case hi => omega); refine put_move ?_; go_step) | (refine wpl (by kernel_rfl) ?_; apply wp_load1 hS 3 _ rfl _ _ rfl (one_of rfl) _; (case hp => (repeat (first | with_reducible exact Pull.head | apply Pull.tail))); (case hc => rfl); refine put_move ?_; go_step) | (refine wpl (by kernel_rfl) ?_; apply wp_load1O hS 3 _ rfl _ _ rfl (one_of rfl) _ _ _ _ _; (case hp => (repeat (first | with_reducible exact Pull.head | apply Pull.tail))); (case hv => with_reducible assumption); refine put_move ?_; go_step) | (refine wpl (by kernel_rfl) ?_; apply wp_loadW hS 3 _ rfl _ rfl (one_of rfl) _; (case hc => with_reducible assumption); refine put_move ?_; go_step) | (refine wpl (by kernel_rfl) ?_; apply wp_load1R hS 3 _ rfl _ _ _ rfl (one_of rfl) _ _; (case hl => with_reducible assumption); (case hr => with_reducible assumption); (case hf => omega); refine put_move ?_; go_step) | (refine wpl (by kernel_rfl) ?_; apply wp_load1R0 hS 3 _ rfl _ _ rfl (one_of rfl) _ _; (case hl => with_reducible assumption); (case hr => with_reducible assumption); (case hf => omega); refine put_move ?_; go_step))
        | ((with_reducible show wpList _ _ _ (⟨some 34, .buildSlice 24 _ _, _, _, _, _⟩ :: _) _ _); first | (refine wpl (by kernel_rfl) ?_; apply wp_buildSlice1 (o := ⟨some 34, _, _, _, _, _⟩) hS 24 1 _ rfl 3 1 8 el24 _ _; (case hvs => (repeat (first | exact Parts.nil | (apply Parts.agg; (rfl); (rfl)) | (apply Parts.one; (first | exact IsV.int rfl | exact IsV.bool rfl | exact IsV.slice rfl | exact IsV.pointer rfl | exact IsV.string rfl | exact IsV.map rfl | exact IsV.func rfl); (rfl); (rfl))))); (case hn => rfl); (case hn0 => decide); (case hns => decide); clear hS; intro g34 w hS; refine put_move ?_; go_step))
        | ((with_reducible show wpList _ _ _ (⟨some 35, .call ⟨.builtin .append, _, _⟩, _, _, _, _⟩ :: _) _ _); first | (refine wpl (by kernel_rfl) ?_; apply wp_append (o := ⟨some 35, _, _, _, _, _⟩) hS _ _ 24 rfl 3 1 8 el24 _ _ _ _ rfl; (case hp => (repeat (first | with_reducible exact Pull.head | apply Pull.tail))); (case hx => exact rfl); (case hm => (first | exact hS.slBlk (by (repeat (first | with_reducible exact Pull.head | apply Pull.tail))) (by rfl) (by decide) | exact hS.sl (by (repeat (first | with_reducible exact Pull.head | apply Pull.tail))) | with_reducible assumption | exact Sl.ext (by with_reducible assumption) hS.1 | exact Sl.nil _ _)); (case h1 => (first | exact oneAll rfl | exact oneMap _ _ | (intro u hu; cases hu))); (case h63 => unfold maxLen; omega); (case hb => omega); clear hS; intro ad35 c35 w hS; (first | simp only [mapk1] at hS | simp only [mapk2] at hS | simp only [mapk3] at hS | simp only [mapkl] at hS | skip); refine put_move ?_; go_step) | (refine wpl (by kernel_rfl) ?_; apply wp_append (o := ⟨some 35, _, _, _, _, _⟩) (hS.nilk 3 1 .i64) _ _ 24 rfl 3 1 8 el24 _ _ _ _ rfl; (case hp => (repeat (first | with_reducible exact Pull.head | apply Pull.tail))); (case hx => exact rfl); (case hm => (first | exact hS.slBlk (by (repeat (first | with_reducible exact Pull.head | apply Pull.tail))) (by rfl) (by decide) | exact hS.sl (by (repeat (first | with_reducible exact Pull.head | apply Pull.tail))) | with_reducible assumption | exact Sl.ext (by with_reducible assumption) hS.1 | exact Sl.nil _ _)); (case h1 => (first | exact oneAll rfl | exact oneMap _ _ | (intro u hu; cases hu))); (case h63 => unfold maxLen; omega); (case hb => omega); clear hS; intro ad35 c35 w hS; (first | simp only [mapk1] at hS | simp only [mapk2] at hS | simp only [mapk3] at hS | simp only [mapkl] at hS | skip); refine put_move ?_; go_step))
        | ((with_reducible show wpList _ _ _ (⟨some 39, .buildSlice 24 _ _, _, _, _, _⟩ :: _) _ _); first | (refine wpl (by kernel_rfl) ?_; apply wp_buildSlice1 (o := ⟨some 39, _, _, _, _, _⟩) hS 24 1 _ rfl 3 1 8 el24 _ _; (case hvs => (repeat (first | exact Parts.nil | (apply Parts.agg; (rfl); (rfl)) | (apply Parts.one; (first | exact IsV.int rfl | exact IsV.bool rfl | exact IsV.slice rfl | exact IsV.pointer rfl | exact IsV.string rfl | exact IsV.map rfl | exact IsV.func rfl); (rfl); (rfl))))); (case hn => rfl); (case hn0 => decide); (case hns => decide); clear hS; intro g39 w hS; refine put_move ?_; go_step))
        | ((with_reducible show wpList _ _ _ (⟨some 40, .call ⟨.builtin .append, _, _⟩, _, _, _, _⟩ :: _) _ _); first | (refine wpl (by kernel_rfl) ?_; apply wp_append (o := ⟨some 40, _, _, _, _, _⟩) hS _ _ 24 rfl 3 1 8 el24 _ _ _ _ rfl; (case hp => (repeat (first | with_reducible exact Pull.head | apply Pull.tail))); (case hx => exact rfl); (case hm => (first | exact hS.slBlk (by (repeat (first | with_reducible exact Pull.head | apply Pull.tail))) (by rfl) (by decide) | exact hS.sl (by (repeat (first | with_reducible exact Pull.head | apply Pull.tail))) | with_reducible assumption | exact Sl.ext (by with_reducible assumption) hS.1 | exact Sl.nil _ _)); (case h1 => (first | exact oneAll rfl | exact oneMap _ _ | (intro u hu; cases hu))); (case h63 => unfold maxLen; omega); (case hb => omega); clear hS; intro ad40 c40 w hS; (first | simp only [mapk1] at hS | simp only [mapk2] at hS | simp only [mapk3] at hS | simp only [mapkl] at hS | skip); refine put_move ?_; go_step) | (refine wpl (by kernel_rfl) ?_; apply wp_append (o := ⟨some 40, _, _, _, _, _⟩) (hS.nilk 3 1 .i64) _ _ 24 rfl 3 1 8 el24 _ _ _ _ rfl; (case hp => (repeat (first | with_reducible exact Pull.head | apply Pull.tail))); (case hx => exact rfl); (case hm => (first | exact hS.slBlk (by (repeat (first | with_reducible exact Pull.head | apply Pull.tail))) (by rfl) (by decide) | exact hS.sl (by (repeat (first | with_reducible exact Pull.head | apply Pull.tail))) | with_reducible assumption | exact Sl.ext (by with_reducible assumption) hS.1 | exact Sl.nil _ _)); (case h1 => (first | exact oneAll rfl | exact oneMap _ _ | (intro u hu; cases hu))); (case h63 => unfold maxLen; omega); (case hb => omega); clear hS; intro ad40 c40 w hS; (first | simp only [mapk1] at hS | simp only [mapk2] at hS | simp only [mapk3] at hS | simp only [mapkl] at hS | skip); refine put_move ?_; go_step))
        | ((fail_if_success (with_reducible show wpList _ _ _ (_ :: _) _ _)); go_step))
      all_goals (try (have hF : False := (by omega); cases hF))
      all_goals (try (have hF : False := (hB (by simp)); cases hF))
      all_goals (go_ret; first | exact ⟨ret_bool (decide_eq_true (by omega)), hS.1⟩ | exact ⟨rfl, hS.1⟩)
end Go.Proofs.Ytgnpppcljpjkjaa
