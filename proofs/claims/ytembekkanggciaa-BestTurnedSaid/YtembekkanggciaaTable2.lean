/- The walks of tables: words, Words. -/
import Derived.Test.YtembekkanggciaaTable
namespace Go.Proofs.Ytembekkanggciaa
open Go.RowKit
set_option linter.unusedVariables false
theorem cds_row (c : Nat → Nat) (k j : Nat) : cds c k ++ (List.range (j + 1)).map (fun i => (k + 1, 2 * nx c k + i)) = (cds c k ++ (List.range j).map fun i => (k + 1, 2 * nx c k + i)) ++ [(k + 1, 2 * nx c k + j)] := by
  rw [List.range_succ, List.map_append, List.append_assoc]; rfl
theorem sm_le (c : Nat → Nat) (k : Nat) : ∀ d, sm c k ≤ sm c (k + d)
  | 0 => Nat.le_refl _
  | d + 1 => by have := sm_le c k d; rw [← Nat.add_assoc, sm]; omega
theorem nx_le (c : Nat → Nat) (k : Nat) (hk : k ≤ 16) (h : nx c 16 < 65536) : nx c k < 65536 := by
  have := nx_up c k (16 - k)
  rw [show k + (16 - k) = 16 by omega] at this
  have h2 : nx c k * 1 ≤ nx c k * 2 ^ (16 - k) := Nat.mul_le_mul_left _ (Nat.two_pow_pos _)
  omega
set_option maxRecDepth 100000 in
set_option maxHeartbeats 4000000 in
theorem wordsOf_any (w0 : World) (C S : List Int) (ad : Option Addr) (n c : Nat) (hC : Len C 16) (hv : Sl w0 1 (.slice ad n c) n (S.map (Value.int .i64))) (hn : n ≤ 9223372036854775807) (hok : tabE C S = 0) :
    Calls Try.prog 24 #[tv C (.slice ad n c)] w0 fun e w => ∃ a' c', e = .returned (.slice a' n c') ∧ St w0 w [own 37 3 a' n c' ((wfl (wds C S)).map (Value.int .i64))] := by
  have hSl : S.length = n := by have := hv.1; simpa using this
  obtain ⟨hb, h16, h256, _, _, hroom⟩ := tabE_ok hok
  rw [hSl] at h256 h16
  have hnx := hid ((roomy_iff _).1 hroom)
  have HSl := hid hSl
  have HB := hid hb
  have H16 := hid h16
  clear hSl hb h16 hroom hok
  have hS := St.start w0
  go_enter Try.func24, Try.ntmps24
  repeat' (first
    | ((with_reducible show wpList _ _ _ (⟨_, .move _, _, _, _, _⟩ :: _) _ _); (first | go_big_want | go_step); go_step)
    | ((with_reducible show wpList _ _ _ (⟨_, .assign _, _, _, _, _⟩ :: _) _ _); (first | go_big_want | go_step); go_step)
    | ((with_reducible show wpList _ _ _ (⟨_, .fieldAddr 25 _ 0, _, _, _, _⟩ :: _) _ _); (refine wplV _ (V.fieldAddr fo25_0 rfl (by first | with_reducible exact Nat.zero_add _ | with_reducible exact Nat.add_zero _ | exact rfl)) (by kernel_rfl) ?_; go_step))
    | ((with_reducible show wpList _ _ _ (⟨some 1, .box 25 _, _, _, _, _⟩ :: _) _ _); (refine wpl (by kernel_rfl) ?_; apply wp_boxP (o := ⟨some 1, _, _, _, _, _⟩) hS 25 _ rfl _ rfl; clear hS; intro g1 w hS; refine put_move ?_; go_step))
    | ((with_reducible show wpList _ _ _ (⟨_, .load 22 _, _, _, _, _⟩ :: _) _ _); (refine wpl (by kernel_rfl) ?_; apply wp_loadRP hS 22 _ rfl _ _ rfl 16 (row_of rfl) _; (case hp => (repeat (first | with_reducible exact Pull.head | apply Pull.tail))); (case hi => (repeat (first | (apply AtR.head; (first | (with_reducible assumption) | exact Len.rep | exact Len.set (by with_reducible assumption) | exact Len.set Len.rep | exact Len.set (Len.set Len.rep))) | (apply AtR.skipI; (case hn => (first | (with_reducible assumption) | exact Len.rep | exact Len.set (by with_reducible assumption) | exact Len.set Len.rep | exact Len.set (Len.set Len.rep))); (case h => omega); (case ho => rfl)) | apply AtR.skipV))); refine put_move ?_; go_step))
    | ((fail_if_success (with_reducible show wpList _ _ _ (_ :: _) _ _)); go_step))
  replace hS := hS.nilk 37 3 .i64
  go_loopg [3, 4, 9] 16 (fun gk ov nv kv w => ∃ (k m q : Nat) (a' : Option Addr) (c' : Nat), gk + k = 16 ∧ kv = .int .i64 k ∧ q = nx (cc C) k ∧ nv = .int .i64 q ∧ m = sm (cc C) k ∧ m ≤ n ∧ ov = .slice a' m c' ∧ St w0 w [own 37 3 a' m c' ((wfl (S.zip (cds (cc C) k))).map (Value.int .i64)), prt g1 [.ints C, .val (.slice ad n c)]])
  case atStart => exact ⟨0, 0, 0, none, 0, rfl, rfl, rfl, rfl, rfl, by omega, rfl, by rw [show wfl (S.zip (cds (cc C) 0)) = [] by simp [cds, wfl]]; exact hS.sub (by (repeat (first | exact Sub.nil | with_reducible exact Sub.refl | (apply Sub.cons; (case p => (repeat (first | with_reducible exact Pull.head | apply Pull.tail)))) | apply Sub.skip)))⟩
  case round =>
    clear hS
    obtain ⟨k, m, q, a', c', hk, rfl, hq, rfl, hm, hmn, rfl, hS⟩ := hrel
    by_cases hlt : k < 16
    · have hx := HB.out k hlt
      have hci := cc_int C k hx.1
      have HNx := hid (show nx (cc C) (k + 1) = 2 * nx (cc C) k + cc C k from rfl)
      have HSm := hid (show sm (cc C) (k + 1) = sm (cc C) k + cc C k from rfl)
      have hsl : sm (cc C) (k + 1) ≤ n := by have := sm_le (cc C) (k + 1) (15 - k); rw [show k + 1 + (15 - k) = 16 by omega, H16.out] at this; exact this
      have hnl := nx_le (cc C) (k + 1) (by omega) hnx.out
      have HCd := hid (show cds (cc C) (k + 1) = cds (cc C) k ++ (List.range (cc C k)).map (fun j => (k + 1, 2 * nx (cc C) k + j)) from rfl)
      obtain ⟨y, hy⟩ : ∃ y, cc C k = y := ⟨_, rfl⟩
      rw [hy] at hci HNx HSm HCd
      rw [HSm.out, ← hm] at hsl
      rw [HNx.out, ← hq] at hnl
      have HX := hid hci
      have HQ := hid hq
      have HM := hid hm
      have hy2 : y ≤ 256 := by omega
      clear hci hy hx hq hm
      repeat' (first
        | ((with_reducible show wpList _ _ _ (⟨some 12, _, _, _, _, _⟩ :: _) _ _); refine wplV (.int .i64 ((y : Nat) : Int)) (V.as (V.indexIv Try.underlying22 Try.underlying3 isz3 rfl rfl hC IsN.cast (by omega)) HX.out) (by kernel_rfl) ?_; go_step)
        | ((with_reducible show wpList _ _ _ (⟨some 14, .binOp .shl _ _ _ _, _, _, _, _⟩ :: _) _ _); (refine wplV (.int _ (((2 * q : Nat) : Int))) (V.as (V.shlI rfl rfl (by (repeat (first | exact IsN.auto | with_reducible apply IsN.add | with_reducible apply IsN.sub | with_reducible apply IsN.mul | with_reducible apply IsN.div | with_reducible apply IsN.mod | with_reducible apply IsN.min | with_reducible apply IsN.max | (with_reducible show (_ : Nat) ≤ _; omega) | exact IsN.toNat (by omega)))) (by omega) (by omega)) (by omega)) rfl ?_; go_step))
        | ((with_reducible show wpList _ _ _ (⟨_, .move _, _, _, _, _⟩ :: _) _ _); (first | go_big_want | go_step); go_step)
        | ((with_reducible show wpList _ _ _ (⟨_, .assign _, _, _, _, _⟩ :: _) _ _); (first | go_big_want | go_step); go_step)
        | ((with_reducible show wpList _ _ _ (⟨_, .binOp .lss _ _ _ _, _, _, _, _⟩ :: _) _ _); (refine wplV _ (V.lss rfl rfl) (by kernel_rfl) ?_; go_step))
        | ((fail_if_success (with_reducible show wpList _ _ _ (_ :: _) _ _)); go_step))
      obtain ⟨gk1, hgk1⟩ : ∃ x, x = gk := ⟨_, rfl⟩
      subst hgk1
      go_loopg [3, 4, 16] y (fun gk ov nv kv w => ∃ (j M : Nat) (a' : Option Addr) (c' : Nat) (L : List (Nat × Nat)), gk + j = y ∧ M = m + j ∧ kv = .int .i64 j ∧ nv = .int .i64 (2 * q + j : Nat) ∧ Hid (L = cds (cc C) k ++ (List.range j).map (fun i => (k + 1, 2 * q + i))) ∧ ov = .slice a' M c' ∧ St w0 w [own 37 3 a' M c' ((wfl (S.zip L)).map (Value.int .i64)), prt g1 [.ints C, .val (.slice ad n c)]])
      case atStart => exact ⟨0, m, a', c', _, rfl, rfl, rfl, rfl, hid rfl, rfl, by rw [List.range_zero, List.map_nil, List.append_nil]; exact hS.sub (by (repeat (first | exact Sub.nil | with_reducible exact Sub.refl | (apply Sub.cons; (case p => (repeat (first | with_reducible exact Pull.head | apply Pull.tail)))) | apply Sub.skip)))⟩
      case round =>
        clear hS
        obtain ⟨j, M, a2, c2, L, hj, hM, rfl, rfl, HL, rfl, hS⟩ := hrel
        by_cases hlt2 : j < y
        · have HLl : Hid (L.length = M) := hid (by rw [HL.out, List.length_append, cds_len]; simp; have := HM.out; omega)
          have HSn : Hid (wfl (S.zip (L ++ [(k + 1, 2 * q + j)])) = wfl (S.zip L) ++ [nth S M, ((k + 1 : Nat) : Int), ((2 * q + j : Nat) : Int)]) := hid (by
            rw [zip_snoc S L _ (by rw [HLl.out, HSl.out]; omega), wfl_snoc, HLl.out])
          have HL2 : Hid (L ++ [(k + 1, 2 * q + j)] = cds (cc C) k ++ (List.range (j + 1)).map (fun i => (k + 1, 2 * q + i))) := hid (by
            rw [HL.out, List.range_succ, List.map_append, List.append_assoc]; rfl)
          repeat' (first
            | ((with_reducible show wpList _ _ _ (⟨some 26, .binOp .add _ _ _ _, _, _, _, _⟩ :: _) _ _); (refine wplV (.int _ (((k + 1 : Nat) : Int))) (V.as (V.addI rfl rfl (by omega)) (by omega)) rfl ?_; go_step))
            | ((with_reducible show wpList _ _ _ (⟨some 32, .binOp .add _ _ _ _, _, _, _, _⟩ :: _) _ _); (refine wplV (.int _ (((2 * q + (j + 1) : Nat) : Int))) (V.as (V.addI rfl rfl (by omega)) (by omega)) rfl ?_; go_step))
            | ((with_reducible show wpList _ _ _ (⟨_, .move _, _, _, _, _⟩ :: _) _ _); (first | go_big_want | go_step); go_step)
            | ((with_reducible show wpList _ _ _ (⟨_, .assign _, _, _, _, _⟩ :: _) _ _); (first | go_big_want | go_step); go_step)
            | ((with_reducible show wpList _ _ _ (⟨_, .binOp .lss _ _ _ _, _, _, _, _⟩ :: _) _ _); (refine wplV _ (V.lss rfl rfl) (by kernel_rfl) ?_; go_step))
            | ((with_reducible show wpList _ _ _ (⟨_, .fieldAddr 25 _ 1, _, _, _, _⟩ :: _) _ _); (refine wplV _ (V.fieldAddr fo25_1 rfl (by first | with_reducible exact Nat.zero_add _ | with_reducible exact Nat.add_zero _ | exact rfl)) (by kernel_rfl) ?_; go_step))
            | ((with_reducible show wpList _ _ _ (⟨_, .call ⟨.builtin .len, _, _⟩, _, _, _, _⟩ :: _) _ _); (refine wplV _ (V.len Try.underlying33 rfl) (by kernel_rfl) ?_; go_step))
            | ((with_reducible show wpList _ _ _ (⟨some 23, .indexAddr 23 _ _, _, _, _, _⟩ :: _) _ _); (refine wpl_indexI (by with_reducible assumption) Try.underlying23 isz3 rfl rfl (by (repeat (first | exact IsN.auto | with_reducible apply IsN.add | with_reducible apply IsN.sub | with_reducible apply IsN.mul | with_reducible apply IsN.div | with_reducible apply IsN.mod | with_reducible apply IsN.min | with_reducible apply IsN.max | (with_reducible show (_ : Nat) ≤ _; omega) | exact IsN.toNat (by omega)))) (by omega) rfl ?_; intro b23 o23 hc23; go_step))
            | ((with_reducible show wpList _ _ _ (⟨_, .binOp .add _ _ _ _, _, _, _, _⟩ :: _) _ _); (refine wplV _ (V.addI rfl rfl (by omega)) (by kernel_rfl) ?_; go_step))
            | ((with_reducible show wpList _ _ _ (⟨some 28, .build 37 _, _, _, _, _⟩ :: _) _ _); (refine wplV _ (V.build (vs := [(0, _), (1, _), (2, _)]) rfl (bl37_0_1_2 _ _ _)) (by kernel_rfl) ?_; go_step))
            | ((with_reducible show wpList _ _ _ (⟨_, .load 23 _, _, _, _, _⟩ :: _) _ _); (refine wpl (by kernel_rfl) ?_; apply wp_loadVP hS 23 _ rfl _ _ rfl (one_of rfl) _; (case hp => (repeat (first | with_reducible exact Pull.head | apply Pull.tail))); (case hi => (repeat (first | exact AtV.head | (apply AtV.skipI; (case hn => (first | (with_reducible assumption) | exact Len.rep | exact Len.set (by with_reducible assumption) | exact Len.set Len.rep | exact Len.set (Len.set Len.rep))); (case h => omega); (case ho => rfl)) | apply AtV.skipV))); refine put_move ?_; go_step))
            | ((with_reducible show wpList _ _ _ (⟨_, .load 3 _, _, _, _, _⟩ :: _) _ _); (refine wpl (by kernel_rfl) ?_; apply wp_loadW hS 3 _ rfl _ rfl (one_of rfl) _; (case hc => with_reducible assumption); refine put_move ?_; go_step))
            | ((with_reducible show wpList _ _ _ (⟨some 29, .buildSlice 33 _ _, _, _, _, _⟩ :: _) _ _); (refine wpl (by kernel_rfl) ?_; apply wp_buildSlice1 (o := ⟨some 29, _, _, _, _, _⟩) hS 33 1 _ rfl 37 3 24 el33 _ _; (case hvs => (repeat (first | exact Parts.nil | (apply Parts.agg; (rfl); (rfl)) | (apply Parts.one; (first | exact IsV.int rfl | exact IsV.bool rfl | exact IsV.slice rfl | exact IsV.pointer rfl | exact IsV.string rfl | exact IsV.map rfl | exact IsV.func rfl); (rfl); (rfl))))); (case hn => rfl); (case hn0 => decide); (case hns => decide); clear hS; intro g29 w hS; simp only [List.cons_append, List.nil_append] at hS; refine put_move ?_; go_step))
            | ((with_reducible show wpList _ _ _ (⟨some 30, .call ⟨.builtin .append, _, _⟩, _, _, _, _⟩ :: _) _ _); (refine wpl (by kernel_rfl) ?_; apply wp_append (o := ⟨some 30, _, _, _, _, _⟩) hS _ _ 33 rfl 37 3 24 el33 _ _ _ _ rfl; (case hp => (repeat (first | with_reducible exact Pull.head | apply Pull.tail))); (case hx => exact rfl); (case hm => (first | exact hS.slBlk (by (repeat (first | with_reducible exact Pull.head | apply Pull.tail))) (by rfl) (by decide) | exact hS.sl (by (repeat (first | with_reducible exact Pull.head | apply Pull.tail))) | with_reducible assumption | exact Sl.ext (by with_reducible assumption) hS.1 | exact Sl.nil _ _ | exact Sl.ext (by assumption) hS.1 | assumption)); (case h1 => (first | exact oneAll rfl | exact oneMap _ _ | (intro u hu; cases hu))); (case h63 => unfold maxLen; omega); (case hb => omega); clear hS; intro ad30 c30 w hS; (first | simp only [mapk1] at hS | simp only [mapk2] at hS | simp only [mapk3] at hS | simp only [mapk4] at hS | simp only [mapkl] at hS | skip); refine put_move ?_; go_step))
            | ((fail_if_success (with_reducible show wpList _ _ _ (_ :: _) _ _)); go_step))
          go_roundg (gk - 1)
          case measure => omega
          case rel =>
            refine ⟨j + 1, M + 1, _, _, L ++ [(k + 1, 2 * q + j)], by omega, by omega, by go_num, rfl, HL2, rfl, ?_⟩
            rw [HSn.out]
            exact hS.sub (by (repeat (first | exact Sub.nil | with_reducible exact Sub.refl | (apply Sub.cons; (case p => (repeat (first | with_reducible exact Pull.head | apply Pull.tail)))) | apply Sub.skip)))
        · obtain rfl : j = y := by omega
          have HL3 : Hid (L = cds (cc C) (k + 1)) := hid (by rw [HL.out, HCd.out, HQ.out])
          repeat' (first
            | ((with_reducible show wpList _ _ _ (⟨_, .move _, _, _, _, _⟩ :: _) _ _); (first | go_big_want | go_step); go_step)
            | ((with_reducible show wpList _ _ _ (⟨_, .binOp .lss _ _ _ _, _, _, _, _⟩ :: _) _ _); (refine wplV _ (V.lss rfl rfl) (by kernel_rfl) ?_; go_step))
            | ((with_reducible show wpList _ _ _ (⟨_, .binOp .add _ _ _ _, _, _, _, _⟩ :: _) _ _); (refine wplV _ (V.addI rfl rfl (by omega)) (by kernel_rfl) ?_; go_step))
            | ((fail_if_success (with_reducible show wpList _ _ _ (_ :: _) _ _)); go_step))
          go_roundg (gk1 - 1)
          case measure => omega
          case rel =>
            refine ⟨k + 1, M, 2 * q + j, _, _, by omega, by go_num, by rw [HNx.out, HQ.out], rfl, by rw [HSm.out, hM, HM.out], by omega, rfl, ?_⟩
            rw [← HL3.out]
            exact hS.sub (by (repeat (first | exact Sub.nil | with_reducible exact Sub.refl | (apply Sub.cons; (case p => (repeat (first | with_reducible exact Pull.head | apply Pull.tail)))) | apply Sub.skip)))
    · obtain rfl : k = 16 := by omega
      have hmn2 : m = n := by rw [hm, H16.out]
      subst hmn2
      repeat' (first
        | ((with_reducible show wpList _ _ _ (⟨_, .move _, _, _, _, _⟩ :: _) _ _); (first | go_big_want | go_step); go_step)
        | ((with_reducible show wpList _ _ _ (⟨_, .assign _, _, _, _, _⟩ :: _) _ _); (first | go_big_want | go_step); go_step)
        | ((with_reducible show wpList _ _ _ (⟨_, .binOp .lss _ _ _ _, _, _, _, _⟩ :: _) _ _); (refine wplV _ (V.lss rfl rfl) (by kernel_rfl) ?_; go_step))
        | ((fail_if_success (with_reducible show wpList _ _ _ (_ :: _) _ _)); go_step))
      go_ret
      refine ⟨_, _, rfl, ?_⟩
      unfold wds
      exact hS.sub (by (repeat (first | exact Sub.nil | with_reducible exact Sub.refl | (apply Sub.cons; (case p => (repeat (first | with_reducible exact Pull.head | apply Pull.tail)))) | apply Sub.skip)))
/-- What Words gives. -/
def WordsGives (w0 : World) (C S : List Int) (e : Ending) (w : World) : Prop :=
  ∃ a' n' c', n' = (if tabE C S = 0 then S.length else 0) ∧ e = .returned (.tuple #[.slice a' n' c', .int .i64 (tabE C S)]) ∧ St w0 w [own 37 3 a' n' c' ((if tabE C S = 0 then wfl (wds C S) else []).map (Value.int .i64))]
set_option maxRecDepth 100000 in
set_option maxHeartbeats 4000000 in
theorem words_any (w0 : World) (C S : List Int) (ad : Option Addr) (n c : Nat) (hC : Len C 16) (hv : Sl w0 1 (.slice ad n c) n (S.map (Value.int .i64))) (hn : n ≤ 9223372036854775807) :
    Calls Try.prog 14 #[tv C (.slice ad n c)] w0 (WordsGives w0 C S) := by
  have hSl : S.length = n := by have := hv.1; simpa using this
  have HSl := hid hSl
  clear hSl
  have hS := St.start w0
  obtain ⟨E, hE⟩ : ∃ E, tabE C S = E := ⟨_, rfl⟩
  have HE := hid hE
  clear hE
  by_cases h0 : E = 0
  · subst h0
    have hck := check_any w0 C S ad n c hC hv hn
    rw [HE.out] at hck
    have HCk := hid hck
    clear hck
    go_enter Try.func14, Try.ntmps14
    repeat' (first
      | ((with_reducible show wpList _ _ _ (⟨_, .call ⟨.value (.func 23), _, _⟩, _, _, _, _⟩ :: _) _ _); refine wpl_call (f := 23) Try.call23 (by kernel_rfl) ?_; refine ⟨_, (check_any _ C S ad n c hC (hv.ext hS.1) hn), ?_⟩; rintro e w ⟨rfl, hE2⟩; rw [HE.out]; replace hS := hS.ext hE2; clear hE2; refine ⟨_, rfl, ?_⟩; refine put_move ?_; go_step)
      | ((with_reducible show wpList _ _ _ (⟨_, .call ⟨.value (.func 24), _, _⟩, _, _, _, _⟩ :: _) _ _); refine wpl_call (f := 24) Try.call24 (by kernel_rfl) ?_; refine ⟨_, (wordsOf_any _ C S ad n c hC (hv.ext hS.1) hn HE.out), ?_⟩; rintro e w ⟨a2, c2, rfl, hS2⟩; replace hS := hS.call1 hS2; clear hS2; refine ⟨_, rfl, ?_⟩; refine put_move ?_; go_step)
      | ((with_reducible show wpList _ _ _ (⟨_, .move _, _, _, _, _⟩ :: _) _ _); (first | go_big_want | go_step); go_step)
      | ((with_reducible show wpList _ _ _ (⟨_, .assign _, _, _, _, _⟩ :: _) _ _); (first | go_big_want | go_step); go_step)
      | ((with_reducible show wpList _ _ _ (⟨_, .binOp .neq 27 _ _ _, _, _, _, _⟩ :: _) _ _); (refine wplV _ (V.neq rfl rfl) (by kernel_rfl) ?_; go_step))
      | ((with_reducible show wpList _ _ _ (⟨some 1, .box 25 _, _, _, _, _⟩ :: _) _ _); (refine wpl (by kernel_rfl) ?_; apply wp_boxP (o := ⟨some 1, _, _, _, _, _⟩) hS 25 _ rfl _ rfl; clear hS; intro g1 w hS; refine put_move ?_; go_step))
      | ((with_reducible show wpList _ _ _ (⟨_, .load 25 _, _, _, _, _⟩ :: _) _ _); (refine wpl (by kernel_rfl) ?_; apply wp_loadPP hS 25 _ rfl _ _ rfl 17 (row_of rfl) _; (case hp => (repeat (first | with_reducible exact Pull.head | apply Pull.tail))); (case hi => (repeat (first | (apply AtP.head; (repeat (first | exact Pre.nil | (apply Pre.ints; (case hn => (first | (with_reducible assumption) | exact Len.rep | exact Len.set (by with_reducible assumption) | exact Len.set Len.rep | exact Len.set (Len.set Len.rep))); (case h => omega); (case hm => rfl)) | apply Pre.val))) | (apply AtP.skipI; (case hn => (first | (with_reducible assumption) | exact Len.rep | exact Len.set (by with_reducible assumption) | exact Len.set Len.rep | exact Len.set (Len.set Len.rep))); (case h => omega); (case ho => rfl)) | apply AtP.skipV))); refine put_move ?_; go_step))
      | ((fail_if_success (with_reducible show wpList _ _ _ (_ :: _) _ _)); go_step))
    refine ret_all (xs := [_, _]) rfl (.cons (OneRes.tmp rfl) (.cons (OneRes.tmp rfl) (.nil))) (by simp) rfl ?_
    refine ⟨a2, n, c2, by rw [if_pos HE.out, HSl.out], ?_, ?_⟩
    · rw [HE.out]; rfl
    · rw [if_pos HE.out]; exact hS.sub (by (repeat (first | exact Sub.nil | with_reducible exact Sub.refl | (apply Sub.cons; (case p => (repeat (first | with_reducible exact Pull.head | apply Pull.tail)))) | apply Sub.skip)))
  · go_enter Try.func14, Try.ntmps14
    repeat' (first
      | ((with_reducible show wpList _ _ _ (⟨_, .call ⟨.value (.func 23), _, _⟩, _, _, _, _⟩ :: _) _ _); refine wpl_call (f := 23) Try.call23 (by kernel_rfl) ?_; refine ⟨_, (check_any _ C S ad n c hC (hv.ext hS.1) hn), ?_⟩; rintro e w ⟨rfl, hE2⟩; rw [HE.out]; replace hS := hS.ext hE2; clear hE2; refine ⟨_, rfl, ?_⟩; refine put_move ?_; go_step)
      | ((with_reducible show wpList _ _ _ (⟨_, .move _, _, _, _, _⟩ :: _) _ _); (first | go_big_want | go_step); go_step)
      | ((with_reducible show wpList _ _ _ (⟨_, .assign _, _, _, _, _⟩ :: _) _ _); (first | go_big_want | go_step); go_step)
      | ((with_reducible show wpList _ _ _ (⟨_, .binOp .neq 27 _ _ _, _, _, _, _⟩ :: _) _ _); (refine wplV _ (V.neq rfl rfl) (by kernel_rfl) ?_; go_step))
      | ((with_reducible show wpList _ _ _ (⟨some 1, .box 25 _, _, _, _, _⟩ :: _) _ _); (refine wpl (by kernel_rfl) ?_; apply wp_boxP (o := ⟨some 1, _, _, _, _, _⟩) hS 25 _ rfl _ rfl; clear hS; intro g1 w hS; refine put_move ?_; go_step))
      | ((with_reducible show wpList _ _ _ (⟨_, .load 25 _, _, _, _, _⟩ :: _) _ _); (refine wpl (by kernel_rfl) ?_; apply wp_loadPP hS 25 _ rfl _ _ rfl 17 (row_of rfl) _; (case hp => (repeat (first | with_reducible exact Pull.head | apply Pull.tail))); (case hi => (repeat (first | (apply AtP.head; (repeat (first | exact Pre.nil | (apply Pre.ints; (case hn => (first | (with_reducible assumption) | exact Len.rep | exact Len.set (by with_reducible assumption) | exact Len.set Len.rep | exact Len.set (Len.set Len.rep))); (case h => omega); (case hm => rfl)) | apply Pre.val))) | (apply AtP.skipI; (case hn => (first | (with_reducible assumption) | exact Len.rep | exact Len.set (by with_reducible assumption) | exact Len.set Len.rep | exact Len.set (Len.set Len.rep))); (case h => omega); (case ho => rfl)) | apply AtP.skipV))); refine put_move ?_; go_step))
      | ((fail_if_success (with_reducible show wpList _ _ _ (_ :: _) _ _)); go_step))
    refine ret_all (xs := [_, _]) rfl (.cons (OneRes.tmp rfl) (.cons (OneRes.tmp rfl) (.nil))) (by simp) rfl ?_
    refine ⟨none, 0, 0, by rw [if_neg (by rw [HE.out]; exact h0)], ?_, ?_⟩
    · rw [HE.out]; rfl
    · rw [if_neg (by rw [HE.out]; exact h0)]; exact (St.of_ext hS.1).nil _ _
end Go.Proofs.Ytembekkanggciaa
