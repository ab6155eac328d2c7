/- The law SegPure: what its proof needs, part 4. -/
import Derived.Test.YtehbjhocgnfpmaaDoorSegPureZ3
import Derived.Laws.Bits64b
/- The walks of tables: total, Check, words, Words. -/
namespace Go.Proofs.YtehbjhocgnfpmaaDoor
open Go.RowKit
set_option linter.unusedVariables false
theorem bl91_0_1_2 (m0 : Int) (m1 : Int) (m2 : Int) (w : World) : (Instr.build 91 #[(0, .int .i64 m0), (1, .int .i64 m1), (2, .int .i64 m2)]).run Tryd.prog w = .ok (.agg #[.int .i64 m0, .int .i64 m1, .int .i64 m2]) w := by kernel_rfl
/-- A table, as a value. -/
abbrev tv (C : List Int) (v : Value) : Value := .agg (pcells [.ints C, .val v]).toArray
theorem cc_int (C : List Int) (k : Nat) (h : 0 ≤ nth C k) : nth C k = ((cc C k : Nat) : Int) := by unfold cc; omega
theorem ret2_bool {a : Value} {x y : Bool} (h : x = y) : Ending.returned (.tuple #[a, .bool x]) = .returned (.tuple #[a, .bool y]) := by rw [h]
set_option maxRecDepth 100000 in
theorem total_yes (w0 : World) (C : List Int) (v : Value) (hC : Len C 16) (h : totOk C = true) : Calls Tryd.prog 76 #[tv C v] w0 fun e w => e = .returned (.tuple #[.int .i64 (sm (cc C) 16 : Nat), .bool true]) ∧ Ext w0 w := by
  obtain ⟨hb, h16⟩ := (totOk_iff C).1 h
  have HB := hid hb
  clear hb h
  have hS := St.start w0
  go_enter Tryd.func76, Tryd.ntmps76
  repeat' (first
    | ((with_reducible apply gt9 _ (.move _)); (first | go_big_want | go_step); go_step) | ((with_reducible apply gt9 _ (.assign _)); (first | go_big_want | go_step); go_step) | ((with_reducible apply gt9 _ (.fieldAddr 31 _ 0)); (refine wvv9 (V.fieldAddr fo31_0 rfl nq9) ?_; go_step)) | ((with_reducible apply gt9 (some 1) (.box 31 _)); (refine wpl (by kernel_rfl) ?_; apply wp_boxP (o := ⟨some 1, _, _, _, _, _⟩) hS 31 _ rfl _ rfl; clear hS; intro g1 w hS; refine put_move ?_; go_step)) | ((with_reducible apply gt9 _ (.load 29 _)); (refine wpl (by kernel_rfl) ?_; apply wp_loadRP hS 29 _ rfl _ _ rfl 16 (row_of rfl) _; (case hp => exact pl9); (case hi => (repeat (first | (apply AtR.head; (first | (with_reducible assumption) | exact Len.rep | exact Len.set (by with_reducible assumption) | exact Len.set Len.rep | exact Len.set (Len.set Len.rep))) | (apply AtR.skipI; (case hn => (first | (with_reducible assumption) | exact Len.rep | exact Len.set (by with_reducible assumption) | exact Len.set Len.rep | exact Len.set (Len.set Len.rep))); (case h => omega); (case ho => rfl)) | apply AtR.skipV))); refine put_move ?_; go_step)) | ((fail_if_success with_reducible apply ga9); go_step))
  go_loopg [4, 9] 16 (fun gk av kv w => ∃ k : Nat, gk + k = 16 ∧ kv = .int .i64 k ∧ av = .int .i64 (sm (cc C) k : Nat) ∧ sm (cc C) k ≤ 256 * k ∧ St w0 w [])
  case atStart => exact ⟨0, rfl, rfl, rfl, by simp [sm], hS.sub sb9⟩
  case round =>
    clear hS
    obtain ⟨k, hk, rfl, rfl, hs, hS⟩ := hrel
    by_cases hlt : k < 16
    · have hx := HB.out k hlt
      have hsm := hid (show sm (cc C) (k + 1) = sm (cc C) k + cc C k from rfl)
      have hci := cc_int C k hx.1
      obtain ⟨y, hy⟩ : ∃ y, cc C k = y := ⟨_, rfl⟩
      rw [hy] at hci hsm
      obtain ⟨x, hxe⟩ : ∃ x, nth C k = x := ⟨_, rfl⟩
      have HX := hid hxe
      rw [hxe] at hci hx
      subst hci
      clear hxe hy
      repeat' (first
        | ((with_reducible apply gt9 (some 11) _); refine wplV (.int .i64 ((y : Nat) : Int)) (V.as (V.indexIv Tryd.underlying29 Tryd.underlying3 isz3 rfl rfl hC IsN.cast (by omega)) HX.out) (by kernel_rfl) ?_; go_step) | ((with_reducible apply gt9 _ (.move _)); (first | go_big_want | go_step); go_step) | ((with_reducible apply gt9 _ (.assign _)); (first | go_big_want | go_step); go_step) | ((with_reducible apply gt9 _ (.pick _ _ _)); (refine wplPickF rfl (by kernel_rfl) ?_; go_step)) | ((with_reducible apply gt9 (some 13) (.binOp .lss _ _ _ _)); (refine wplD _ (V.lss rfl rfl) (by kernel_rfl) (fun hB => ?_) (fun hB => ?_) <;> (try (have hF : False := (by omega); cases hF)) <;> go_step)) | ((with_reducible apply gt9 _ (.binOp .lss _ _ _ _)); (refine wvv9 (V.lss rfl rfl) ?_; go_step)) | ((with_reducible apply gt9 _ (.binOp .gtr _ _ _ _)); (refine wvv9 (V.gtr rfl rfl) ?_; go_step)) | ((with_reducible apply gt9 _ (.binOp .add _ _ _ _)); (refine wvv9 (V.addI rfl rfl (by omega)) ?_; go_step)) | ((fail_if_success with_reducible apply ga9); go_step))
      go_roundg (gk - 1)
      case measure => omega
      case rel => exact ⟨k + 1, by omega, by go_num, by rw [hsm.out]; go_num, by rw [hsm.out]; omega, hS⟩
    · obtain rfl : k = 16 := by omega
      repeat' (first
        | ((with_reducible apply gt9 _ (.move _)); (first | go_big_want | go_step); go_step) | ((with_reducible apply gt9 _ (.assign _)); (first | go_big_want | go_step); go_step) | ((with_reducible apply gt9 _ (.binOp .lss _ _ _ _)); (refine wvv9 (V.lss rfl rfl) ?_; go_step)) | ((with_reducible apply gt9 _ (.binOp .leq _ _ _ _)); (refine wvv9 (V.leq rfl rfl) ?_; go_step)) | ((fail_if_success with_reducible apply ga9); go_step))
      refine ret_all (xs := [_, _]) rfl (.cons (OneRes.tmp rfl) (.cons (OneRes.tmp rfl) (.nil))) (by simp) rfl ?_
      exact ⟨ret2_bool (decide_eq_true (by omega)), hS.1⟩
set_option maxRecDepth 100000 in
theorem total_no (w0 : World) (C : List Int) (v : Value) (hC : Len C 16) (h : totOk C = false) : Calls Tryd.prog 76 #[tv C v] w0 fun e w => ∃ z, e = .returned (.tuple #[.int .i64 z, .bool false]) ∧ Ext w0 w := by
  have hb : ¬ ((∀ k, k < 16 → 0 ≤ nth C k ∧ nth C k ≤ 256) ∧ sm (cc C) 16 ≤ 256) := by rw [← totOk_iff, h]; simp
  have HB := hid hb
  clear hb h
  have hS := St.start w0
  go_enter Tryd.func76, Tryd.ntmps76
  repeat' (first
    | ((with_reducible apply gt9 _ (.move _)); (first | go_big_want | go_step); go_step) | ((with_reducible apply gt9 _ (.assign _)); (first | go_big_want | go_step); go_step) | ((with_reducible apply gt9 _ (.fieldAddr 31 _ 0)); (refine wvv9 (V.fieldAddr fo31_0 rfl nq9) ?_; go_step)) | ((with_reducible apply gt9 (some 1) (.box 31 _)); (refine wpl (by kernel_rfl) ?_; apply wp_boxP (o := ⟨some 1, _, _, _, _, _⟩) hS 31 _ rfl _ rfl; clear hS; intro g1 w hS; refine put_move ?_; go_step)) | ((with_reducible apply gt9 _ (.load 29 _)); (refine wpl (by kernel_rfl) ?_; apply wp_loadRP hS 29 _ rfl _ _ rfl 16 (row_of rfl) _; (case hp => exact pl9); (case hi => (repeat (first | (apply AtR.head; (first | (with_reducible assumption) | exact Len.rep | exact Len.set (by with_reducible assumption) | exact Len.set Len.rep | exact Len.set (Len.set Len.rep))) | (apply AtR.skipI; (case hn => (first | (with_reducible assumption) | exact Len.rep | exact Len.set (by with_reducible assumption) | exact Len.set Len.rep | exact Len.set (Len.set Len.rep))); (case h => omega); (case ho => rfl)) | apply AtR.skipV))); refine put_move ?_; go_step)) | ((fail_if_success with_reducible apply ga9); go_step))
  go_loopg [4, 9] 16 (fun gk av kv w => ∃ k : Nat, gk + k = 16 ∧ kv = .int .i64 k ∧ av = .int .i64 (sm (cc C) k : Nat) ∧ Hid (∀ j, j < k → 0 ≤ nth C j ∧ nth C j ≤ 256) ∧ sm (cc C) k ≤ 256 * k ∧ St w0 w [])
  case atStart => exact ⟨0, rfl, rfl, rfl, hid (fun j hj => absurd hj (by omega)), by simp [sm], hS.sub sb9⟩
  case round =>
    clear hS
    obtain ⟨k, hk, rfl, rfl, HA, hs, hS⟩ := hrel
    by_cases hlt : k < 16
    · have hsm := hid (show sm (cc C) (k + 1) = sm (cc C) k + cc C k from rfl)
      by_cases hx : 0 ≤ nth C k ∧ nth C k ≤ 256
      · have hci := cc_int C k hx.1
        have HA2 : Hid (∀ j, j < k + 1 → 0 ≤ nth C j ∧ nth C j ≤ 256) := hid fun j hj => by
          by_cases hjk : j < k
          · exact HA.out j hjk
          · obtain rfl : j = k := by omega
            exact hx
        obtain ⟨y, hy⟩ : ∃ y, cc C k = y := ⟨_, rfl⟩
        rw [hy] at hci hsm
        obtain ⟨x, hxe⟩ : ∃ x, nth C k = x := ⟨_, rfl⟩
        have HX := hid hxe
        rw [hxe] at hci hx
        subst hci
        clear hxe hy
        repeat' (first
          | ((with_reducible apply gt9 (some 11) _); refine wplV (.int .i64 ((y : Nat) : Int)) (V.as (V.indexIv Tryd.underlying29 Tryd.underlying3 isz3 rfl rfl hC IsN.cast (by omega)) HX.out) (by kernel_rfl) ?_; go_step) | ((with_reducible apply gt9 _ (.move _)); (first | go_big_want | go_step); go_step) | ((with_reducible apply gt9 _ (.assign _)); (first | go_big_want | go_step); go_step) | ((with_reducible apply gt9 _ (.pick _ _ _)); (refine wplPickF rfl (by kernel_rfl) ?_; go_step)) | ((with_reducible apply gt9 (some 13) (.binOp .lss _ _ _ _)); (refine wplD _ (V.lss rfl rfl) (by kernel_rfl) (fun hB => ?_) (fun hB => ?_) <;> (try (have hF : False := (by omega); cases hF)) <;> go_step)) | ((with_reducible apply gt9 _ (.binOp .lss _ _ _ _)); (refine wvv9 (V.lss rfl rfl) ?_; go_step)) | ((with_reducible apply gt9 _ (.binOp .gtr _ _ _ _)); (refine wvv9 (V.gtr rfl rfl) ?_; go_step)) | ((with_reducible apply gt9 _ (.binOp .add _ _ _ _)); (refine wvv9 (V.addI rfl rfl (by omega)) ?_; go_step)) | ((fail_if_success with_reducible apply ga9); go_step))
        go_roundg (gk - 1)
        case measure => omega
        case rel => exact ⟨k + 1, by omega, by go_num, by rw [hsm.out]; go_num, HA2, by rw [hsm.out]; omega, hS⟩
      · obtain ⟨x, hxe⟩ : ∃ x, nth C k = x := ⟨_, rfl⟩
        have HX := hid hxe
        rw [hxe] at hx
        have hx2 : x < 0 ∨ 256 < x := by omega
        clear hxe hx
        repeat' (first
          | ((with_reducible apply gt9 (some 11) _); refine wplV (.int .i64 x) (V.as (V.indexIv Tryd.underlying29 Tryd.underlying3 isz3 rfl rfl hC IsN.cast (by omega)) HX.out) (by kernel_rfl) ?_; go_step) | go_big_skip | ((with_reducible apply gt9 _ (.move _)); (first | go_big_want | go_step); go_step) | ((with_reducible apply gt9 _ (.assign _)); (first | go_big_want | go_step); go_step) | ((with_reducible apply gt9 _ (.pick _ _ _)); first | (refine wplPickT rfl (by kernel_rfl) ?_; go_step) | (refine wplPickF rfl (by kernel_rfl) ?_; go_step)) | ((with_reducible apply gt9 (some 13) (.binOp .lss _ _ _ _)); (refine wplD _ (V.lss rfl rfl) (by kernel_rfl) (fun hB => ?_) (fun hB => ?_) <;> (try (have hF : False := (by omega); cases hF)) <;> go_step)) | ((with_reducible apply gt9 _ (.binOp .lss _ _ _ _)); (refine wvv9 (V.lss rfl rfl) ?_; go_step)) | ((with_reducible apply gt9 _ (.binOp .gtr _ _ _ _)); (refine wvv9 (V.gtr rfl rfl) ?_; go_step)) | ((fail_if_success with_reducible apply ga9); go_step))
        all_goals
          refine ret_all (xs := [_, _]) rfl (.cons (OneRes.tmp rfl) (.cons (OneRes.tmp rfl) (.nil))) (by simp) rfl ?_
          exact ⟨_, rfl, hS.1⟩
    · obtain rfl : k = 16 := by omega
      have hgt : 256 < sm (cc C) 16 := by
        have := HB.out
        have h2 := HA.out
        by_cases h3 : sm (cc C) 16 ≤ 256
        · exact absurd ⟨h2, h3⟩ this
        · omega
      repeat' (first
        | ((with_reducible apply gt9 _ (.move _)); (first | go_big_want | go_step); go_step) | ((with_reducible apply gt9 _ (.assign _)); (first | go_big_want | go_step); go_step) | ((with_reducible apply gt9 _ (.binOp .lss _ _ _ _)); (refine wvv9 (V.lss rfl rfl) ?_; go_step)) | ((with_reducible apply gt9 _ (.binOp .leq _ _ _ _)); (refine wvv9 (V.leq rfl rfl) ?_; go_step)) | ((fail_if_success with_reducible apply ga9); go_step))
      refine ret_all (xs := [_, _]) rfl (.cons (OneRes.tmp rfl) (.cons (OneRes.tmp rfl) (.nil))) (by simp) rfl ?_
      exact ⟨_, ret2_bool (decide_eq_false (by omega)), hS.1⟩
/-- The symbols that have come, as a map. -/
def hasF (l : List Int) (s : Int) : Option Value := if s ∈ l then some (.bool true) else none
theorem hasF_snoc (S : List Int) (k : Nat) (hk : k < S.length) : (fun j => if j = nth S k then some (Value.bool true) else hasF (S.take k) j) = hasF (S.take (k + 1)) := by
  funext j
  have e : S.take (k + 1) = S.take k ++ [nth S k] := by rw [List.take_add_one, get_nth S k hk]; rfl
  unfold hasF
  rw [e]
  by_cases h : j = nth S k
  · simp [h]
  · simp [h]
theorem nth_mem (S : List Int) (k : Nat) (h : k < S.length) : nth S k ∈ S := List.mem_of_getElem? (get_nth S k h)
theorem nodup_snoc (S : List Int) (k : Nat) (hk : k < S.length) : (S.take (k + 1)).Nodup ↔ (S.take k).Nodup ∧ nth S k ∉ S.take k := by
  have e : S.take (k + 1) = S.take k ++ [nth S k] := by rw [List.take_add_one, get_nth S k hk]; rfl
  rw [e, List.nodup_append]
  constructor
  · intro h; exact ⟨h.1, fun hm => h.2.2 _ hm _ (by simp) rfl⟩
  · intro h; refine ⟨h.1, by simp, fun a ha b hb => ?_⟩
    simp only [List.mem_singleton] at hb
    subst hb
    intro e; subst e; exact h.2 ha
set_option maxRecDepth 100000 in
set_option maxHeartbeats 4000000 in
theorem check_any (w0 : World) (C S : List Int) (ad : Option Addr) (n c : Nat) (hC : Len C 16) (hv : Sl w0 1 (.slice ad n c) n (S.map (Value.int .i64))) (hn : n ≤ 9223372036854775807) :
    Calls Tryd.prog 52 #[tv C (.slice ad n c)] w0 fun e w => e = .returned (.int .i64 (tabE C S)) ∧ Ext w0 w := by
  have hSl : S.length = n := by have := hv.1; simpa using this
  have HSl := hid hSl
  clear hSl
  have hS := St.start w0
  by_cases ht : totOk C = true
  case neg =>
    have hE := hid (show tabE C S = 4 by unfold tabE; rw [if_neg (fun h => ht h.1)])
    have ht2 := hid (show totOk C = false by simpa using ht)
    clear ht
    go_enter Tryd.func52, Tryd.ntmps52
    repeat' (first
      | ((with_reducible apply gt9 _ (.call ⟨.value (.func 76), _, _⟩)); refine wpl_call (f := 76) Tryd.call76 (by kernel_rfl) ?_; refine ⟨_, (total_no _ C _ hC ht2.out), ?_⟩; rintro e w ⟨z, rfl, hE2⟩; replace hS := hS.ext hE2; clear hE2; refine ⟨_, rfl, ?_⟩; refine put_move ?_; go_step) | go_skip | ((with_reducible apply gt9 _ (.move _)); (first | go_big_want | go_step); go_step) | ((with_reducible apply gt9 _ (.assign _)); (first | go_big_want | go_step); go_step) | ((with_reducible apply gt9 _ (.pick _ _ _)); (refine wplPickT rfl (by kernel_rfl) ?_; go_step)) | ((with_reducible apply gt9 (some 18) (.unOp .not _ _)); (refine wplB _ (V.not rfl) (by kernel_rfl) (fun hB => ?_) (fun hB => ?_) <;> (try (have hF : False := (absurd hB (by decide)); cases hF)) <;> go_step)) | ((with_reducible apply gt9 _ (.extract _ _)); (refine wvv9 (V.extract rfl rfl) ?_; go_step)) | ((with_reducible apply gt9 (some 1) (.box 31 _)); (refine wpl (by kernel_rfl) ?_; apply wp_boxP (o := ⟨some 1, _, _, _, _, _⟩) hS 31 _ rfl _ rfl; clear hS; intro g1 w hS; refine put_move ?_; go_step)) | ((with_reducible apply gt9 _ (.load 31 _)); (refine wpl (by kernel_rfl) ?_; apply wp_loadPP hS 31 _ rfl _ _ rfl 17 (row_of rfl) _; (case hp => exact pl9); (case hi => (repeat (first | (apply AtP.head; (repeat (first | exact Pre.nil | (apply Pre.ints; (case hn => (first | (with_reducible assumption) | exact Len.rep | exact Len.set (by with_reducible assumption) | exact Len.set Len.rep | exact Len.set (Len.set Len.rep))); (case h => omega); (case hm => rfl)) | apply Pre.val))) | (apply AtP.skipI; (case hn => (first | (with_reducible assumption) | exact Len.rep | exact Len.set (by with_reducible assumption) | exact Len.set Len.rep | exact Len.set (Len.set Len.rep))); (case h => omega); (case ho => rfl)) | apply AtP.skipV))); refine put_move ?_; go_step)) | ((fail_if_success with_reducible apply ga9); go_step))
    refine ret_one rfl (OneRes.tmp rfl) rfl ?_
    exact ⟨(by rw [hE.out]; first | done | rfl), hS.1⟩
  have HT := hid ht
  clear ht
  by_cases hs : sm (cc C) 16 = n
  case neg =>
    have hE := hid (show tabE C S = 4 by unfold tabE; rw [if_neg (fun h => hs (h.2.trans HSl.out))])
    obtain ⟨t, ht⟩ : ∃ t, sm (cc C) 16 = t := ⟨_, rfl⟩
    rw [ht] at hs
    have HT2 := hid ht
    clear ht
    go_enter Tryd.func52, Tryd.ntmps52
    repeat' (first
      | ((with_reducible apply gt9 _ (.call ⟨.value (.func 76), _, _⟩)); refine wpl_call (f := 76) Tryd.call76 (by kernel_rfl) ?_; refine ⟨_, (total_yes _ C _ hC HT.out), ?_⟩; rintro e w ⟨rfl, hE2⟩; rw [HT2.out]; replace hS := hS.ext hE2; clear hE2; refine ⟨_, rfl, ?_⟩; refine put_move ?_; go_step) | ((with_reducible apply gt9 _ (.move _)); (first | go_big_want | go_step); go_step) | ((with_reducible apply gt9 _ (.assign _)); (first | go_big_want | go_step); go_step) | ((with_reducible apply gt9 _ (.pick _ _ _)); (refine wplPickF rfl (by kernel_rfl) ?_; go_step)) | ((with_reducible apply gt9 (some 18) (.unOp .not _ _)); (refine wplB _ (V.not rfl) (by kernel_rfl) (fun hB => ?_) (fun hB => ?_) <;> (try (have hF : False := (absurd hB (by decide)); cases hF)) <;> go_step)) | ((with_reducible apply gt9 _ (.extract _ _)); (refine wvv9 (V.extract rfl rfl) ?_; go_step)) | ((with_reducible apply gt9 _ (.fieldAddr 31 _ 1)); (refine wvv9 (V.fieldAddr fo31_1 rfl nq9) ?_; go_step)) | ((with_reducible apply gt9 _ (.call ⟨.builtin .len, _, _⟩)); (refine wvv9 (V.len Tryd.underlying24 rfl) ?_; go_step)) | ((with_reducible apply gt9 _ (.binOp .neq 3 _ _ _)); (refine wvv9 (V.neq rfl rfl) ?_; go_step)) | ((with_reducible apply gt9 (some 1) (.box 31 _)); (refine wpl (by kernel_rfl) ?_; apply wp_boxP (o := ⟨some 1, _, _, _, _, _⟩) hS 31 _ rfl _ rfl; clear hS; intro g1 w hS; refine put_move ?_; go_step)) | ((with_reducible apply gt9 _ (.load 31 _)); (refine wpl (by kernel_rfl) ?_; apply wp_loadPP hS 31 _ rfl _ _ rfl 17 (row_of rfl) _; (case hp => exact pl9); (case hi => (repeat (first | (apply AtP.head; (repeat (first | exact Pre.nil | (apply Pre.ints; (case hn => (first | (with_reducible assumption) | exact Len.rep | exact Len.set (by with_reducible assumption) | exact Len.set Len.rep | exact Len.set (Len.set Len.rep))); (case h => omega); (case hm => rfl)) | apply Pre.val))) | (apply AtP.skipI; (case hn => (first | (with_reducible assumption) | exact Len.rep | exact Len.set (by with_reducible assumption) | exact Len.set Len.rep | exact Len.set (Len.set Len.rep))); (case h => omega); (case ho => rfl)) | apply AtP.skipV))); refine put_move ?_; go_step)) | ((with_reducible apply gt9 _ (.load 24 _)); (refine wpl (by kernel_rfl) ?_; apply wp_loadVP hS 24 _ rfl _ _ rfl (one_of rfl) _; (case hp => exact pl9); (case hi => (repeat (first | exact AtV.head | (apply AtV.skipI; (case hn => (first | (with_reducible assumption) | exact Len.rep | exact Len.set (by with_reducible assumption) | exact Len.set Len.rep | exact Len.set (Len.set Len.rep))); (case h => omega); (case ho => rfl)) | apply AtV.skipV))); refine put_move ?_; go_step)) | ((fail_if_success with_reducible apply ga9); go_step))
    refine ret_one rfl (OneRes.tmp rfl) rfl ?_
    exact ⟨(by rw [hE.out]; first | done | rfl), hS.1⟩
  have h256 : n ≤ 256 := by
    have := (totOk_iff C).1 HT.out
    omega
  have HS2 := hid hs
  have HE := hid (show tabE C S = if symsB S then if S.Nodup ∧ roomB (cc C) = true then 0 else 4 else 1 by unfold tabE; rw [if_pos ⟨HT.out, hs.trans HSl.out.symm⟩])
  clear hs
  go_enter Tryd.func52, Tryd.ntmps52
  repeat' (first
    | ((with_reducible apply gt9 _ (.call ⟨.value (.func 76), _, _⟩)); refine wpl_call (f := 76) Tryd.call76 (by kernel_rfl) ?_; refine ⟨_, (total_yes _ C _ hC HT.out), ?_⟩; rintro e w ⟨rfl, hE2⟩; rw [HS2.out]; replace hS := hS.ext hE2; clear hE2; refine ⟨_, rfl, ?_⟩; refine put_move ?_; go_step) | ((with_reducible apply gt9 _ (.move _)); (first | go_big_want | go_step); go_step) | ((with_reducible apply gt9 _ (.assign _)); (first | go_big_want | go_step); go_step) | ((with_reducible apply gt9 _ (.pick _ _ _)); (refine wplPickF rfl (by kernel_rfl) ?_; go_step)) | ((with_reducible apply gt9 (some 18) (.unOp .not _ _)); (refine wplB _ (V.not rfl) (by kernel_rfl) (fun hB => ?_) (fun hB => ?_) <;> (try (have hF : False := (absurd hB (by decide)); cases hF)) <;> go_step)) | ((with_reducible apply gt9 _ (.extract _ _)); (refine wvv9 (V.extract rfl rfl) ?_; go_step)) | ((with_reducible apply gt9 _ (.fieldAddr 31 _ 1)); (refine wvv9 (V.fieldAddr fo31_1 rfl nq9) ?_; go_step)) | ((with_reducible apply gt9 _ (.call ⟨.builtin .len, _, _⟩)); (refine wvv9 (V.len Tryd.underlying24 rfl) ?_; go_step)) | ((with_reducible apply gt9 _ (.binOp .neq 3 _ _ _)); (refine wvv9 (V.neq rfl rfl) ?_; go_step)) | ((with_reducible apply gt9 (some 1) (.box 31 _)); (refine wpl (by kernel_rfl) ?_; apply wp_boxP (o := ⟨some 1, _, _, _, _, _⟩) hS 31 _ rfl _ rfl; clear hS; intro g1 w hS; refine put_move ?_; go_step)) | ((with_reducible apply gt9 _ (.load 31 _)); (refine wpl (by kernel_rfl) ?_; apply wp_loadPP hS 31 _ rfl _ _ rfl 17 (row_of rfl) _; (case hp => exact pl9); (case hi => (repeat (first | (apply AtP.head; (repeat (first | exact Pre.nil | (apply Pre.ints; (case hn => (first | (with_reducible assumption) | exact Len.rep | exact Len.set (by with_reducible assumption) | exact Len.set Len.rep | exact Len.set (Len.set Len.rep))); (case h => omega); (case hm => rfl)) | apply Pre.val))) | (apply AtP.skipI; (case hn => (first | (with_reducible assumption) | exact Len.rep | exact Len.set (by with_reducible assumption) | exact Len.set Len.rep | exact Len.set (Len.set Len.rep))); (case h => omega); (case ho => rfl)) | apply AtP.skipV))); refine put_move ?_; go_step)) | ((with_reducible apply gt9 _ (.load 24 _)); (refine wpl (by kernel_rfl) ?_; apply wp_loadVP hS 24 _ rfl _ _ rfl (one_of rfl) _; (case hp => exact pl9); (case hi => (repeat (first | exact AtV.head | (apply AtV.skipI; (case hn => (first | (with_reducible assumption) | exact Len.rep | exact Len.set (by with_reducible assumption) | exact Len.set Len.rep | exact Len.set (Len.set Len.rep))); (case h => omega); (case ho => rfl)) | apply AtV.skipV))); refine put_move ?_; go_step)) | ((with_reducible apply gt9 (some 26) (.makeMap 152 _)); (refine wpl (by kernel_rfl) ?_; apply wp_makeMap (o := ⟨some 26, _, _, _, _, _⟩) ik hS 152 rfl; clear hS; intro g26 w hS; refine put_move ?_; go_step)) | ((fail_if_success with_reducible apply ga9); go_step))
  go_loopg [6, 30] n (fun gk bv kv w => ∃ (k : Nat) (b : Bool), gk + k = n ∧ kv = .int .i64 k ∧ bv = .bool b ∧ Hid (b = true ↔ ¬ (S.take k).Nodup) ∧ Hid (∀ j, j < k → 0 ≤ nth S j ∧ nth S j < 256) ∧ St w0 w [mp ik g26 (hasF (S.take k)), prt g1 [.ints C, .val (.slice ad n c)]])
  case atStart => exact ⟨0, false, rfl, rfl, rfl, hid (by simp), hid (fun j hj => absurd hj (by omega)), (by rw [show hasF (S.take 0) = fun _ => none from (by funext s; simp [hasF])]; exact hS)⟩
  case round =>
    clear hS
    obtain ⟨k, b, hk, rfl, rfl, HB, HR, hS⟩ := hrel
    by_cases hlt : k < n
    · have hk2 := hid (show k < S.length by rw [HSl.out]; exact hlt)
      have HF := hid (hasF_snoc S k hk2.out)
      have HN := hid (nodup_snoc S k hk2.out)
      obtain ⟨x, hx⟩ : ∃ x, nth S k = x := ⟨_, rfl⟩
      have HX := hid hx
      rw [hx] at HF HN
      clear hx
      by_cases hr : 0 ≤ x ∧ x < 256
      · have HR2 : Hid (∀ j, j < k + 1 → 0 ≤ nth S j ∧ nth S j < 256) := hid fun j hj => by
          by_cases hjk : j < k
          · exact HR.out j hjk
          · obtain rfl : j = k := by omega
            rw [HX.out]; exact hr
        by_cases hm : x ∈ S.take k
        · have hf : hasF (S.take k) x = some (.bool true) := by rw [hasF, if_pos hm]
          have HB2 : Hid (true = true ↔ ¬ (S.take (k + 1)).Nodup) := hid (by rw [HN.out]; simp [hm])
          clear HN hm
          cases b
          all_goals
            repeat' (first
              | ((with_reducible apply gt9 (some 32) _); refine wpl_indexI hv Tryd.underlying24 isz3 rfl rfl IsN.cast (by omega) rfl ?_; rw [HX.out]; intro b32 o32 hc32; go_step) | go_big_skip | ((with_reducible apply gt9 _ (.move _)); (first | go_big_want | go_step); go_step) | ((with_reducible apply gt9 _ (.assign _)); (first | go_big_want | go_step); go_step) | ((with_reducible apply gt9 _ (.pick _ _ _)); first | (refine wplPickT rfl (by kernel_rfl) ?_; go_step) | (refine wplPickF rfl (by kernel_rfl) ?_; go_step)) | ((with_reducible apply gt9 (some 35) (.binOp .lss _ _ _ _)); (refine wplD _ (V.lss rfl rfl) (by kernel_rfl) (fun hB => ?_) (fun hB => ?_) <;> (try (have hF : False := (by omega); cases hF)) <;> go_step)) | ((with_reducible apply gt9 _ (.binOp .lss _ _ _ _)); (refine wvv9 (V.lss rfl rfl) ?_; go_step)) | ((with_reducible apply gt9 _ (.binOp .geq _ _ _ _)); (refine wvv9 (V.geq rfl rfl) ?_; go_step)) | ((with_reducible apply gt9 _ (.binOp .add _ _ _ _)); (refine wvv9 (V.addI rfl rfl (by omega)) ?_; go_step)) | ((with_reducible apply gt9 _ (.load 3 _)); (refine wpl (by kernel_rfl) ?_; apply wp_loadW hS 3 _ rfl _ rfl (one_of rfl) _; (case hc => with_reducible assumption); refine put_move ?_; go_step)) | ((with_reducible apply gt9 (some 44) (.lookup 152 _ _ _)); (refine wpl (by kernel_rfl) ?_; apply wp_lookupS (enc := ik) hS 152 _ _ rfl _ rfl _ rfl Tryd.underlying152 (keyLaw_int Tryd.underlying3) (.bool false) (fun w => Tryd.zeroValue4 w) _; (case hp => exact pl9); (case hf => with_reducible assumption); refine put_move ?_; go_step)) | ((with_reducible apply gt9 _ (.mapUpdate 152 _ _ _)); (refine wpl (by kernel_rfl) ?_; apply wp_mapUpdate (enc := ik) hS 152 _ _ _ rfl _ rfl _ rfl Tryd.underlying152 (keyLaw_int Tryd.underlying3) _; (case hp => exact pl9); (case hv => (first | exact IsV.int rfl | exact IsV.bool rfl | exact IsV.slice rfl | exact IsV.pointer rfl | exact IsV.string rfl | exact IsV.map rfl | exact IsV.func rfl | exact IsV.agg rfl)); (case hd => exact rfl); clear hS; intro w hS)) | ((fail_if_success with_reducible apply ga9); go_step))
            go_roundg (gk - 1)
            case measure => omega
            case rel => exact ⟨k + 1, true, by omega, by go_num, rfl, HB2, HR2, by rw [← HF.out]; exact hS.sub sb9⟩
        · have hf : hasF (S.take k) x = none := by rw [hasF, if_neg hm]
          have HB2 : Hid (b = true ↔ ¬ (S.take (k + 1)).Nodup) := hid (by rw [HN.out, HB.out]; simp [hm])
          clear HN hm
          cases b
          all_goals
            repeat' (first
              | ((with_reducible apply gt9 (some 32) _); refine wpl_indexI hv Tryd.underlying24 isz3 rfl rfl IsN.cast (by omega) rfl ?_; rw [HX.out]; intro b32 o32 hc32; go_step) | go_big_skip | ((with_reducible apply gt9 _ (.move _)); (first | go_big_want | go_step); go_step) | ((with_reducible apply gt9 _ (.assign _)); (first | go_big_want | go_step); go_step) | ((with_reducible apply gt9 _ (.pick _ _ _)); first | (refine wplPickT rfl (by kernel_rfl) ?_; go_step) | (refine wplPickF rfl (by kernel_rfl) ?_; go_step)) | ((with_reducible apply gt9 (some 35) (.binOp .lss _ _ _ _)); (refine wplD _ (V.lss rfl rfl) (by kernel_rfl) (fun hB => ?_) (fun hB => ?_) <;> (try (have hF : False := (by omega); cases hF)) <;> go_step)) | ((with_reducible apply gt9 _ (.binOp .lss _ _ _ _)); (refine wvv9 (V.lss rfl rfl) ?_; go_step)) | ((with_reducible apply gt9 _ (.binOp .geq _ _ _ _)); (refine wvv9 (V.geq rfl rfl) ?_; go_step)) | ((with_reducible apply gt9 _ (.binOp .add _ _ _ _)); (refine wvv9 (V.addI rfl rfl (by omega)) ?_; go_step)) | ((with_reducible apply gt9 _ (.load 3 _)); (refine wpl (by kernel_rfl) ?_; apply wp_loadW hS 3 _ rfl _ rfl (one_of rfl) _; (case hc => with_reducible assumption); refine put_move ?_; go_step)) | ((with_reducible apply gt9 (some 44) (.lookup 152 _ _ _)); (refine wpl (by kernel_rfl) ?_; apply wp_lookupN (enc := ik) hS 152 _ _ rfl _ rfl _ rfl Tryd.underlying152 (keyLaw_int Tryd.underlying3) (.bool false) (fun w => Tryd.zeroValue4 w) _; (case hp => exact pl9); (case hf => with_reducible assumption); refine put_move ?_; go_step)) | ((with_reducible apply gt9 _ (.mapUpdate 152 _ _ _)); (refine wpl (by kernel_rfl) ?_; apply wp_mapUpdate (enc := ik) hS 152 _ _ _ rfl _ rfl _ rfl Tryd.underlying152 (keyLaw_int Tryd.underlying3) _; (case hp => exact pl9); (case hv => (first | exact IsV.int rfl | exact IsV.bool rfl | exact IsV.slice rfl | exact IsV.pointer rfl | exact IsV.string rfl | exact IsV.map rfl | exact IsV.func rfl | exact IsV.agg rfl)); (case hd => exact rfl); clear hS; intro w hS)) | ((fail_if_success with_reducible apply ga9); go_step))
            go_roundg (gk - 1)
            case measure => omega
            case rel => exact ⟨k + 1, _, by omega, by go_num, rfl, HB2, HR2, by rw [← HF.out]; exact hS.sub sb9⟩
      · have hE4 : Hid (tabE C S = 1) := hid (by
          rw [HE.out, if_neg]
          intro h
          have := List.all_eq_true.1 h x (by rw [← HX.out]; exact nth_mem S k hk2.out)
          simp at this; omega)
        clear HF HN
        have hr2 : x < 0 ∨ 256 ≤ x := by omega
        clear hr
        repeat' (first
          | ((with_reducible apply gt9 (some 32) _); refine wpl_indexI hv Tryd.underlying24 isz3 rfl rfl IsN.cast (by omega) rfl ?_; rw [HX.out]; intro b32 o32 hc32; go_step) | go_big_skip | ((with_reducible apply gt9 _ (.move _)); (first | go_big_want | go_step); go_step) | ((with_reducible apply gt9 _ (.assign _)); (first | go_big_want | go_step); go_step) | ((with_reducible apply gt9 _ (.pick _ _ _)); first | (refine wplPickT rfl (by kernel_rfl) ?_; go_step) | (refine wplPickF rfl (by kernel_rfl) ?_; go_step)) | ((with_reducible apply gt9 (some 35) (.binOp .lss _ _ _ _)); (refine wplD _ (V.lss rfl rfl) (by kernel_rfl) (fun hB => ?_) (fun hB => ?_) <;> (try (have hF : False := (by omega); cases hF)) <;> go_step)) | ((with_reducible apply gt9 _ (.binOp .lss _ _ _ _)); (refine wvv9 (V.lss rfl rfl) ?_; go_step)) | ((with_reducible apply gt9 _ (.binOp .geq _ _ _ _)); (refine wvv9 (V.geq rfl rfl) ?_; go_step)) | ((with_reducible apply gt9 _ (.load 3 _)); (refine wpl (by kernel_rfl) ?_; apply wp_loadW hS 3 _ rfl _ rfl (one_of rfl) _; (case hc => with_reducible assumption); refine put_move ?_; go_step)) | ((fail_if_success with_reducible apply ga9); go_step))
        all_goals
          refine ret_one rfl (OneRes.tmp rfl) rfl ?_
          exact ⟨(by rw [hE4.out]; first | done | rfl), hS.1⟩
    · obtain rfl : k = n := by omega
      have hall : symsB S = true := by
        rw [symsB, List.all_eq_true]
        intro s hs
        obtain ⟨j, hj, rfl⟩ := List.getElem_of_mem hs
        have := HR.out j (by rw [← HSl.out]; exact hj)
        simp [nth, List.getD, hj] at this
        simpa using this
      have htk : S.take k = S := by rw [← HSl.out]; exact List.take_length
      have HB3 : Hid (b = true ↔ ¬ S.Nodup) := hid (by have := HB.out; rwa [htk] at this)
      have HE3 : Hid (tabE C S = if S.Nodup ∧ roomB (cc C) = true then 0 else 4) := hid (by rw [HE.out, if_pos hall])
      have HCp := hid ((totOk_iff C).1 HT.out).1
      clear hall htk HB HE HR
      repeat' (first
        | ((with_reducible apply gt9 _ (.move _)); (first | go_big_want | go_step); go_step) | ((with_reducible apply gt9 _ (.assign _)); (first | go_big_want | go_step); go_step) | ((with_reducible apply gt9 _ (.binOp .lss _ _ _ _)); (refine wvv9 (V.lss rfl rfl) ?_; go_step)) | ((with_reducible apply gt9 _ (.fieldAddr 31 _ 0)); (refine wvv9 (V.fieldAddr fo31_0 rfl nq9) ?_; go_step)) | ((with_reducible apply gt9 _ (.load 29 _)); (refine wpl (by kernel_rfl) ?_; apply wp_loadRP hS 29 _ rfl _ _ rfl 16 (row_of rfl) _; (case hp => exact pl9); (case hi => (repeat (first | (apply AtR.head; (first | (with_reducible assumption) | exact Len.rep | exact Len.set (by with_reducible assumption) | exact Len.set Len.rep | exact Len.set (Len.set Len.rep))) | (apply AtR.skipI; (case hn => (first | (with_reducible assumption) | exact Len.rep | exact Len.set (by with_reducible assumption) | exact Len.set Len.rep | exact Len.set (Len.set Len.rep))); (case h => omega); (case ho => rfl)) | apply AtR.skipV))); refine put_move ?_; go_step)) | ((fail_if_success with_reducible apply ga9); go_step))
      go_loopg [9, 51] 16 (fun gk nv kv w => ∃ (i : Nat), gk + i = 16 ∧ kv = .int .i64 i ∧ nv = .int .i64 (nx (cc C) i : Nat) ∧ nx (cc C) i < 2 ^ i ∧ Hid (∀ j, j < i → nx (cc C) (j + 1) < 2 ^ (j + 1)) ∧ Hid (0 < i → b = false) ∧ St w0 w [])
      case atStart => exact ⟨0, rfl, rfl, rfl, by simp [nx], hid (fun j hj => absurd hj (by omega)), hid (fun h => absurd h (by omega)), hS.sub sb9⟩
      case round =>
        clear hS
        obtain ⟨i, hi, rfl, rfl, hlt2, HA, HZ, hS⟩ := hrel
        by_cases hlt : i < 16
        · have hx := HCp.out i hlt
          have hci := cc_int C i hx.1
          have HNx := hid (show nx (cc C) (i + 1) = 2 * nx (cc C) i + cc C i from rfl)
          obtain ⟨y, hy⟩ : ∃ y, cc C i = y := ⟨_, rfl⟩
          rw [hy] at hci HNx
          have HX := hid hci
          have hy2 : y ≤ 256 := by omega
          obtain ⟨p, hp⟩ : ∃ p, p = 2 ^ i := ⟨_, rfl⟩
          have hp2 : p ≤ 32768 := by rw [hp]; exact Nat.pow_le_pow_right (n := 2) (j := 15) (by omega) (by omega)
          obtain ⟨z, hz⟩ : ∃ z, nx (cc C) i = z := ⟨_, rfl⟩
          rw [← hp] at hlt2
          have HP : Hid ((2 : Int) ^ (i + 1) = ((2 * p : Nat) : Int)) := hid (by rw [hp, Int.pow_succ]; push_cast; omega)
          have HP2 : Hid (2 ^ (i + 1) = 2 * p) := hid (by rw [hp, Nat.pow_succ]; omega)
          rw [hz] at hlt2 HNx ⊢
          clear hci hy hp hz hx
          by_cases hbad : b = true ∨ 2 * p ≤ 2 * z + y
          · have hE4 : Hid (tabE C S = 4) := hid (by
              rw [HE3.out, if_neg]
              rintro ⟨h1, h2⟩
              rcases hbad with h | h
              · exact (HB3.out.1 h) h1
              · have := (roomB_iff _).1 h2 i hlt
                rw [HNx.out, HP2.out] at this; omega)
            have hbad2 : b = false → 2 * p ≤ 2 * z + y := fun h => by
              rcases hbad with h' | h'
              · rw [h] at h'; cases h'
              · exact h'
            clear hbad
            cases b
            · replace hbad2 := hbad2 rfl
              repeat' (first
                | ((with_reducible apply gt9 (some 54) _); refine wplV (.int .i64 ((y : Nat) : Int)) (V.as (V.indexIv Tryd.underlying29 Tryd.underlying3 isz3 rfl rfl hC IsN.cast (by omega)) HX.out) (by kernel_rfl) ?_; go_step) | ((with_reducible apply gt9 (some 56) (.binOp .shl _ _ _ _)); (refine wplV (.int _ (((2 * z : Nat) : Int))) (V.as (V.shlI rfl rfl isn9 (by omega) (by omega)) (by omega)) rfl ?_; go_step)) | ((with_reducible apply gt9 (some 58) (.binOp .add _ _ _ _)); (refine wplV (.int _ (((2 * z + y : Nat) : Int))) (V.as (V.addI rfl rfl (by omega)) (by omega)) rfl ?_; go_step)) | ((with_reducible apply gt9 (some 64) (.binOp .shl _ _ _ _)); (refine wplV (.int _ (((2 * p : Nat) : Int))) (V.as (V.shl1 rfl rfl isn9 (by omega)) (by exact HP.out)) rfl ?_; go_step)) | ((with_reducible apply gt9 _ (.move _)); (first | go_big_want | go_step); go_step) | ((with_reducible apply gt9 _ (.assign _)); (first | go_big_want | go_step); go_step) | ((with_reducible apply gt9 _ (.pick _ _ _)); (refine wplPickF rfl (by kernel_rfl) ?_; go_step)) | ((with_reducible apply gt9 _ (.binOp .lss _ _ _ _)); (refine wvv9 (V.lss rfl rfl) ?_; go_step)) | ((with_reducible apply gt9 _ (.binOp .add _ _ _ _)); (refine wvv9 (V.addI rfl rfl (by omega)) ?_; go_step)) | ((with_reducible apply gt9 _ (.binOp .sub _ _ _ _)); (refine wvv9 (V.subI rfl rfl (by omega)) ?_; go_step)) | ((with_reducible apply gt9 _ (.binOp .gtr _ _ _ _)); (refine wvv9 (V.gtr rfl rfl) ?_; go_step)) | ((fail_if_success with_reducible apply ga9); go_step))
              refine ret_one rfl (OneRes.tmp rfl) rfl ?_
              exact ⟨(by rw [hE4.out]; first | done | rfl), hS.1⟩
            · clear hbad2
              repeat' (first
                | ((with_reducible apply gt9 (some 54) _); refine wplV (.int .i64 ((y : Nat) : Int)) (V.as (V.indexIv Tryd.underlying29 Tryd.underlying3 isz3 rfl rfl hC IsN.cast (by omega)) HX.out) (by kernel_rfl) ?_; go_step) | ((with_reducible apply gt9 (some 56) (.binOp .shl _ _ _ _)); (refine wplV (.int _ (((2 * z : Nat) : Int))) (V.as (V.shlI rfl rfl isn9 (by omega) (by omega)) (by omega)) rfl ?_; go_step)) | ((with_reducible apply gt9 (some 58) (.binOp .add _ _ _ _)); (refine wplV (.int _ (((2 * z + y : Nat) : Int))) (V.as (V.addI rfl rfl (by omega)) (by omega)) rfl ?_; go_step)) | go_big_skip | ((with_reducible apply gt9 _ (.move _)); (first | go_big_want | go_step); go_step) | ((with_reducible apply gt9 _ (.assign _)); (first | go_big_want | go_step); go_step) | ((with_reducible apply gt9 _ (.pick _ _ _)); (refine wplPickT rfl (by kernel_rfl) ?_; go_step)) | ((with_reducible apply gt9 _ (.binOp .lss _ _ _ _)); (refine wvv9 (V.lss rfl rfl) ?_; go_step)) | ((fail_if_success with_reducible apply ga9); go_step))
              refine ret_one rfl (OneRes.tmp rfl) rfl ?_
              exact ⟨(by rw [hE4.out]; first | done | rfl), hS.1⟩
          · obtain rfl : b = false := by cases b <;> simp_all
            have hgood : 2 * z + y < 2 * p := by
              by_cases h : 2 * p ≤ 2 * z + y
              · exact absurd (.inr h) hbad
              · omega
            have HA2 : Hid (∀ j, j < i + 1 → nx (cc C) (j + 1) < 2 ^ (j + 1)) := hid fun j hj => by
              by_cases hji : j < i
              · exact HA.out j hji
              · obtain rfl : j = i := by omega
                rw [HNx.out, HP2.out]; exact hgood
            clear hbad
            repeat' (first
              | ((with_reducible apply gt9 (some 54) _); refine wplV (.int .i64 ((y : Nat) : Int)) (V.as (V.indexIv Tryd.underlying29 Tryd.underlying3 isz3 rfl rfl hC IsN.cast (by omega)) HX.out) (by kernel_rfl) ?_; go_step) | ((with_reducible apply gt9 (some 56) (.binOp .shl _ _ _ _)); (refine wplV (.int _ (((2 * z : Nat) : Int))) (V.as (V.shlI rfl rfl isn9 (by omega) (by omega)) (by omega)) rfl ?_; go_step)) | ((with_reducible apply gt9 (some 58) (.binOp .add _ _ _ _)); (refine wplV (.int _ (((2 * z + y : Nat) : Int))) (V.as (V.addI rfl rfl (by omega)) (by omega)) rfl ?_; go_step)) | ((with_reducible apply gt9 (some 64) (.binOp .shl _ _ _ _)); (refine wplV (.int _ (((2 * p : Nat) : Int))) (V.as (V.shl1 rfl rfl isn9 (by omega)) (by exact HP.out)) rfl ?_; go_step)) | ((with_reducible apply gt9 _ (.move _)); (first | go_big_want | go_step); go_step) | ((with_reducible apply gt9 _ (.assign _)); (first | go_big_want | go_step); go_step) | ((with_reducible apply gt9 _ (.pick _ _ _)); (refine wplPickF rfl (by kernel_rfl) ?_; go_step)) | ((with_reducible apply gt9 _ (.binOp .lss _ _ _ _)); (refine wvv9 (V.lss rfl rfl) ?_; go_step)) | ((with_reducible apply gt9 _ (.binOp .add _ _ _ _)); (refine wvv9 (V.addI rfl rfl (by omega)) ?_; go_step)) | ((with_reducible apply gt9 _ (.binOp .sub _ _ _ _)); (refine wvv9 (V.subI rfl rfl (by omega)) ?_; go_step)) | ((with_reducible apply gt9 _ (.binOp .gtr _ _ _ _)); (refine wvv9 (V.gtr rfl rfl) ?_; go_step)) | ((fail_if_success with_reducible apply ga9); go_step))
            go_roundg (gk - 1)
            case measure => omega
            case rel => exact ⟨i + 1, by omega, by go_num, by rw [HNx.out], by rw [HNx.out, HP2.out]; exact hgood, HA2, hid (fun _ => rfl), hS⟩
        · obtain rfl : i = 16 := by omega
          have hE0 : Hid (tabE C S = 0) := hid (by
            rw [HE3.out, if_pos]
            refine ⟨?_, (roomB_iff _).2 HA.out⟩
            have h1 := HZ.out (by omega)
            have h2 := HB3.out
            rw [h1] at h2
            simpa using h2)
          repeat' (first
            | ((with_reducible apply gt9 _ (.assign _)); (first | go_big_want | go_step); go_step) | ((with_reducible apply gt9 _ (.binOp .lss _ _ _ _)); (refine wvv9 (V.lss rfl rfl) ?_; go_step)) | ((fail_if_success with_reducible apply ga9); go_step))
          refine ret_one rfl (OneRes.tmp rfl) rfl ?_
          exact ⟨(by rw [hE0.out]; first | done | rfl), hS.1⟩
end Go.Proofs.YtehbjhocgnfpmaaDoor

/- The walks of tables: words, Words. -/
namespace Go.Proofs.YtehbjhocgnfpmaaDoor
open Go.RowKit
set_option linter.unusedVariables false
theorem cds_row (c : Nat → Nat) (k j : Nat) : cds c k ++ (List.range (j + 1)).map (fun i => (k + 1, 2 * nx c k + i)) = (cds c k ++ (List.range j).map fun i => (k + 1, 2 * nx c k + i)) ++ [(k + 1, 2 * nx c k + j)] := by
  rw [List.range_succ, List.map_append, List.append_assoc]; rfl
theorem sm_le (c : Nat → Nat) (k : Nat) : ∀ d, sm c k ≤ sm c (k + d)
  | 0 => Nat.le_refl _
  | d + 1 => by have := sm_le c k d; rw [← Nat.add_assoc, sm]; omega
theorem nx_le (c : Nat → Nat) (k : Nat) (hk : k ≤ 16) (h : nx c 16 < 65536) : nx c k < 65536 := by
  have := nx_up c k (16 - k)
  rw [show k + (16 - k) = 16 by omega] at this
  have h2 : nx c k * 1 ≤ nx c k * 2 ^ (16 - k) := Nat.mul_le_mul_left _ (Nat.two_pow_pos _)
  omega
set_option maxRecDepth 100000 in
set_option maxHeartbeats 4000000 in
theorem wordsOf_any (w0 : World) (C S : List Int) (ad : Option Addr) (n c : Nat) (hC : Len C 16) (hv : Sl w0 1 (.slice ad n c) n (S.map (Value.int .i64))) (hn : n ≤ 9223372036854775807) (hok : tabE C S = 0) :
    Calls Tryd.prog 61 #[tv C (.slice ad n c)] w0 fun e w => ∃ a' c', e = .returned (.slice a' n c') ∧ St w0 w [own 91 3 a' n c' ((wfl (wds C S)).map (Value.int .i64))] := by
  have hSl : S.length = n := by have := hv.1; simpa using this
  obtain ⟨hb, h16, h256, _, _, hroom⟩ := tabE_ok hok
  rw [hSl] at h256 h16
  have hnx := hid ((roomy_iff _).1 hroom)
  have HSl := hid hSl
  have HB := hid hb
  have H16 := hid h16
  clear hSl hb h16 hroom hok
  have hS := St.start w0
  go_enter Tryd.func61, Tryd.ntmps61
  repeat' (first
    | ((with_reducible apply gt9 _ (.move _)); (first | go_big_want | go_step); go_step) | ((with_reducible apply gt9 _ (.assign _)); (first | go_big_want | go_step); go_step) | ((with_reducible apply gt9 _ (.fieldAddr 31 _ 0)); (refine wvv9 (V.fieldAddr fo31_0 rfl nq9) ?_; go_step)) | ((with_reducible apply gt9 (some 1) (.box 31 _)); (refine wpl (by kernel_rfl) ?_; apply wp_boxP (o := ⟨some 1, _, _, _, _, _⟩) hS 31 _ rfl _ rfl; clear hS; intro g1 w hS; refine put_move ?_; go_step)) | ((with_reducible apply gt9 _ (.load 29 _)); (refine wpl (by kernel_rfl) ?_; apply wp_loadRP hS 29 _ rfl _ _ rfl 16 (row_of rfl) _; (case hp => exact pl9); (case hi => (repeat (first | (apply AtR.head; (first | (with_reducible assumption) | exact Len.rep | exact Len.set (by with_reducible assumption) | exact Len.set Len.rep | exact Len.set (Len.set Len.rep))) | (apply AtR.skipI; (case hn => (first | (with_reducible assumption) | exact Len.rep | exact Len.set (by with_reducible assumption) | exact Len.set Len.rep | exact Len.set (Len.set Len.rep))); (case h => omega); (case ho => rfl)) | apply AtR.skipV))); refine put_move ?_; go_step)) | ((fail_if_success with_reducible apply ga9); go_step))
  replace hS := hS.nilk 91 3 .i64
  go_loopg [3, 4, 9] 16 (fun gk ov nv kv w => ∃ (k m q : Nat) (a' : Option Addr) (c' : Nat), gk + k = 16 ∧ kv = .int .i64 k ∧ q = nx (cc C) k ∧ nv = .int .i64 q ∧ m = sm (cc C) k ∧ m ≤ n ∧ ov = .slice a' m c' ∧ St w0 w [own 91 3 a' m c' ((wfl (S.zip (cds (cc C) k))).map (Value.int .i64)), prt g1 [.ints C, .val (.slice ad n c)]])
  case atStart => exact ⟨0, 0, 0, none, 0, rfl, rfl, rfl, rfl, rfl, by omega, rfl, by rw [show wfl (S.zip (cds (cc C) 0)) = [] by simp [cds, wfl]]; exact hS.sub sb9⟩
  case round =>
    clear hS
    obtain ⟨k, m, q, a', c', hk, rfl, hq, rfl, hm, hmn, rfl, hS⟩ := hrel
    by_cases hlt : k < 16
    · have hx := HB.out k hlt
      have hci := cc_int C k hx.1
      have HNx := hid (show nx (cc C) (k + 1) = 2 * nx (cc C) k + cc C k from rfl)
      have HSm := hid (show sm (cc C) (k + 1) = sm (cc C) k + cc C k from rfl)
      have hsl : sm (cc C) (k + 1) ≤ n := by have := sm_le (cc C) (k + 1) (15 - k); rw [show k + 1 + (15 - k) = 16 by omega, H16.out] at this; exact this
      have hnl := nx_le (cc C) (k + 1) (by omega) hnx.out
      have HCd := hid (show cds (cc C) (k + 1) = cds (cc C) k ++ (List.range (cc C k)).map (fun j => (k + 1, 2 * nx (cc C) k + j)) from rfl)
      obtain ⟨y, hy⟩ : ∃ y, cc C k = y := ⟨_, rfl⟩
      rw [hy] at hci HNx HSm HCd
      rw [HSm.out, ← hm] at hsl
      rw [HNx.out, ← hq] at hnl
      have HX := hid hci
      have HQ := hid hq
      have HM := hid hm
      have hy2 : y ≤ 256 := by omega
      clear hci hy hx hq hm
      repeat' (first
        | ((with_reducible apply gt9 (some 12) _); refine wplV (.int .i64 ((y : Nat) : Int)) (V.as (V.indexIv Tryd.underlying29 Tryd.underlying3 isz3 rfl rfl hC IsN.cast (by omega)) HX.out) (by kernel_rfl) ?_; go_step) | ((with_reducible apply gt9 (some 14) (.binOp .shl _ _ _ _)); (refine wplV (.int _ (((2 * q : Nat) : Int))) (V.as (V.shlI rfl rfl isn9 (by omega) (by omega)) (by omega)) rfl ?_; go_step)) | ((with_reducible apply gt9 _ (.move _)); (first | go_big_want | go_step); go_step) | ((with_reducible apply gt9 _ (.assign _)); (first | go_big_want | go_step); go_step) | ((with_reducible apply gt9 _ (.binOp .lss _ _ _ _)); (refine wvv9 (V.lss rfl rfl) ?_; go_step)) | ((fail_if_success with_reducible apply ga9); go_step))
      obtain ⟨gk1, hgk1⟩ : ∃ x, x = gk := ⟨_, rfl⟩
      subst hgk1
      go_loopg [3, 4, 16] y (fun gk ov nv kv w => ∃ (j M : Nat) (a' : Option Addr) (c' : Nat) (L : List (Nat × Nat)), gk + j = y ∧ M = m + j ∧ kv = .int .i64 j ∧ nv = .int .i64 (2 * q + j : Nat) ∧ Hid (L = cds (cc C) k ++ (List.range j).map (fun i => (k + 1, 2 * q + i))) ∧ ov = .slice a' M c' ∧ St w0 w [own 91 3 a' M c' ((wfl (S.zip L)).map (Value.int .i64)), prt g1 [.ints C, .val (.slice ad n c)]])
      case atStart => exact ⟨0, m, a', c', _, rfl, rfl, rfl, rfl, hid rfl, rfl, by rw [List.range_zero, List.map_nil, List.append_nil]; exact hS.sub sb9⟩
      case round =>
        clear hS
        obtain ⟨j, M, a2, c2, L, hj, hM, rfl, rfl, HL, rfl, hS⟩ := hrel
        by_cases hlt2 : j < y
        · have HLl : Hid (L.length = M) := hid (by rw [HL.out, List.length_append, cds_len]; simp; have := HM.out; omega)
          have HSn : Hid (wfl (S.zip (L ++ [(k + 1, 2 * q + j)])) = wfl (S.zip L) ++ [nth S M, ((k + 1 : Nat) : Int), ((2 * q + j : Nat) : Int)]) := hid (by
            rw [zip_snoc S L _ (by rw [HLl.out, HSl.out]; omega), wfl_snoc, HLl.out])
          have HL2 : Hid (L ++ [(k + 1, 2 * q + j)] = cds (cc C) k ++ (List.range (j + 1)).map (fun i => (k + 1, 2 * q + i))) := hid (by
            rw [HL.out, List.range_succ, List.map_append, List.append_assoc]; rfl)
          repeat' (first
            | ((with_reducible apply gt9 (some 26) (.binOp .add _ _ _ _)); (refine wplV (.int _ (((k + 1 : Nat) : Int))) (V.as (V.addI rfl rfl (by omega)) (by omega)) rfl ?_; go_step)) | ((with_reducible apply gt9 (some 32) (.binOp .add _ _ _ _)); (refine wplV (.int _ (((2 * q + (j + 1) : Nat) : Int))) (V.as (V.addI rfl rfl (by omega)) (by omega)) rfl ?_; go_step)) | ((with_reducible apply gt9 _ (.move _)); (first | go_big_want | go_step); go_step) | ((with_reducible apply gt9 _ (.assign _)); (first | go_big_want | go_step); go_step) | ((with_reducible apply gt9 _ (.binOp .lss _ _ _ _)); (refine wvv9 (V.lss rfl rfl) ?_; go_step)) | ((with_reducible apply gt9 _ (.fieldAddr 31 _ 1)); (refine wvv9 (V.fieldAddr fo31_1 rfl nq9) ?_; go_step)) | ((with_reducible apply gt9 _ (.call ⟨.builtin .len, _, _⟩)); (refine wvv9 (V.len Tryd.underlying85 rfl) ?_; go_step)) | ((with_reducible apply gt9 (some 23) (.indexAddr 24 _ _)); (refine wpl_indexI (by with_reducible assumption) Tryd.underlying24 isz3 rfl rfl isn9 (by omega) rfl ?_; intro b23 o23 hc23; go_step)) | ((with_reducible apply gt9 _ (.binOp .add _ _ _ _)); (refine wvv9 (V.addI rfl rfl (by omega)) ?_; go_step)) | ((with_reducible apply gt9 (some 28) (.build 91 _)); (refine wvv9 (V.build (vs := [(0, _), (1, _), (2, _)]) rfl (bl91_0_1_2 _ _ _)) ?_; go_step)) | ((with_reducible apply gt9 _ (.load 24 _)); (refine wpl (by kernel_rfl) ?_; apply wp_loadVP hS 24 _ rfl _ _ rfl (one_of rfl) _; (case hp => exact pl9); (case hi => (repeat (first | exact AtV.head | (apply AtV.skipI; (case hn => (first | (with_reducible assumption) | exact Len.rep | exact Len.set (by with_reducible assumption) | exact Len.set Len.rep | exact Len.set (Len.set Len.rep))); (case h => omega); (case ho => rfl)) | apply AtV.skipV))); refine put_move ?_; go_step)) | ((with_reducible apply gt9 _ (.load 3 _)); (refine wpl (by kernel_rfl) ?_; apply wp_loadW hS 3 _ rfl _ rfl (one_of rfl) _; (case hc => with_reducible assumption); refine put_move ?_; go_step)) | ((with_reducible apply gt9 (some 29) (.buildSlice 85 _ _)); (refine wpl (by kernel_rfl) ?_; apply wp_buildSlice1 (o := ⟨some 29, _, _, _, _, _⟩) hS 85 1 _ rfl 91 3 24 el85 _ _; (case hvs => (repeat (first | exact Parts.nil | (apply Parts.agg; (rfl); (rfl)) | (apply Parts.one; exact isv9; (rfl); (rfl))))); (case hn => rfl); (case hn0 => decide); (case hns => decide); clear hS; intro g29 w hS; simp only [List.cons_append, List.nil_append] at hS; refine put_move ?_; go_step)) | ((with_reducible apply gt9 (some 30) (.call ⟨.builtin .append, _, _⟩)); (refine wpl (by kernel_rfl) ?_; apply wp_append (o := ⟨some 30, _, _, _, _, _⟩) hS _ _ 85 rfl 91 3 24 el85 _ _ _ _ rfl; (case hp => exact pl9); (case hx => exact rfl); (case hm => (first | exact hS.slBlk pl9 (by rfl) (by decide) | exact hS.sl pl9 | with_reducible assumption | exact Sl.ext (by with_reducible assumption) hS.1 | exact Sl.nil _ _ | exact Sl.ext (by assumption) hS.1 | assumption)); (case h1 => (first | exact oneAll rfl | exact oneMap _ _ | (intro u hu; cases hu))); (case h63 => unfold maxLen; omega); (case hb => omega); clear hS; intro ad30 c30 w hS; (first | simp only [mapk1] at hS | simp only [mapk2] at hS | simp only [mapk3] at hS | simp only [mapk4] at hS | simp only [mapkl] at hS | skip); refine put_move ?_; go_step)) | ((fail_if_success with_reducible apply ga9); go_step))
          go_roundg (gk - 1)
          case measure => omega
          case rel =>
            refine ⟨j + 1, M + 1, _, _, L ++ [(k + 1, 2 * q + j)], by omega, by omega, by go_num, rfl, HL2, rfl, ?_⟩
            rw [HSn.out]
            exact hS.sub sb9
        · obtain rfl : j = y := by omega
          have HL3 : Hid (L = cds (cc C) (k + 1)) := hid (by rw [HL.out, HCd.out, HQ.out])
          repeat' (first
            | ((with_reducible apply gt9 _ (.move _)); (first | go_big_want | go_step); go_step) | ((with_reducible apply gt9 _ (.binOp .lss _ _ _ _)); (refine wvv9 (V.lss rfl rfl) ?_; go_step)) | ((with_reducible apply gt9 _ (.binOp .add _ _ _ _)); (refine wvv9 (V.addI rfl rfl (by omega)) ?_; go_step)) | ((fail_if_success with_reducible apply ga9); go_step))
          go_roundg (gk1 - 1)
          case measure => omega
          case rel =>
            refine ⟨k + 1, M, 2 * q + j, _, _, by omega, by go_num, by rw [HNx.out, HQ.out], rfl, by rw [HSm.out, hM, HM.out], by omega, rfl, ?_⟩
            rw [← HL3.out]
            exact hS.sub sb9
    · obtain rfl : k = 16 := by omega
      have hmn2 : m = n := by rw [hm, H16.out]
      subst hmn2
      repeat' (first
        | ((with_reducible apply gt9 _ (.move _)); (first | go_big_want | go_step); go_step) | ((with_reducible apply gt9 _ (.assign _)); (first | go_big_want | go_step); go_step) | ((with_reducible apply gt9 _ (.binOp .lss _ _ _ _)); (refine wvv9 (V.lss rfl rfl) ?_; go_step)) | ((fail_if_success with_reducible apply ga9); go_step))
      go_ret
      refine ⟨_, _, rfl, ?_⟩
      unfold wds
      exact hS.sub sb9
/-- What Words gives. -/
def WordsGives (w0 : World) (C S : List Int) (e : Ending) (w : World) : Prop :=
  ∃ a' n' c', n' = (if tabE C S = 0 then S.length else 0) ∧ e = .returned (.tuple #[.slice a' n' c', .int .i64 (tabE C S)]) ∧ St w0 w [own 91 3 a' n' c' ((if tabE C S = 0 then wfl (wds C S) else []).map (Value.int .i64))]
set_option maxRecDepth 100000 in
set_option maxHeartbeats 4000000 in
theorem words_any (w0 : World) (C S : List Int) (ad : Option Addr) (n c : Nat) (hC : Len C 16) (hv : Sl w0 1 (.slice ad n c) n (S.map (Value.int .i64))) (hn : n ≤ 9223372036854775807) :
    Calls Tryd.prog 44 #[tv C (.slice ad n c)] w0 (WordsGives w0 C S) := by
  have hSl : S.length = n := by have := hv.1; simpa using this
  have HSl := hid hSl
  clear hSl
  have hS := St.start w0
  obtain ⟨E, hE⟩ : ∃ E, tabE C S = E := ⟨_, rfl⟩
  have HE := hid hE
  clear hE
  by_cases h0 : E = 0
  · subst h0
    have hck := check_any w0 C S ad n c hC hv hn
    rw [HE.out] at hck
    have HCk := hid hck
    clear hck
    go_enter Tryd.func44, Tryd.ntmps44
    repeat' (first
      | ((with_reducible apply gt9 _ (.call ⟨.value (.func 52), _, _⟩)); refine wpl_call (f := 52) Tryd.call52 (by kernel_rfl) ?_; refine ⟨_, (check_any _ C S ad n c hC (hv.ext hS.1) hn), ?_⟩; rintro e w ⟨rfl, hE2⟩; rw [HE.out]; replace hS := hS.ext hE2; clear hE2; refine ⟨_, rfl, ?_⟩; refine put_move ?_; go_step) | ((with_reducible apply gt9 _ (.call ⟨.value (.func 61), _, _⟩)); refine wpl_call (f := 61) Tryd.call61 (by kernel_rfl) ?_; refine ⟨_, (wordsOf_any _ C S ad n c hC (hv.ext hS.1) hn HE.out), ?_⟩; rintro e w ⟨a2, c2, rfl, hS2⟩; replace hS := hS.call1 hS2; clear hS2; refine ⟨_, rfl, ?_⟩; refine put_move ?_; go_step) | ((with_reducible apply gt9 _ (.move _)); (first | go_big_want | go_step); go_step) | ((with_reducible apply gt9 _ (.assign _)); (first | go_big_want | go_step); go_step) | ((with_reducible apply gt9 _ (.binOp .neq 25 _ _ _)); (refine wvv9 (V.neq rfl rfl) ?_; go_step)) | ((with_reducible apply gt9 (some 1) (.box 31 _)); (refine wpl (by kernel_rfl) ?_; apply wp_boxP (o := ⟨some 1, _, _, _, _, _⟩) hS 31 _ rfl _ rfl; clear hS; intro g1 w hS; refine put_move ?_; go_step)) | ((with_reducible apply gt9 _ (.load 31 _)); (refine wpl (by kernel_rfl) ?_; apply wp_loadPP hS 31 _ rfl _ _ rfl 17 (row_of rfl) _; (case hp => exact pl9); (case hi => (repeat (first | (apply AtP.head; (repeat (first | exact Pre.nil | (apply Pre.ints; (case hn => (first | (with_reducible assumption) | exact Len.rep | exact Len.set (by with_reducible assumption) | exact Len.set Len.rep | exact Len.set (Len.set Len.rep))); (case h => omega); (case hm => rfl)) | apply Pre.val))) | (apply AtP.skipI; (case hn => (first | (with_reducible assumption) | exact Len.rep | exact Len.set (by with_reducible assumption) | exact Len.set Len.rep | exact Len.set (Len.set Len.rep))); (case h => omega); (case ho => rfl)) | apply AtP.skipV))); refine put_move ?_; go_step)) | ((fail_if_success with_reducible apply ga9); go_step))
    refine ret_all (xs := [_, _]) rfl (.cons (OneRes.tmp rfl) (.cons (OneRes.tmp rfl) (.nil))) (by simp) rfl ?_
    refine ⟨a2, n, c2, by rw [if_pos HE.out, HSl.out], ?_, ?_⟩
    · rw [HE.out]; rfl
    · rw [if_pos HE.out]; exact hS.sub sb9
  · go_enter Tryd.func44, Tryd.ntmps44
    repeat' (first
      | ((with_reducible apply gt9 _ (.call ⟨.value (.func 52), _, _⟩)); refine wpl_call (f := 52) Tryd.call52 (by kernel_rfl) ?_; refine ⟨_, (check_any _ C S ad n c hC (hv.ext hS.1) hn), ?_⟩; rintro e w ⟨rfl, hE2⟩; rw [HE.out]; replace hS := hS.ext hE2; clear hE2; refine ⟨_, rfl, ?_⟩; refine put_move ?_; go_step) | ((with_reducible apply gt9 _ (.move _)); (first | go_big_want | go_step); go_step) | ((with_reducible apply gt9 _ (.assign _)); (first | go_big_want | go_step); go_step) | ((with_reducible apply gt9 _ (.binOp .neq 25 _ _ _)); (refine wvv9 (V.neq rfl rfl) ?_; go_step)) | ((with_reducible apply gt9 (some 1) (.box 31 _)); (refine wpl (by kernel_rfl) ?_; apply wp_boxP (o := ⟨some 1, _, _, _, _, _⟩) hS 31 _ rfl _ rfl; clear hS; intro g1 w hS; refine put_move ?_; go_step)) | ((with_reducible apply gt9 _ (.load 31 _)); (refine wpl (by kernel_rfl) ?_; apply wp_loadPP hS 31 _ rfl _ _ rfl 17 (row_of rfl) _; (case hp => exact pl9); (case hi => (repeat (first | (apply AtP.head; (repeat (first | exact Pre.nil | (apply Pre.ints; (case hn => (first | (with_reducible assumption) | exact Len.rep | exact Len.set (by with_reducible assumption) | exact Len.set Len.rep | exact Len.set (Len.set Len.rep))); (case h => omega); (case hm => rfl)) | apply Pre.val))) | (apply AtP.skipI; (case hn => (first | (with_reducible assumption) | exact Len.rep | exact Len.set (by with_reducible assumption) | exact Len.set Len.rep | exact Len.set (Len.set Len.rep))); (case h => omega); (case ho => rfl)) | apply AtP.skipV))); refine put_move ?_; go_step)) | ((fail_if_success with_reducible apply ga9); go_step))
    refine ret_all (xs := [_, _]) rfl (.cons (OneRes.tmp rfl) (.cons (OneRes.tmp rfl) (.nil))) (by simp) rfl ?_
    refine ⟨none, 0, 0, by rw [if_neg (by rw [HE.out]; exact h0)], ?_, ?_⟩
    · rw [HE.out]; rfl
    · rw [if_neg (by rw [HE.out]; exact h0)]; exact (St.of_ext hS.1).nil _ _
end Go.Proofs.YtehbjhocgnfpmaaDoor

/- A result that is a struct in parts. -/
namespace Go.Proofs.YtehbjhocgnfpmaaDoor
set_option maxRecDepth 100000
open Go.RowKit
theorem OneRes.prt {P : Program} {W w : World} {rs rs' : List Res} {tmps : Array Value} {p g n : Nat} {ty : TypeId} {ps : List Part} (hS : St W w rs) (hp : tmps.getD p undef = .pointer (some ⟨g, 0, none⟩)) (h1 : RowN P ty n) (pl : Pull (Go.Proofs.YtehbjhocgnfpmaaDoor.prt g ps) rs rs') (hn : Pre ps n ps) : OneRes P tmps w (.cell p ty) (.agg (pcells ps).toArray) :=
  OneRes.blk hS hp h1 pl hn.take.2
end Go.Proofs.YtehbjhocgnfpmaaDoor

/- The walk of best.Make. -/
namespace Go.Proofs.YtehbjhocgnfpmaaDoor
set_option maxRecDepth 100000
open Go.RowKit
set_option linter.unusedVariables false
abbrev gpks (g n c : Nat) (G : List GP) : Res := pks g n c (G.map gpV)
theorem gp_perm {Q : List PkV} {G : List GP} (h : Q.Perm (G.map gpV)) : ∃ G' : List GP, G'.Perm G ∧ G'.map gpV = Q := perm_lift gpV h G rfl
theorem gp_srt {G : List GP} (h : (G.map gpV).Pairwise (fun a b => a.w ≤ b.w)) : Srt (G.map gpM) := by
  unfold Srt
  rw [List.pairwise_map] at h ⊢
  exact h
theorem star_row {W w : World} {L : List Sr} {rs rs' : List Res} (h : St W w rs) (p : Pull (star (L.map Sr.res)) rs rs') {x : Sr} (hx : x ∈ L) : Sl w 1 (.slice x.ad x.xs.length x.c) x.xs.length (x.xs.map (Value.int .i64)) := by
  obtain ⟨s, hs⟩ := h.starGet p (List.mem_map.2 ⟨x, hx, rfl⟩)
  exact hs.sl (show Pull (own 3 1 x.ad x.xs.length x.c (x.xs.map (Value.int .i64))) (Sr.res x :: s) s from .head)
theorem bl133_0_1 (m0 : Int) (a1 : Option Addr) (n1 c1 : Nat) (w : World) : (Instr.build 133 #[(0, .int .i64 m0), (1, .slice a1 n1 c1)]).run Tryd.prog w = .ok (.agg #[.int .i64 m0, .slice a1 n1 c1]) w := by kernel_rfl
set_option maxRecDepth 100000 in
set_option maxHeartbeats 16000000 in
theorem make_any (w0 : World) (c : List Int) (ad : Option Addr) (n cap : Nat) (hv : Sl w0 1 (.slice ad n cap) n (c.map (Value.int .i64))) (hn : n ≤ 9223372036854775807) (hok : bE c = 0) :
    Calls Tryd.prog 47 #[.slice ad n cap] w0 fun e w => ∃ (f : Int → Nat) (R : List Pk) (C S : List Int) (ao : Option Addr) (co : Nat), RowK (sgs c n) 16 R ∧ f = lng (R.take (2 * (sgs c n).length - 2)) ∧ Len C 16 ∧ (∀ i, i < 16 → nth C i = ((symsK f n (i + 1)).length : Nat)) ∧ S = symsTo f n 16 ∧ e = .returned (.tuple #[tv C (.slice ao S.length co), .int .i64 0]) ∧ St w0 w [own 3 1 ao S.length co (S.map (Value.int .i64))] := by
  have hS := St.start w0
  have hcl : c.length = n := by have := hv.1; simpa using this
  have HCK := hid (fun (w : World) (hE : Ext w0 w) => bcheck_any w c ad n cap (hv.ext hE) hn)
  rw [hok] at HCK
  have hn2 : n ≤ 256 ∧ allIn c 0 9999 = true := by
    unfold bE at hok
    rw [hcl] at hok
    by_cases h : 256 < n
    · rw [if_pos h] at hok; cases hok
    · rw [if_neg h] at hok
      by_cases h2 : allIn c 0 9999 = true
      · exact ⟨by omega, h2⟩
      · rw [if_neg h2] at hok; cases hok
  obtain ⟨hn3, hall⟩ := hn2
  have hrng := (allIn_iff c 0 9999).1 hall
  rw [hcl] at hrng
  have HRNG := hid hrng
  have HV := hid hv
  clear hrng hall hok
  go_enter Tryd.func47, Tryd.ntmps47
  repeat' (first
    | ((with_reducible apply gt9 _ (.call ⟨.value (.func 45), _, _⟩)); refine wpl_call (f := 45) Tryd.call45 (by kernel_rfl) ?_; refine ⟨_, (HCK.out _ hS.1), ?_⟩; rintro e w ⟨rfl, hE2⟩; replace hS := hS.ext hE2; clear hE2; refine ⟨_, rfl, ?_⟩; refine put_move ?_; go_step) | ((with_reducible apply gt9 _ (.move _)); (first | go_big_want | go_step); go_step) | ((with_reducible apply gt9 _ (.assign _)); (first | go_big_want | go_step); go_step) | ((with_reducible apply gt9 (some 22) (.binOp .neq 25 _ _ _)); (refine wvv9 (V.neq rfl rfl) ?_; go_step)) | ((with_reducible apply gt9 (some 2) (.alloc 31)); (refine wpl (by kernel_rfl) ?_; apply wp_allocP (o := ⟨some 2, _, _, _, _, _⟩) hS 31 rfl _ zp31; clear hS; intro g2 w hS; refine put_move ?_; go_step)) | ((fail_if_success with_reducible apply ga9); go_step))
  repeat' (first
    | ((with_reducible apply gt9 (some 25) (.buildSlice _ _ _)); (refine wpl (by kernel_rfl) ?_; apply wp_buildSliceO (o := ⟨some 25, _, _, _, _, _⟩) hS 24 1 _ rfl 3 1 8 el24 _ _; (case hvs => (repeat (first | exact Parts.nil | (apply Parts.agg; (rfl); (rfl)) | (apply Parts.one; exact isv9; (rfl); (rfl))))); (case hn => rfl); (case hn0 => decide); (case hns => decide); clear hS; intro g25 w hS; refine put_move ?_; go_step)) | ((with_reducible apply gt9 (some 27) (.buildSlice _ _ _)); (refine wpl (by kernel_rfl) ?_; apply wp_buildSliceO (o := ⟨some 27, _, _, _, _, _⟩) hS 134 1 _ rfl 133 2 32 el134 _ _; (case hvs => (repeat (first | exact Parts.nil | (apply Parts.agg; (rfl); (rfl)) | (apply Parts.one; exact isv9; (rfl); (rfl))))); (case hn => rfl); (case hn0 => decide); (case hns => decide); clear hS; intro g27 w hS; simp only [List.cons_append, List.nil_append] at hS; refine put_move ?_; go_step)) | ((with_reducible apply gt9 _ (.move _)); (first | go_big_want | go_step); go_step) | ((with_reducible apply gt9 _ (.assign _)); (first | go_big_want | go_step); go_step) | ((with_reducible apply gt9 (some 26) (.build 133 _)); (refine wvv9 (V.build (vs := [(0, _), (1, _)]) rfl (bl133_0_1 _ _ _ _)) ?_; go_step)) | ((with_reducible apply gt9 (some 29) (.call ⟨.builtin .len, _, _⟩)); (refine wvv9 (V.len Tryd.underlying24 rfl) ?_; go_step)) | ((fail_if_success with_reducible apply ga9); go_step))
  have h2 := ((hS.sub (xs := [own 3 1 (some ⟨g25, 0, none⟩) 1 1 [.int .i64 (-1)], own 133 2 (some ⟨g27, 0, none⟩) 1 1 [.int .i64 0, .slice (some ⟨g25, 0, none⟩) 1 1], prt g2 [.ints (List.replicate 16 0), .val (.slice none 0 0)]]) sb9).star0).starPut .head
  clear hS
  go_loopg [5, 30] n (fun gk sv iv w => ∃ (k N : Nat) (aa : Option Addr) (ca : Nat) (G : List GP) (L : List Sr), gk + k = n ∧ N = G.length ∧ N ≤ k + 1 ∧ 1 ≤ N ∧ iv = .int .i64 k ∧ sv = .slice aa N ca ∧ G.map gpM = sgs c k ∧ (∀ p ∈ G, p.r ∈ L) ∧
    St w0 w [own 133 2 aa N ca ((G.map gpV).flatMap pkE), star (L.map Sr.res), prt g2 [.ints (List.replicate 16 0), .val (.slice none 0 0)]])
  case atStart => exact ⟨0, 1, _, _, [⟨0, ⟨some ⟨g25, 0, none⟩, 1, [-1]⟩⟩], [⟨some ⟨g25, 0, none⟩, 1, [-1]⟩], by omega, rfl, by omega, by omega, rfl, rfl, rfl, by intro p hp; simp at hp; subst hp; simp, by
    have h3 := h2.sub (xs := [own 133 2 (some ⟨g27, 0, none⟩) 1 1 [.int .i64 0, .slice (some ⟨g25, 0, none⟩) 1 1], star ([] ++ [own 3 1 (some ⟨g25, 0, none⟩) 1 1 [.int .i64 (-1)]]), prt g2 [.ints (List.replicate 16 0), .val (.slice none 0 0)]]) sb9
    have e1 : ([⟨0, ⟨some ⟨g25, 0, none⟩, 1, [-1]⟩⟩] : List GP).map gpV = [⟨0, some ⟨g25, 0, none⟩, 1, 1⟩] := rfl
    have e2 : ([⟨0, some ⟨g25, 0, none⟩, 1, 1⟩] : List PkV).flatMap pkE = [.int .i64 0, .slice (some ⟨g25, 0, none⟩) 1 1] := rfl
    have e3 : ([⟨some ⟨g25, 0, none⟩, 1, [-1]⟩] : List Sr).map Sr.res = [own 3 1 (some ⟨g25, 0, none⟩) 1 1 [.int .i64 (-1)]] := rfl
    rw [e1, e2, e3]; exact h3⟩
  case round =>
    clear h2
    obtain ⟨k, N, aa, ca, G, L, hk, hN, hN2, hN3, rfl, rfl, hG, hL, hS⟩ := hrel
    have HG := hid hG
    have HL := hid hL
    clear hG hL
    by_cases hlt : k < n
    · have hs := sgs_succ c k
      have hx := HRNG.out k hlt
      obtain ⟨x, hxx⟩ : ∃ x, nth c k = x := ⟨_, rfl⟩
      have HXX := hid hxx
      rw [hxx] at hs hx
      by_cases hx0 : 0 < x
      · rw [if_pos hx0] at hs
        have HSG := hid hs
        clear hs
        repeat' (first
          | ((with_reducible apply gt9 _ (.move _)); (first | go_big_want | go_step); go_step) | ((with_reducible apply gt9 _ (.assign _)); (first | go_big_want | go_step); go_step) | ((with_reducible apply gt9 (some 31) (.binOp .lss _ _ _ _)); (refine wvv9 (V.lss rfl rfl) ?_; go_step)) | ((with_reducible apply gt9 (some 33) (.indexAddr 24 _ _)); (refine wpl_indexI (by with_reducible assumption) Tryd.underlying24 isz3 rfl rfl isn9 (by omega) rfl ?_; intro b33 o33 hc33; go_step)) | ((with_reducible apply gt9 _ (.load 3 _)); (refine wpl (by kernel_rfl) ?_; apply wp_loadW hS 3 _ rfl _ rfl (one_of rfl) _; (case hc => with_reducible assumption); refine put_move ?_; go_step)) | ((fail_if_success with_reducible apply ga9); go_step))
        rw [HXX.out]
        repeat' (first
          | ((with_reducible apply gt9 _ (.move _)); (first | go_big_want | go_step); go_step) | ((with_reducible apply gt9 (some 36) (.binOp .gtr _ _ _ _)); (refine wvv9 (V.gtr rfl rfl) ?_; go_step)) | ((fail_if_success with_reducible apply ga9); go_step))
        repeat' (first
          | ((with_reducible apply gt9 (some 40) (.buildSlice _ _ _)); (refine wpl (by kernel_rfl) ?_; apply wp_buildSliceO (o := ⟨some 40, _, _, _, _, _⟩) hS 24 1 _ rfl 3 1 8 el24 _ _; (case hvs => (repeat (first | exact Parts.nil | (apply Parts.agg; (rfl); (rfl)) | (apply Parts.one; exact isv9; (rfl); (rfl))))); (case hn => rfl); (case hn0 => decide); (case hns => decide); clear hS; intro g40 w hS; refine put_move ?_; go_step)) | ((with_reducible apply gt9 _ (.assign _)); (first | go_big_want | go_step); go_step) | ((with_reducible apply gt9 (some 41) (.build 133 _)); (refine wvv9 (V.build (vs := [(0, _), (1, _)]) rfl (bl133_0_1 _ _ _ _)) ?_; go_step)) | ((with_reducible apply gt9 (some 42) (.buildSlice 134 _ _)); (refine wpl (by kernel_rfl) ?_; apply wp_buildSlice1 (o := ⟨some 42, _, _, _, _, _⟩) hS 134 1 _ rfl 133 2 32 el134 _ _; (case hvs => (repeat (first | exact Parts.nil | (apply Parts.agg; (rfl); (rfl)) | (apply Parts.one; exact isv9; (rfl); (rfl))))); (case hn => rfl); (case hn0 => decide); (case hns => decide); clear hS; intro g42 w hS; simp only [List.cons_append, List.nil_append] at hS; refine put_move ?_; go_step)) | ((with_reducible apply gt9 (some 43) (.call ⟨.builtin .append, _, _⟩)); (refine wpl (by kernel_rfl) ?_; apply wp_append (o := ⟨some 43, _, _, _, _, _⟩) hS _ _ 134 rfl 133 2 32 el134 _ _ _ _ rfl; (case hp => exact pl9); (case hx => exact rfl); (case hm => (first | exact hS.slBlk pl9 (by rfl) (by decide) | exact hS.sl pl9 | with_reducible assumption | exact Sl.ext (by with_reducible assumption) hS.1 | exact Sl.nil _ _ | exact Sl.ext (by assumption) hS.1 | assumption)); (case h1 => (first | exact oneAll rfl | exact oneMap _ _ | (intro u hu; cases hu))); (case h63 => unfold maxLen; omega); (case hb => omega); clear hS; intro ad43 c43 w hS; (first | simp only [mapk1] at hS | simp only [mapk2] at hS | simp only [mapk3] at hS | simp only [mapk4] at hS | simp only [mapkl] at hS | skip); refine put_move ?_; go_step)) | ((fail_if_success with_reducible apply ga9); go_step))
        repeat' (first
          | ((with_reducible apply gt9 (some 44) (.binOp .add _ _ _ _)); (refine wplV (.int _ (((k + 1 : Nat) : Int))) (V.as (V.addI rfl rfl (by omega)) (by omega)) rfl ?_; go_step)) | ((with_reducible apply gt9 _ (.move _)); (first | go_big_want | go_step); go_step) | ((fail_if_success with_reducible apply ga9); go_step))
        have h2 := (hS.sub (xs := [star (L.map Sr.res), own 3 1 (some ⟨g40, 0, none⟩) 1 1 [.int .i64 (k : Nat)], own 133 2 ad43 (N + 1) c43 ((G.map gpV).flatMap pkE ++ [.int .i64 x, .slice (some ⟨g40, 0, none⟩) 1 1]), prt g2 [.ints (List.replicate 16 0), .val (.slice none 0 0)]]) sb9).starPut .head
        go_roundg (gk - 1)
        case measure => omega
        case rel =>
          refine ⟨k + 1, N + 1, ad43, c43, G ++ [⟨x, ⟨some ⟨g40, 0, none⟩, 1, [(k : Int)]⟩⟩], L ++ [⟨some ⟨g40, 0, none⟩, 1, [(k : Int)]⟩], by omega, by simp; omega, by omega, by omega, by go_num, rfl, ?_, ?_, ?_⟩
          · rw [List.map_append, HG.out, HSG.out]; rfl
          · intro p hp
            rcases List.mem_append.1 hp with hp | hp
            · exact List.mem_append_left _ (HL.out p hp)
            · simp at hp; subst hp; simp
          · rw [gp_snoc, List.map_append]
            exact h2.sub (xs := [own 133 2 ad43 (N + 1) c43 ((G.map gpV).flatMap pkE ++ [.int .i64 x, .slice (some ⟨g40, 0, none⟩) 1 1]), star (L.map Sr.res ++ [own 3 1 (some ⟨g40, 0, none⟩) 1 1 [.int .i64 (k : Nat)]]), prt g2 [.ints (List.replicate 16 0), .val (.slice none 0 0)]]) sb9
      · rw [if_neg hx0] at hs
        have HSG := hid hs
        clear hs
        repeat' (first
          | ((with_reducible apply gt9 _ (.move _)); (first | go_big_want | go_step); go_step) | ((with_reducible apply gt9 _ (.assign _)); (first | go_big_want | go_step); go_step) | ((with_reducible apply gt9 (some 31) (.binOp .lss _ _ _ _)); (refine wvv9 (V.lss rfl rfl) ?_; go_step)) | ((with_reducible apply gt9 (some 33) (.indexAddr 24 _ _)); (refine wpl_indexI (by with_reducible assumption) Tryd.underlying24 isz3 rfl rfl isn9 (by omega) rfl ?_; intro b33 o33 hc33; go_step)) | ((with_reducible apply gt9 _ (.load 3 _)); (refine wpl (by kernel_rfl) ?_; apply wp_loadW hS 3 _ rfl _ rfl (one_of rfl) _; (case hc => with_reducible assumption); refine put_move ?_; go_step)) | ((fail_if_success with_reducible apply ga9); go_step))
        rw [HXX.out]
        repeat' (first
          | ((with_reducible apply gt9 (some 36) (.binOp .gtr _ _ _ _)); (refine wvv9 (V.gtr rfl rfl) ?_; go_step)) | ((fail_if_success with_reducible apply ga9); go_step))
        repeat' (first
          | ((with_reducible apply gt9 (some 44) (.binOp .add _ _ _ _)); (refine wplV (.int _ (((k + 1 : Nat) : Int))) (V.as (V.addI rfl rfl (by omega)) (by omega)) rfl ?_; go_step)) | ((with_reducible apply gt9 _ (.move _)); (first | go_big_want | go_step); go_step) | ((fail_if_success with_reducible apply ga9); go_step))
        go_roundg (gk - 1)
        case measure => omega
        case rel => exact ⟨k + 1, N, aa, ca, G, L, by omega, hN, by omega, hN3, by go_num, rfl, by rw [HG.out, HSG.out], HL.out, hS⟩
    · obtain rfl : k = n := by omega
      obtain ⟨g5, rfl⟩ := own_some hS .head (by omega)
      have hNl : (sgs c k).length = N := by rw [← HG.out, List.length_map, hN]
      have HNL := hid hNl
      clear hNl
      replace hS : St w0 wr [gpks g5 N ca G, star (L.map Sr.res), prt g2 [.ints (List.replicate 16 0), .val (.slice none 0 0)]] := hS
      repeat' (first
        | ((with_reducible apply gt9 _ (.move _)); (first | go_big_want | go_step); go_step) | ((with_reducible apply gt9 (some 31) (.binOp .lss _ _ _ _)); (refine wvv9 (V.lss rfl rfl) ?_; go_step)) | ((fail_if_success with_reducible apply ga9); go_step))
      repeat' (first
        | ((with_reducible apply gt9 _ (.call ⟨.value (.func 66), _, _⟩)); refine wpl_call (f := 66) Tryd.call66 (by kernel_rfl) ?_; refine ⟨_, (sortStable_any w0 _ _ _ g5 N ca (G.map gpV) hS .head (by omega)), ?_⟩; rintro e w ⟨rfl, Q0, hQ1, hQ2, hS2⟩; replace hS := hS2; clear hS2; refine ⟨_, rfl, ?_⟩; refine put_move ?_; go_step) | ((with_reducible apply gt9 _ (.move _)); (first | go_big_want | go_step); go_step) | ((fail_if_success with_reducible apply ga9); go_step))
      obtain ⟨G1, hG1, rfl⟩ := gp_perm hQ1
      have hR1 : RowK (sgs c k) 1 (G1.map gpM) := .one _ (HG.out ▸ hG1.map gpM) (gp_srt hQ2)
      have hL1 : ∀ p ∈ G1, p.r ∈ L := fun p hp => HL.out p (hG1.mem_iff.1 hp)
      have hN1 : N = G1.length := by rw [hG1.length_eq]; exact hN
      have HP1 : Hid ((G1.map gpM).Perm (sgs c k)) := HG.out ▸ hG1.map gpM
      have HR1 := hid hR1
      have HL1 := hid hL1
      clear hQ1 hQ2 hR1 hL1 hG1 HL HG hN
      repeat' (first
        | ((with_reducible apply gt9 _ (.call ⟨.value (.func 68), _, _⟩)); refine wpl_call (f := 68) Tryd.call68 (by kernel_rfl) ?_; refine ⟨_, (clone_any w0 _ _ _ g5 N ca (G1.map gpV) hS .head (by omega) (by omega)), ?_⟩; rintro e w ⟨g8, c8, rfl, hS2⟩; replace hS := hS2; clear hS2; refine ⟨_, rfl, ?_⟩; refine put_move ?_; go_step) | ((with_reducible apply gt9 _ (.move _)); (first | go_big_want | go_step); go_step) | ((with_reducible apply gt9 _ (.assign _)); (first | go_big_want | go_step); go_step) | ((fail_if_success with_reducible apply ga9); go_step))
      repeat' (first
        | ((fail_if_success with_reducible apply ga9); go_step))
      go_loopg [8, 49] 15 (fun gk rv iv w => ∃ (j M a8 c8 : Nat) (G2 : List GP) (L : List Sr), gk + j = 15 ∧ M = G2.length ∧ iv = .int .i64 j ∧ rv = .slice (some ⟨a8, 0, none⟩) M c8 ∧ RowK (sgs c k) (j + 1) (G2.map gpM) ∧ (∀ p ∈ G2, p.r ∈ L) ∧ (∀ p ∈ G1, p.r ∈ L) ∧
        St w0 w [gpks a8 M c8 G2, gpks g5 N ca G1, star (L.map Sr.res), prt g2 [.ints (List.replicate 16 0), .val (.slice none 0 0)]])
      case atStart => exact ⟨0, N, g8, c8, G1, L, by omega, hN1, rfl, rfl, HR1.out, HL1.out, HL1.out, hS⟩
      case round =>
        clear hS HL1 HR1
        obtain ⟨j, M, a8, c8, G2, L, hj, hM, rfl, rfl, hR2, hL2, hL1, hS⟩ := hrel
        have hM2 := hR2.len
        rw [HNL.out, List.length_map, ← hM] at hM2
        have HR2 := hid hR2
        have HL1 := hid hL1
        by_cases hlt : j < 15
        · obtain ⟨gk1, hgk1⟩ : ∃ x, x = gk := ⟨_, rfl⟩
          subst hgk1
          have hbd := row_bd HRNG.out hn3 (show j + 1 ≤ 16 by omega) hR2
          have HBD := hid hbd
          have HL2 := hid hL2
          clear hR2 hL1 hL2 hbd
          repeat' (first
            | ((with_reducible apply gt9 _ (.assign _)); (first | go_big_want | go_step); go_step) | ((with_reducible apply gt9 (some 50) (.binOp .lss _ _ _ _)); (refine wvv9 (V.lss rfl rfl) ?_; go_step)) | ((fail_if_success with_reducible apply ga9); go_step))
          go_loopg [9, 10] M (fun gk sv iv w => ∃ (q : Nat) (aa : Option Addr) (ca' : Nat) (GN : List GP) (L : List Sr), gk + q = M ∧ 2 * q ≤ M ∧ q = GN.length ∧ iv = .int .i64 (2 * q : Nat) ∧ sv = .slice aa q ca' ∧ GN.map gpM = (pkgs (G2.map gpM)).take q ∧ (∀ p ∈ GN, p.r ∈ L) ∧ (∀ p ∈ G2, p.r ∈ L) ∧ (∀ p ∈ G1, p.r ∈ L) ∧
            St w0 w [own 133 2 aa q ca' ((GN.map gpV).flatMap pkE), gpks a8 M c8 G2, gpks g5 N ca G1, star (L.map Sr.res), prt g2 [.ints (List.replicate 16 0), .val (.slice none 0 0)]])
          case atStart => exact ⟨0, none, 0, [], L, by omega, by omega, rfl, rfl, rfl, by simp, (fun p hp => by cases hp), HL2.out, HL1.out, hS.nil 133 2⟩
          case round =>
            clear hS HL1 HL2
            obtain ⟨q, aa, ca', GN, L, hq, hqM, hqn, rfl, rfl, hGN, hLN, hL2, hL1, hS⟩ := hrel
            have HGN := hid hGN
            have HLN := hid hLN
            have HL2 := hid hL2
            have HL1 := hid hL1
            clear hGN hLN hL2 hL1
            by_cases hlt2 : 2 * q + 1 < M
            · obtain ⟨p1, hp1, e1, m1⟩ := gp_at G2 (2 * q) (by omega)
              obtain ⟨p2, hp2, e2, m2⟩ := gp_at G2 (2 * q + 1) (by omega)
              have hpk := pkgs_take (G2.map gpM) q (by rw [List.length_map]; omega)
              rw [m1, m2] at hpk
              have b1 := HBD.out (gpM p1) (List.mem_map.2 ⟨p1, hp1, rfl⟩)
              have b2 := HBD.out (gpM p2) (List.mem_map.2 ⟨p2, hp2, rfl⟩)
              have hw1 : 0 ≤ (elt (G2.map gpV) (2 * q)).w ∧ (elt (G2.map gpV) (2 * q)).w ≤ 50000000 := by rw [e1]; exact ⟨b1.1, b1.2.1⟩
              have hw2 : 0 ≤ (elt (G2.map gpV) (2 * q + 1)).w ∧ (elt (G2.map gpV) (2 * q + 1)).w ≤ 50000000 := by rw [e2]; exact ⟨b2.1, b2.2.1⟩
              have hl12 : (([p1.r, p2.r] : List Sr).flatMap (·.xs)).length ≤ 1000000 := by
                have c1 : p1.r.xs.length ≤ 5000 := b1.2.2
                have c2 : p2.r.xs.length ≤ 5000 := b2.2.2
                simp; omega
              have r1 := HL2.out p1 hp1
              have r2 := HL2.out p2 hp2
              have HPK := hid hpk
              have E1 := hid e1
              have E2 := hid e2
              have H12 := hid hl12
              have R1 := hid r1
              have R2 := hid r2
              have he := pkE_len
              have hCC : Hid (∀ (w : World) (g82 : Nat) (rs rs' : List Res), St w0 w rs → Pull (star (L.map Sr.res)) rs rs' → Sl w 1 (.slice (some ⟨g82, 0, none⟩) 2 2) 2 [.slice (elt (G2.map gpV) (2 * q)).ad (elt (G2.map gpV) (2 * q)).n (elt (G2.map gpV) (2 * q)).c, .slice (elt (G2.map gpV) (2 * q + 1)).ad (elt (G2.map gpV) (2 * q + 1)).n (elt (G2.map gpV) (2 * q + 1)).c] →
                  Calls Tryd.prog 69 #[.slice (some ⟨g82, 0, none⟩) 2 2] w fun e w' => ∃ (ad : Option Addr) (c : Nat), e = .returned (.slice ad (p1.r.xs ++ p2.r.xs).length c) ∧ St w w' [own 3 1 ad (p1.r.xs ++ p2.r.xs).length c ((p1.r.xs ++ p2.r.xs).map (Value.int .i64))]) := fun w g82 rs rs' h p hsl => by
                rw [e1, e2] at hsl
                have hc := concat_any w g82 2 2 [p1.r, p2.r] hsl (fun r hr => by
                  simp only [List.mem_cons, List.mem_nil_iff, or_false] at hr
                  rcases hr with rfl | rfl
                  · exact star_row h p r1
                  · exact star_row h p r2) (by omega) hl12
                simpa using hc
              clear hp1 hp2 e1 e2 m1 m2 hpk b1 b2 hl12 r1 r2
              repeat' (first
                | ((with_reducible apply gt9 (some 52) (.binOp .add _ _ _ _)); (refine wplV (.int _ (((2 * q + 1 : Nat) : Int))) (V.as (V.addI rfl rfl (by omega)) (by omega)) rfl ?_; go_step)) | ((with_reducible apply gt9 _ (.move _)); (first | go_big_want | go_step); go_step) | ((with_reducible apply gt9 (some 54) (.call ⟨.builtin .len, _, _⟩)); (refine wvv9 (V.len Tryd.underlying134 rfl) ?_; go_step)) | ((with_reducible apply gt9 (some 55) (.binOp .lss _ _ _ _)); (refine wvv9 (V.lss rfl rfl) ?_; go_step)) | ((fail_if_success with_reducible apply ga9); go_step))
              refine drawn_lit [27, 28] (fun w => St w0 w [gpks a8 M c8 G2]) (by kernel_rfl) ?_
              replace hS := hS.drew
              focus
                refine takeM 0 _ al9 (by kernel_rfl) (by kernel_rfl) (by kernel_rfl) (by exact fun _ _ _ _ h => h) rfl ?_
                go_step
                refine takeM 1 _ al9 (by kernel_rfl) (by kernel_rfl) (by kernel_rfl) (by exact fun _ _ _ _ h => h) rfl ?_
                go_step
                refine takeM 2 _ al9 (by kernel_rfl) (by kernel_rfl) (by kernel_rfl) (by exact fun _ _ _ _ h => h) rfl ?_
                go_step
                (refine takeV 3 _ al9 (by kernel_rfl) (by kernel_rfl) (by kernel_rfl) (by exact fun _ _ _ _ h => h) (V.indexSl Tryd.underlying134 isz133 rfl rfl isn9 (by omega) rfl nq9) rfl ?_)
                go_step
                (refine takeV 4 _ al9 (by kernel_rfl) (by kernel_rfl) (by kernel_rfl) (by exact fun _ _ _ _ h => h) (V.fieldAddr fo133_0 rfl nq9) rfl ?_)
                go_step
                apply takeS 5 al9 (by kernel_rfl) (by kernel_rfl) (by kernel_rfl) (by exact fun _ _ _ _ h => h) [12, 26, 27, 28, 29] (by kernel_rfl) (hS.sub sb9)
                case hfr => intro w hS; ((refine wpl (by kernel_rfl) ?_; apply wp_load1E0 hS 3 _ rfl _ _ rfl (one_of rfl) _ _ _ _ _ _; (case hp => exact pl9); (case inst => infer_instance); (case he => with_reducible assumption); (case hq => exact rfl); (case hj => omega); (case hv => exact rfl); refine put_move ?_; go_step)); refine wpList_nil ?_; exact ⟨rfl, rfl⟩
                case hd => rfl
                refine takeM 6 _ al9 (by kernel_rfl) (by kernel_rfl) (by kernel_rfl) (by exact fun _ _ _ _ h => h) rfl ?_
                go_step
                refine takeM 7 _ al9 (by kernel_rfl) (by kernel_rfl) (by kernel_rfl) (by exact fun _ _ _ _ h => h) rfl ?_
                go_step
                (refine takeV 8 (.int _ (((2 * q + 1 : Nat) : Int))) al9 (by kernel_rfl) (by kernel_rfl) (by kernel_rfl) (by exact fun _ _ _ _ h => h) (V.as (V.addI rfl rfl (by omega)) (by omega)) rfl ?_)
                go_step
                (refine takeV 9 _ al9 (by kernel_rfl) (by kernel_rfl) (by kernel_rfl) (by exact fun _ _ _ _ h => h) (V.indexSl Tryd.underlying134 isz133 rfl rfl isn9 (by omega) rfl nq9) rfl ?_)
                go_step
                (refine takeV 10 _ al9 (by kernel_rfl) (by kernel_rfl) (by kernel_rfl) (by exact fun _ _ _ _ h => h) (V.fieldAddr fo133_0 rfl nq9) rfl ?_)
                go_step
                apply takeS 11 al9 (by kernel_rfl) (by kernel_rfl) (by kernel_rfl) (by exact fun _ _ _ _ h => h) [12, 26, 27, 28, 29] (by kernel_rfl) (hS.sub sb9)
                case hfr => intro w hS; ((refine wpl (by kernel_rfl) ?_; apply wp_load1E0 hS 3 _ rfl _ _ rfl (one_of rfl) _ _ _ _ _ _; (case hp => exact pl9); (case inst => infer_instance); (case he => with_reducible assumption); (case hq => exact rfl); (case hj => omega); (case hv => exact rfl); refine put_move ?_; go_step)); refine wpList_nil ?_; exact ⟨rfl, rfl⟩
                case hd => rfl
                (refine takeV 12 _ al9 (by kernel_rfl) (by kernel_rfl) (by kernel_rfl) (by exact fun _ _ _ _ h => h) (V.addI rfl rfl (by omega)) rfl ?_)
                go_step
                refine takeM 13 _ al9 (by kernel_rfl) (by kernel_rfl) (by kernel_rfl) (by exact fun _ _ _ _ h => h) rfl ?_
                go_step
                refine takeM 14 _ al9 (by kernel_rfl) (by kernel_rfl) (by kernel_rfl) (by exact fun _ _ _ _ h => h) rfl ?_
                go_step
                (refine takeV 15 _ al9 (by kernel_rfl) (by kernel_rfl) (by kernel_rfl) (by exact fun _ _ _ _ h => h) (V.indexSl Tryd.underlying134 isz133 rfl rfl isn9 (by omega) rfl nq9) rfl ?_)
                go_step
                (refine takeV 16 _ al9 (by kernel_rfl) (by kernel_rfl) (by kernel_rfl) (by exact fun _ _ _ _ h => h) (V.fieldAddr fo133_1 rfl nq9) rfl ?_)
                go_step
                apply takeS 17 al9 (by kernel_rfl) (by kernel_rfl) (by kernel_rfl) (by exact fun _ _ _ _ h => h) [24, 25, 26, 27, 28, 29] (by kernel_rfl) (hS.sub sb9)
                case hfr => intro w hS; ((refine wpl (by kernel_rfl) ?_; apply wp_load1E hS 24 _ rfl _ _ rfl (one_of rfl) _ _ _ _ _ _; (case hp => exact pl9); (case inst => infer_instance); (case he => with_reducible assumption); (case hq => exact rfl); (case hj => omega); (case hv => exact rfl); refine put_move ?_; go_step)); refine wpList_nil ?_; exact ⟨rfl, rfl⟩
                case hd => rfl
                refine takeM 18 _ al9 (by kernel_rfl) (by kernel_rfl) (by kernel_rfl) (by exact fun _ _ _ _ h => h) rfl ?_
                go_step
                refine takeM 19 _ al9 (by kernel_rfl) (by kernel_rfl) (by kernel_rfl) (by exact fun _ _ _ _ h => h) rfl ?_
                go_step
                (refine takeV 20 _ al9 (by kernel_rfl) (by kernel_rfl) (by kernel_rfl) (by exact fun _ _ _ _ h => h) (V.addI rfl rfl (by omega)) rfl ?_)
                go_step
                (refine takeV 21 _ al9 (by kernel_rfl) (by kernel_rfl) (by kernel_rfl) (by exact fun _ _ _ _ h => h) (V.indexSl Tryd.underlying134 isz133 rfl rfl isn9 (by omega) rfl nq9) rfl ?_)
                go_step
                (refine takeV 22 _ al9 (by kernel_rfl) (by kernel_rfl) (by kernel_rfl) (by exact fun _ _ _ _ h => h) (V.fieldAddr fo133_1 rfl nq9) rfl ?_)
                go_step
                apply takeS 23 al9 (by kernel_rfl) (by kernel_rfl) (by kernel_rfl) (by exact fun _ _ _ _ h => h) [24, 25, 26, 27, 28, 29] (by kernel_rfl) (hS.sub sb9)
                case hfr => intro w hS; ((refine wpl (by kernel_rfl) ?_; apply wp_load1E hS 24 _ rfl _ _ rfl (one_of rfl) _ _ _ _ _ _; (case hp => exact pl9); (case inst => infer_instance); (case he => with_reducible assumption); (case hq => exact rfl); (case hj => omega); (case hv => exact rfl); refine put_move ?_; go_step)); refine wpList_nil ?_; exact ⟨rfl, rfl⟩
                case hd => rfl
                refine branch1 24 al9 rfl (by kernel_rfl) ?_
                (refine wp_buildSlice1 (o := ⟨some 82, _, _, _, _, _⟩) hS 160 2 _ rfl 24 1 24 el160 _ _ (by (repeat (first | exact Parts.nil | (apply Parts.agg; (rfl); (rfl)) | (apply Parts.one; exact isv9; (rfl); (rfl))))) (by rfl) (by decide) (by decide) ?_; clear hS; intro g82 w hS)
                refine ⟨fun _ _ => hS.sub sb9, ?_⟩
                refine drawn_move ?_
                go_step
                refine branch1 25 al9 rfl (by kernel_rfl) ?_
                refine wp_callF (f := 69) rfl Tryd.call69 (hCC.out _ _ _ _ hS pl9 (hS.slBlk (n := 2) pl9 (by rfl) (by decide))) ?_; rintro e w ⟨ad83, c83, rfl, hS2⟩; replace hS := hS.call1 hS2; clear hS2; refine ⟨_, rfl, ?_⟩
                refine ⟨fun _ _ => hS.sub sb9, ?_⟩
                refine drawn_move ?_
                go_step
                (refine takeV 26 _ al9 (by kernel_rfl) (by kernel_rfl) (by kernel_rfl) (by exact fun _ _ _ _ h => h) (V.build (vs := [(0, _), (1, _)]) rfl (bl133_0_1 _ _ _ _)) rfl ?_)
                go_step
                refine branch1 27 al9 rfl (by kernel_rfl) ?_
                (refine wp_buildSlice1 (o := ⟨some 85, _, _, _, _, _⟩) hS 134 1 _ rfl 133 2 32 el134 _ _ (by (repeat (first | exact Parts.nil | (apply Parts.agg; (rfl); (rfl)) | (apply Parts.one; exact isv9; (rfl); (rfl))))) (by rfl) (by decide) (by decide) ?_; clear hS; intro g85 w hS; simp only [List.cons_append, List.nil_append] at hS)
                refine ⟨fun h => absurd (by decide) h, ?_⟩
                refine drawn_move ?_
                go_step
                refine branch1 28 al9 rfl (by kernel_rfl) ?_
                (refine wp_append (o := ⟨some 86, _, _, _, _, _⟩) hS _ _ 134 rfl 133 2 32 el134 _ _ _ _ rfl pl9 _ rfl _ _ (by (first | exact hS.slBlk pl9 (by rfl) (by decide) | exact hS.sl pl9 | with_reducible assumption | exact Sl.ext (by with_reducible assumption) hS.1 | exact Sl.nil _ _ | exact Sl.ext (by assumption) hS.1 | assumption)) (by (first | exact oneAll rfl | exact oneMap _ _ | (intro u hu; cases hu))) (by unfold maxLen; omega) (by omega) ?_; clear hS; intro ad86 c86 w hS; (first | simp only [mapk1] at hS | simp only [mapk2] at hS | simp only [mapk3] at hS | simp only [mapk4] at hS | simp only [mapkl] at hS | skip))
                refine ⟨fun h => absurd (by decide) h, ?_⟩
                refine drawn_move ?_
                go_step
                refine takeA 29 _ al9 (by kernel_rfl) (by kernel_rfl) (by kernel_rfl) (by exact fun _ _ _ _ h => h) rfl ?_
                go_step
                refine drawn_done (by kernel_rfl) ?_ _
              repeat' (first
                | ((with_reducible apply gt9 (some 57) (.binOp .add _ _ _ _)); (refine wplV (.int _ (((2 * (q + 1) : Nat) : Int))) (V.as (V.addI rfl rfl (by omega)) (by omega)) rfl ?_; go_step)) | ((with_reducible apply gt9 _ (.move _)); (first | go_big_want | go_step); go_step) | ((with_reducible apply gt9 _ (.assign _)); (first | go_big_want | go_step); go_step) | ((fail_if_success with_reducible apply ga9); go_step))
              obtain ⟨w12, hw12⟩ : ∃ w12, (elt (G2.map gpV) (2 * q)).w + (elt (G2.map gpV) (2 * q + 1)).w = w12 := ⟨_, rfl⟩
              rw [hw12] at hS
              have h2 := (hS.sub (xs := [star (L.map Sr.res), own 3 1 ad83 (p1.r.xs ++ p2.r.xs).length c83 ((p1.r.xs ++ p2.r.xs).map (Value.int .i64)), own 133 2 ad86 (q + 1) c86 ((GN.map gpV).flatMap pkE ++ [.int .i64 w12, .slice ad83 (p1.r.xs ++ p2.r.xs).length c83]), gpks a8 M c8 G2, gpks g5 N ca G1, prt g2 [.ints (List.replicate 16 0), .val (.slice none 0 0)]]) sb9).starPut .head
              go_roundg (gk - 1)
              case measure => omega
              case rel =>
                refine ⟨q + 1, ad86, c86, GN ++ [⟨w12, ⟨ad83, c83, p1.r.xs ++ p2.r.xs⟩⟩], L ++ [⟨ad83, c83, p1.r.xs ++ p2.r.xs⟩], by omega, by omega, by simp; omega, by go_num, rfl, ?_, ?_, fun p hp => List.mem_append_left _ (HL2.out p hp), fun p hp => List.mem_append_left _ (HL1.out p hp), ?_⟩
                · rw [List.map_append, HGN.out, HPK.out, ← hw12, E1.out, E2.out]; rfl
                · intro p hp
                  rcases List.mem_append.1 hp with hp | hp
                  · exact List.mem_append_left _ (HLN.out p hp)
                  · simp at hp; subst hp; simp
                · rw [gp_snoc, List.map_append]
                  exact h2.sub (xs := [own 133 2 ad86 (q + 1) c86 ((GN.map gpV).flatMap pkE ++ [.int .i64 w12, .slice ad83 (p1.r.xs ++ p2.r.xs).length c83]), gpks a8 M c8 G2, gpks g5 N ca G1, star (L.map Sr.res ++ [own 3 1 ad83 (p1.r.xs ++ p2.r.xs).length c83 ((p1.r.xs ++ p2.r.xs).map (Value.int .i64))]), prt g2 [.ints (List.replicate 16 0), .val (.slice none 0 0)]]) sb9
            · have hGN2 : GN.map gpM = pkgs (G2.map gpM) := by rw [HGN.out, List.take_of_length_le (by rw [pairs_len, List.length_map]; omega)]
              have HGN2 := hid hGN2
              clear hGN2 HGN
              have he := pkE_all (G1.map gpV)
              repeat' (first
                | ((with_reducible apply gt9 (some 52) (.binOp .add _ _ _ _)); (refine wplV (.int _ (((2 * q + 1 : Nat) : Int))) (V.as (V.addI rfl rfl (by omega)) (by omega)) rfl ?_; go_step)) | ((with_reducible apply gt9 _ (.move _)); (first | go_big_want | go_step); go_step) | ((with_reducible apply gt9 (some 54) (.call ⟨.builtin .len, _, _⟩)); (refine wvv9 (V.len Tryd.underlying134 rfl) ?_; go_step)) | ((with_reducible apply gt9 (some 55) (.binOp .lss _ _ _ _)); (refine wvv9 (V.lss rfl rfl) ?_; go_step)) | ((fail_if_success with_reducible apply ga9); go_step))
              repeat' (first
                | ((with_reducible apply gt9 (some 89) _); refine wpl (by kernel_rfl) ?_; refine wp_append (o := ⟨some 89, _, _, _, _, _⟩) hS _ _ 134 rfl 133 2 32 el134 _ _ _ _ rfl pl9 _ rfl N _ (hS.sl (show Pull (gpks g5 N ca G1) _ _ from pl9)) he (by unfold maxLen; omega) (by omega) ?_; clear hS; intro ad89 c89 w hS; refine put_move ?_; go_step) | ((with_reducible apply gt9 _ (.move _)); (first | go_big_want | go_step); go_step) | ((with_reducible apply gt9 _ (.assign _)); (first | go_big_want | go_step); go_step) | ((fail_if_success with_reducible apply ga9); go_step))
              rw [← gp_app] at hS
              obtain ⟨g89, rfl⟩ := own_some hS .head (by omega)
              repeat' (first
                | ((with_reducible apply gt9 _ (.call ⟨.value (.func 66), _, _⟩)); refine wpl_call (f := 66) Tryd.call66 (by kernel_rfl) ?_; refine ⟨_, (sortStable_any w0 _ _ _ g89 (q + N) c89 ((GN ++ G1).map gpV) hS .head (by omega)), ?_⟩; rintro e w ⟨rfl, Q0, hQ1, hQ2, hS2⟩; replace hS := hS2; clear hS2; refine ⟨_, rfl, ?_⟩; refine put_move ?_; go_step) | ((fail_if_success with_reducible apply ga9); go_step))
              obtain ⟨G3, hG3, rfl⟩ := gp_perm hQ1
              have hR3 : RowK (sgs c k) (j + 2) (G3.map gpM) := by
                refine RowK.more HR2.out ?_ (gp_srt hQ2)
                have := hG3.map gpM
                rw [List.map_append, HGN2.out] at this
                exact this.trans (List.Perm.append_left _ HP1.out)
              have hL3 : ∀ p ∈ G3, p.r ∈ L := fun p hp => (List.mem_append.1 (hG3.mem_iff.1 hp)).elim (HLN.out p) (HL1.out p)
              have hN3' : q + N = G3.length := by rw [hG3.length_eq, List.length_append, ← hqn, ← hN1]
              have HR3 := hid hR3
              have HL3 := hid hL3
              clear hQ1 hQ2 hR3 hL3 hG3
              repeat' (first
                | ((with_reducible apply gt9 (some 92) (.binOp .add _ _ _ _)); (refine wplV (.int _ (((j + 1 : Nat) : Int))) (V.as (V.addI rfl rfl (by omega)) (by omega)) rfl ?_; go_step)) | ((with_reducible apply gt9 _ (.move _)); (first | go_big_want | go_step); go_step) | ((fail_if_success with_reducible apply ga9); go_step))
              go_roundg (gk1 - 1)
              case measure => omega
              case rel => exact ⟨j + 1, q + N, g89, c89, G3, L, by omega, hN3', by go_num, rfl, HR3.out, HL3.out, HL1.out, hS.sub sb9⟩
        · obtain rfl : j = 15 := by omega
          have HL2 := hid hL2
          clear hR2 hL2 hL1 HL1
          obtain ⟨Tn, hTn⟩ : ∃ Tn, 2 * N - 2 = Tn := ⟨_, rfl⟩
          have hMc : M ≤ c8 := by
            have := hS.sl (show Pull (gpks a8 M c8 G2) _ _ from .head)
            obtain ⟨_, _, _, e, h1, _⟩ := this
            cases e; exact h1
          have hlong := HR2.out.long (by rw [HNL.out]; omega)
          rw [HNL.out, List.length_map, ← hM] at hlong
          have hd0 : N / 2 ^ (15 + 1 - 1) = 0 := Nat.div_eq_of_lt (by omega)
          rw [hd0] at hlong
          have hTM : Tn ≤ M := by omega
          clear hd0 hlong
          obtain ⟨f, hf⟩ : ∃ f : Int → Nat, f = lng ((G2.map gpM).take Tn) := ⟨_, rfl⟩
          replace hS := hS.sub (xs := [gpks a8 M c8 G2, gpks g5 N ca G1, star (L.map Sr.res), prt g2 [.ints (List.replicate 16 0), .val (.slice none 0 0)]]) sb9
          repeat' (first
            | ((with_reducible apply gt9 (some 50) (.binOp .lss _ _ _ _)); (refine wvv9 (V.lss rfl rfl) ?_; go_step)) | ((fail_if_success with_reducible apply ga9); go_step))
          repeat' (first
            | ((with_reducible apply gt9 (some 97) (.binOp .mul _ _ _ _)); (refine wplV (.int _ (((2 * N : Nat) : Int))) (V.as (V.mulI rfl rfl (by omega)) (by omega)) rfl ?_; go_step)) | ((with_reducible apply gt9 (some 98) (.binOp .sub _ _ _ _)); (refine wplV (.int _ (((Tn : Nat) : Int))) (V.as (V.subI rfl rfl (by omega)) (by omega)) rfl ?_; go_step)) | ((with_reducible apply gt9 _ (.move _)); (first | go_big_want | go_step); go_step) | ((with_reducible apply gt9 _ (.assign _)); (first | go_big_want | go_step); go_step) | ((with_reducible apply gt9 (some 96) (.call ⟨.builtin .len, _, _⟩)); (refine wvv9 (V.len Tryd.underlying134 rfl) ?_; go_step)) | ((with_reducible apply gt9 (some 99) (.slice 134 _ _ _ _)); (refine wvv9 (V.slice Tryd.underlying134 isz133 rfl (by (first | exact Lo.none | exact Lo.some rfl isn9)) (by (first | exact Up.none | exact Up.some rfl isn9)) (by omega) (by omega)) ?_; go_step)) | ((with_reducible apply gt9 (some 100) (.call ⟨.builtin .len, _, _⟩)); (refine wvv9 (V.len Tryd.underlying134 rfl) ?_; go_step)) | ((with_reducible apply gt9 (some 93) (.makeMap 89 _)); (refine wpl (by kernel_rfl) ?_; apply wp_makeMap (o := ⟨some 93, _, _, _, _, _⟩) ik hS 89 rfl; clear hS; intro g93 w hS; refine put_move ?_; go_step)) | ((fail_if_success with_reducible apply ga9); go_step))
          replace hS := hS.sub (xs := [mp ik g93 (fun _ => none), gpks a8 M c8 G2, star (L.map Sr.res), prt g2 [.ints (List.replicate 16 0), .val (.slice none 0 0)]]) sb9
          rw [cutAt_zero, Nat.sub_zero, Nat.sub_zero]
          rw [← cntF_nil] at hS
          go_loopg [101] Tn (fun gk iv w => ∃ (a : Nat), gk + a = Tn ∧ iv = .int .i64 a ∧ St w0 w [mp ik g93 (cntF (syl ((G2.map gpM).take a))), gpks a8 M c8 G2, star (L.map Sr.res), prt g2 [.ints (List.replicate 16 0), .val (.slice none 0 0)]])
          case atStart => exact ⟨0, by omega, rfl, hS⟩
          case round =>
            clear hS
            obtain ⟨a, ha, rfl, hS⟩ := hrel
            by_cases hlt3 : a < Tn
            · obtain ⟨gk2, hgk2⟩ : ∃ x, x = gk := ⟨_, rfl⟩
              subst hgk2
              obtain ⟨⟨pw, pa, pcp, px⟩, hp, e1, m1⟩ := gp_at G2 a (by omega)
              have hpr : (⟨pa, pcp, px⟩ : Sr) ∈ L := HL2.out _ hp
              have e1' : elt (G2.map gpV) a = ⟨pw, pa, px.length, pcp⟩ := e1
              have htk : syl ((G2.map gpM).take (a + 1)) = syl ((G2.map gpM).take a) ++ px := by
                have hlt4 : a < (G2.map gpM).length := by rw [List.length_map]; omega
                rw [List.take_succ_eq_append_getElem hlt4, syl_append, syl_cons]
                have : (G2.map gpM)[a] = gpM ⟨pw, ⟨pa, pcp, px⟩⟩ := by rw [← m1]; exact elt_get _ _ hlt4
                rw [this]; simp [gpM, syl]
              have hpl : px.length ≤ 5000 := (row_bd HRNG.out hn3 (by omega) HR2.out (gpM ⟨pw, ⟨pa, pcp, px⟩⟩) (List.mem_map.2 ⟨_, hp, rfl⟩)).2.2
              have HTK := hid htk
              have HPR := hid hpr
              have E1 := hid e1'
              obtain ⟨Y, hY⟩ : ∃ Y, syl ((G2.map gpM).take a) = Y := ⟨_, rfl⟩
              rw [hY] at hS HTK
              have HY := hid hY
              clear htk hpr e1' e1 m1 hp hY
              have he := pkE_len
              repeat' (first
                | ((with_reducible apply gt9 (some 102) (.binOp .lss _ _ _ _)); (refine wvv9 (V.lss rfl rfl) ?_; go_step)) | ((with_reducible apply gt9 (some 103) (.indexAddr 134 _ _)); (refine wvv9 (V.indexSl Tryd.underlying134 isz133 rfl rfl isn9 (by omega) rfl nq9) ?_; go_step)) | ((with_reducible apply gt9 _ (.load 133 _)); (refine wpl (by kernel_rfl) ?_; apply wp_loadE hS 133 _ rfl _ _ rfl 2 (row_of rfl) _ _ _ _ _; (case hp => exact pl9); (case inst => infer_instance); (case he => with_reducible assumption); (case hq => exact rfl); (case hj => omega); refine put_move ?_; go_step)) | ((with_reducible apply gt9 (some 13) (.alloc 133)); (refine wpl (by kernel_rfl) ?_; apply wp_alloc (o := ⟨some 13, _, _, _, _, _⟩) hS 133 rfl (.agg #[.int .i64 0, .slice none 0 0]) [.int .i64 0, .slice none 0 0] (fun w => Tryd.zeroValue133 w) rfl; clear hS; intro g13 w hS; refine put_move ?_; go_step)) | ((with_reducible apply gt9 _ (.store 133 _ _)); (refine wpl (by kernel_rfl) ?_; apply wp_storeG hS 133 _ _ rfl _ rfl 2 (row_of rfl) _ _; (case hp => exact pl9); (case hy => rfl); (case hn => rfl); (case hn' => rfl); (case hv => rfl); (case hd => exact rfl); clear hS; intro w hS)) | ((fail_if_success with_reducible apply ga9); go_step))
              rw [E1.out] at hS
              have hYl : Y.length ≤ 5000 := by
                have h1 := HR2.out.syll
                rw [sgs_syl, HNL.out] at h1
                have h2 : syl (G2.map gpM) = syl ((G2.map gpM).take a) ++ syl ((G2.map gpM).drop a) := by rw [← syl_append, List.take_append_drop]
                rw [h2, List.length_append, HY.out] at h1
                omega
              repeat' (first
                | ((with_reducible apply gt9 _ (.move _)); (first | go_big_want | go_step); go_step) | ((with_reducible apply gt9 (some 105) (.fieldAddr 133 _ 1)); (refine wvv9 (V.fieldAddr fo133_1 rfl nq9) ?_; go_step)) | ((with_reducible apply gt9 (some 107) (.call ⟨.builtin .len, _, _⟩)); (refine wvv9 (V.len Tryd.underlying24 rfl) ?_; go_step)) | ((with_reducible apply gt9 _ (.load 24 _)); (refine wpl (by kernel_rfl) ?_; apply wp_load1 hS 24 _ rfl _ _ rfl (one_of rfl) _; (case hp => exact pl9); (case hc => rfl); refine put_move ?_; go_step)) | ((fail_if_success with_reducible apply ga9); go_step))
              replace hS := hS.sub (xs := [mp ik g93 (cntF Y), gpks a8 M c8 G2, star (L.map Sr.res), prt g2 [.ints (List.replicate 16 0), .val (.slice none 0 0)]]) sb9
              go_loopg [108] px.length (fun gk iv w => ∃ (b : Nat), gk + b = px.length ∧ iv = .int .i64 b ∧ St w0 w [mp ik g93 (cntF (Y ++ px.take b)), gpks a8 M c8 G2, star (L.map Sr.res), prt g2 [.ints (List.replicate 16 0), .val (.slice none 0 0)]])
              case atStart => exact ⟨0, by omega, rfl, by rw [List.take_zero, List.append_nil]; exact hS⟩
              case round =>
                clear hS
                obtain ⟨b, hb, rfl, hS⟩ := hrel
                by_cases hlt4 : b < px.length
                · have hrow : Sl wr 1 (.slice pa px.length pcp) px.length (px.map (Value.int .i64)) := star_row hS (show Pull (star (L.map Sr.res)) _ _ from pl9) HPR.out
                  obtain ⟨_, a1, c1, e1, _, _, hor⟩ := hrow
                  cases e1
                  rcases hor with h0 | ⟨b0, o0, rfl, hc⟩
                  · omega
                  have hcw := hc b (by omega)
                  rw [List.getElem?_map, get_nth px b hlt4] at hcw
                  replace hcw : wr.cell? ⟨b0, o0 + b, none⟩ = some (.int .i64 (nth px b)) := hcw
                  have htk2 : Y ++ px.take (b + 1) = (Y ++ px.take b) ++ [nth px b] := by
                    rw [List.take_succ_eq_append_getElem hlt4, List.append_assoc]
                    simp [nth, List.getD, hlt4]
                  have hZl : (Y ++ px.take b).length ≤ 10000 := by rw [List.length_append, List.length_take]; omega
                  obtain ⟨s, hs⟩ : ∃ s, nth px b = s := ⟨_, rfl⟩
                  obtain ⟨Z, hZ⟩ : ∃ Z, Y ++ px.take b = Z := ⟨_, rfl⟩
                  rw [hs] at hcw htk2
                  rw [hZ] at htk2 hZl hS
                  have hcl2 := List.count_le_length (a := s) (l := Z)
                  obtain ⟨m, hm⟩ : ∃ m, Z.count s = m := ⟨_, rfl⟩
                  have HTK2 := hid htk2
                  have HSN := hid (cntF_snoc Z s)
                  rw [hm] at hcl2 HSN
                  have hfe : cntF Z s = if m = 0 then none else some (.int .i64 (m : Nat)) := by rw [← hm]; rfl
                  clear hs hZ htk2 hc hm
                  repeat' (first
                    | ((with_reducible apply gt9 (some 111) _); refine wpl (by kernel_rfl) ?_; refine wp_load (o := ⟨some 111, _, _, _, _, _⟩) 3 _ rfl _ rfl (one_of rfl) _ hcw ?_; refine put_move ?_; go_step) | ((with_reducible apply gt9 _ (.move _)); (first | go_big_want | go_step); go_step) | ((with_reducible apply gt9 _ (.assign _)); (first | go_big_want | go_step); go_step) | ((with_reducible apply gt9 (some 109) (.binOp .lss _ _ _ _)); (refine wvv9 (V.lss rfl rfl) ?_; go_step)) | ((with_reducible apply gt9 (some 110) (.indexAddr 24 _ _)); (refine wvv9 (V.indexSl Tryd.underlying24 isz3 rfl rfl isn9 (by omega) (Nat.mul_one _) nq9) ?_; go_step)) | ((fail_if_success with_reducible apply ga9); go_step))
                  by_cases hm0 : m = 0
                  · rw [if_pos hm0] at hfe
                    repeat' (first
                      | ((with_reducible apply gt9 (some 115) (.binOp .add _ _ _ _)); (refine wplV (.int _ (((m + 1 : Nat) : Int))) (V.as (V.addI rfl rfl (by omega)) (by omega)) rfl ?_; go_step)) | ((with_reducible apply gt9 (some 116) (.binOp .add _ _ _ _)); (refine wplV (.int _ (((b + 1 : Nat) : Int))) (V.as (V.addI rfl rfl (by omega)) (by omega)) rfl ?_; go_step)) | ((with_reducible apply gt9 _ (.move _)); (first | go_big_want | go_step); go_step) | ((with_reducible apply gt9 (some 114) (.lookup 89 _ _ _)); (refine wpl (by kernel_rfl) ?_; apply wp_lookupN (enc := ik) hS 89 _ _ rfl _ rfl _ rfl Tryd.underlying89 (keyLaw_int Tryd.underlying3) (.int .i64 0) (fun w => Tryd.zeroValue3 w) _; (case hp => exact pl9); (case hf => with_reducible assumption); refine put_move ?_; go_step)) | ((with_reducible apply gt9 _ (.mapUpdate 89 _ _ _)); (refine wpl (by kernel_rfl) ?_; apply wp_mapUpdate (enc := ik) hS 89 _ _ _ rfl _ rfl _ rfl Tryd.underlying89 (keyLaw_int Tryd.underlying3) _; (case hp => exact pl9); (case hv => (first | exact IsV.int rfl | exact IsV.bool rfl | exact IsV.slice rfl | exact IsV.pointer rfl | exact IsV.string rfl | exact IsV.map rfl | exact IsV.func rfl | exact IsV.agg rfl)); (case hd => exact rfl); clear hS; intro w hS)) | ((fail_if_success with_reducible apply ga9); go_step))
                    rw [HSN.out] at hS
                    go_roundg (gk - 1)
                    case measure => omega
                    case rel => exact ⟨b + 1, by omega, by go_num, by rw [HTK2.out]; exact hS⟩
                  · rw [if_neg hm0] at hfe
                    repeat' (first
                      | ((with_reducible apply gt9 (some 115) (.binOp .add _ _ _ _)); (refine wplV (.int _ (((m + 1 : Nat) : Int))) (V.as (V.addI rfl rfl (by omega)) (by omega)) rfl ?_; go_step)) | ((with_reducible apply gt9 (some 116) (.binOp .add _ _ _ _)); (refine wplV (.int _ (((b + 1 : Nat) : Int))) (V.as (V.addI rfl rfl (by omega)) (by omega)) rfl ?_; go_step)) | ((with_reducible apply gt9 _ (.move _)); (first | go_big_want | go_step); go_step) | ((with_reducible apply gt9 (some 114) (.lookup 89 _ _ _)); (refine wpl (by kernel_rfl) ?_; apply wp_lookupS (enc := ik) hS 89 _ _ rfl _ rfl _ rfl Tryd.underlying89 (keyLaw_int Tryd.underlying3) (.int .i64 0) (fun w => Tryd.zeroValue3 w) _; (case hp => exact pl9); (case hf => with_reducible assumption); refine put_move ?_; go_step)) | ((with_reducible apply gt9 _ (.mapUpdate 89 _ _ _)); (refine wpl (by kernel_rfl) ?_; apply wp_mapUpdate (enc := ik) hS 89 _ _ _ rfl _ rfl _ rfl Tryd.underlying89 (keyLaw_int Tryd.underlying3) _; (case hp => exact pl9); (case hv => (first | exact IsV.int rfl | exact IsV.bool rfl | exact IsV.slice rfl | exact IsV.pointer rfl | exact IsV.string rfl | exact IsV.map rfl | exact IsV.func rfl | exact IsV.agg rfl)); (case hd => exact rfl); clear hS; intro w hS)) | ((fail_if_success with_reducible apply ga9); go_step))
                    rw [HSN.out] at hS
                    go_roundg (gk - 1)
                    case measure => omega
                    case rel => exact ⟨b + 1, by omega, by go_num, by rw [HTK2.out]; exact hS⟩
                · obtain rfl : b = px.length := by omega
                  rw [List.take_length, ← HTK.out] at hS
                  repeat' (first
                    | ((with_reducible apply gt9 (some 109) (.binOp .lss _ _ _ _)); (refine wvv9 (V.lss rfl rfl) ?_; go_step)) | ((fail_if_success with_reducible apply ga9); go_step))
                  repeat' (first
                    | ((with_reducible apply gt9 (some 117) (.binOp .add _ _ _ _)); (refine wplV (.int _ (((a + 1 : Nat) : Int))) (V.as (V.addI rfl rfl (by omega)) (by omega)) rfl ?_; go_step)) | ((with_reducible apply gt9 _ (.move _)); (first | go_big_want | go_step); go_step) | ((fail_if_success with_reducible apply ga9); go_step))
                  go_roundg (gk2 - 1)
                  case measure => omega
                  case rel => exact ⟨a + 1, by omega, by go_num, hS⟩
            · obtain rfl : a = Tn := by omega
              have HFE : Hid (∀ s, cntF (syl ((G2.map gpM).take a)) s = if f s = 0 then none else some (.int .i64 (f s : Nat))) := fun s => by rw [hf]; rfl
              obtain ⟨F, hF⟩ : ∃ F, cntF (syl ((G2.map gpM).take a)) = F := ⟨_, rfl⟩
              rw [hF] at hS HFE
              have hf16 : ∀ s, f s ≤ 5000 := fun s => by
                rw [hf]
                have h1 := HR2.out.syll
                rw [sgs_syl, HNL.out] at h1
                have h2 : syl (G2.map gpM) = syl ((G2.map gpM).take a) ++ syl ((G2.map gpM).drop a) := by rw [← syl_append, List.take_append_drop]
                rw [h2, List.length_append] at h1
                have h3 := List.count_le_length (a := s) (l := syl ((G2.map gpM).take a))
                unfold lng
                omega
              have HF16 := hid hf16
              have HFF : Hid (f = lng ((G2.map gpM).take (2 * (sgs c k).length - 2))) := by unfold Hid; rw [HNL.out, hTn]; exact hf
              clear hF hf hf16
              replace hS := hS.sub (xs := [mp ik g93 F, prt g2 [.ints (List.replicate 16 0), .val (.slice none 0 0)]]) sb9
              repeat' (first
                | ((with_reducible apply gt9 (some 102) (.binOp .lss _ _ _ _)); (refine wvv9 (V.lss rfl rfl) ?_; go_step)) | ((fail_if_success with_reducible apply ga9); go_step))
              repeat' (first
                | ((with_reducible apply gt9 _ (.move _)); (first | go_big_want | go_step); go_step) | ((with_reducible apply gt9 (some 16) (.alloc 31)); (refine wpl (by kernel_rfl) ?_; apply wp_allocP (o := ⟨some 16, _, _, _, _, _⟩) hS 31 rfl _ zp31; clear hS; intro g16 w hS; refine put_move ?_; go_step)) | ((fail_if_success with_reducible apply ga9); go_step))
              replace hS := ((hS.sub (xs := [mp ik g93 F, prt g2 [.ints (List.replicate 16 0), .val (.slice none 0 0)], prt g16 [.ints (List.replicate 16 0), .val (.slice none 0 0)]]) sb9).nilk 3 1 .i64)
              go_loopg [118] 16 (fun gk iv w => ∃ (q ls : Nat) (C S : List Int) (ao : Option Addr) (co : Nat), gk + q = 16 ∧ iv = .int .i64 q ∧ ls = S.length ∧ Len C 16 ∧ (∀ i, i < 16 → nth C i = cntTo f k q 0 i) ∧ S = symsTo f k q ∧ St w0 w [own 3 1 ao ls co (S.map (Value.int .i64)), mp ik g93 F, prt g2 [.ints (List.replicate 16 0), .val (.slice none 0 0)], prt g16 [.ints C, .val (.slice ao ls co)]])
              case atStart => exact ⟨0, 0, List.replicate 16 0, [], none, 0, by omega, rfl, rfl, Len.rep, fun i hi => by rw [nth_zeros]; unfold cntTo; rw [if_neg (by omega)]; split <;> rfl, rfl, hS⟩
              case round =>
                clear hS
                obtain ⟨q, ls, C, S, ao, co, hq, rfl, hls, hC, hCn, hSe, hS⟩ := hrel
                have HCN := hid hCn
                have HSE := hid hSe
                clear hCn hSe
                by_cases hlt5 : q < 16
                · obtain ⟨gk3, hgk3⟩ : ∃ x, x = gk := ⟨_, rfl⟩
                  subst hgk3
                  have HLS : Hid (S.length ≤ 16 * 256) := by
                    unfold Hid
                    rw [HSE.out]
                    have h1 := symsTo_len f k q
                    have h2 : q * k ≤ 16 * 256 := Nat.mul_le_mul (by omega) (by omega)
                    omega
                  repeat' (first
                    | ((with_reducible apply gt9 _ (.move _)); (first | go_big_want | go_step); go_step) | ((with_reducible apply gt9 _ (.assign _)); (first | go_big_want | go_step); go_step) | ((with_reducible apply gt9 (some 119) (.binOp .lss _ _ _ _)); (refine wvv9 (V.lss rfl rfl) ?_; go_step)) | ((with_reducible apply gt9 (some 122) (.call ⟨.builtin .len, _, _⟩)); (refine wvv9 (V.len Tryd.underlying24 rfl) ?_; go_step)) | ((fail_if_success with_reducible apply ga9); go_step))
                  go_loopg [123] k (fun gk iv w => ∃ (s ls : Nat) (C S' : List Int) (ao : Option Addr) (co : Nat), gk + s = k ∧ iv = .int .i64 s ∧ ls = S'.length ∧ Len C 16 ∧ (∀ i, i < 16 → nth C i = cntTo f k q s i) ∧ S' = S ++ symsK f s (q + 1) ∧ St w0 w [own 3 1 ao ls co (S'.map (Value.int .i64)), mp ik g93 F, prt g2 [.ints (List.replicate 16 0), .val (.slice none 0 0)], prt g16 [.ints C, .val (.slice ao ls co)]])
                  case atStart => exact ⟨0, ls, C, S, ao, co, by omega, rfl, hls, hC, HCN.out, by simp [symsK], hS⟩
                  case round =>
                    clear hS hC HCN
                    obtain ⟨s, ls, C, S', ao, co, hs, rfl, hls2, hC, hCn, hSe, hS⟩ := hrel
                    have HCN := hid hCn
                    have HSE2 := hid hSe
                    have hS'l : ls ≤ 10000 := by
                      rw [hls2, hSe, List.length_append]
                      have := symsK_len f s (q + 1)
                      have := HLS.out
                      omega
                    clear hCn hSe
                    by_cases hlt6 : s < k
                    · have hfe := HFE.out (s : Int)
                      have hf5 := HF16.out (s : Int)
                      obtain ⟨fs, hfs⟩ : ∃ fs, f (s : Int) = fs := ⟨_, rfl⟩
                      rw [hfs] at hfe hf5
                      have hsk := symsK_succ f s (q + 1)
                      rw [hfs] at hsk
                      by_cases hfq : fs = q + 1
                      · rw [if_neg (by omega)] at hfe
                        rw [if_pos hfq] at hsk
                        have hnq := HCN.out q hlt5
                        have hbq : nth C q = ((symsK f s (q + 1)).length : Nat) := by
                          rw [hnq]; unfold cntTo; rw [if_neg (by omega), if_pos rfl]
                        have hbl := symsK_len f s (q + 1)
                        have HSK := hid hsk
                        have HBQ := hid hbq
                        have hbb : 0 ≤ nth C q ∧ nth C q ≤ 256 := by rw [hbq]; omega
                        clear hsk hfs hnq hbq hbl
                        repeat' (first
                          | ((with_reducible apply gt9 (some 130) (.binOp .add _ _ _ _)); (refine wplV (.int _ (((q + 1 : Nat) : Int))) (V.as (V.addI rfl rfl (by omega)) (by omega)) rfl ?_; go_step)) | ((with_reducible apply gt9 _ (.move _)); (first | go_big_want | go_step); go_step) | ((with_reducible apply gt9 _ (.assign _)); (first | go_big_want | go_step); go_step) | ((with_reducible apply gt9 (some 124) (.binOp .lss _ _ _ _)); (refine wvv9 (V.lss rfl rfl) ?_; go_step)) | ((with_reducible apply gt9 (some 131) (.binOp .eql 3 _ _ _)); (refine wvv9 (V.eql rfl rfl) ?_; go_step)) | ((with_reducible apply gt9 (some 128) (.lookup 89 _ _ _)); (refine wpl (by kernel_rfl) ?_; apply wp_lookupS (enc := ik) hS 89 _ _ rfl _ rfl _ rfl Tryd.underlying89 (keyLaw_int Tryd.underlying3) (.int .i64 0) (fun w => Tryd.zeroValue3 w) _; (case hp => exact pl9); (case hf => with_reducible assumption); refine put_move ?_; go_step)) | ((fail_if_success with_reducible apply ga9); go_step))
                        repeat' (first
                          | ((with_reducible apply gt9 _ (.move _)); (first | go_big_want | go_step); go_step) | ((with_reducible apply gt9 (some 133) (.fieldAddr 31 _ 0)); (refine wvv9 (V.fieldAddr fo31_0 rfl nq9) ?_; go_step)) | ((with_reducible apply gt9 (some 134) (.indexAddr 29 _ _)); (refine wvv9 (V.indexAr Tryd.underlying29 isz3 rfl rfl isn9 (by omega) (Nat.mul_one _) nq9) ?_; go_step)) | ((with_reducible apply gt9 (some 136) (.binOp .add _ _ _ _)); (refine wvv9 (V.addI rfl rfl (by omega)) ?_; go_step)) | ((with_reducible apply gt9 (some 137) (.fieldAddr 31 _ 0)); (refine wvv9 (V.fieldAddr fo31_0 rfl nq9) ?_; go_step)) | ((with_reducible apply gt9 (some 138) (.indexAddr 29 _ _)); (refine wvv9 (V.indexAr Tryd.underlying29 isz3 rfl rfl isn9 (by omega) (Nat.mul_one _) nq9) ?_; go_step)) | ((with_reducible apply gt9 (some 139) (.fieldAddr 31 _ 1)); (refine wvv9 (V.fieldAddr fo31_1 rfl nq9) ?_; go_step)) | ((with_reducible apply gt9 (some 144) (.fieldAddr 31 _ 1)); (refine wvv9 (V.fieldAddr fo31_1 rfl nq9) ?_; go_step)) | ((with_reducible apply gt9 _ (.load 3 _)); (refine wpl (by kernel_rfl) ?_; apply wp_load1P hS 3 _ rfl _ _ rfl (one_of rfl) _; (case hp => exact pl9); (case hi => (repeat (first | (apply AtI.head; (case hn => (first | (with_reducible assumption) | exact Len.rep | exact Len.set (by with_reducible assumption) | exact Len.set Len.rep | exact Len.set (Len.set Len.rep))); (case h => omega)) | (apply AtI.skipI; (case hn => (first | (with_reducible assumption) | exact Len.rep | exact Len.set (by with_reducible assumption) | exact Len.set Len.rep | exact Len.set (Len.set Len.rep))); (case h => omega); (case ho => rfl)) | apply AtI.skipV))); refine put_move ?_; go_step)) | ((with_reducible apply gt9 _ (.store 3 _ _)); (refine wpl (by kernel_rfl) ?_; apply wp_store1P hS 3 _ _ rfl _ _ rfl (one_of rfl) _ _; (case hp => exact pl9); (case hy => rfl); (case hi => (repeat (first | (apply PutI.head; (case hn => (first | (with_reducible assumption) | exact Len.rep | exact Len.set (by with_reducible assumption) | exact Len.set Len.rep | exact Len.set (Len.set Len.rep))); (case h => omega)) | (apply PutI.skipI; (case hn => (first | (with_reducible assumption) | exact Len.rep | exact Len.set (by with_reducible assumption) | exact Len.set Len.rep | exact Len.set (Len.set Len.rep))); (case h => omega); (case ho => rfl)) | apply PutI.skipV))); (case hd => exact rfl); clear hS; intro w hS)) | ((with_reducible apply gt9 _ (.load 24 _)); (refine wpl (by kernel_rfl) ?_; apply wp_loadVP hS 24 _ rfl _ _ rfl (one_of rfl) _; (case hp => exact pl9); (case hi => (repeat (first | exact AtV.head | (apply AtV.skipI; (case hn => (first | (with_reducible assumption) | exact Len.rep | exact Len.set (by with_reducible assumption) | exact Len.set Len.rep | exact Len.set (Len.set Len.rep))); (case h => omega); (case ho => rfl)) | apply AtV.skipV))); refine put_move ?_; go_step)) | ((with_reducible apply gt9 (some 142) (.buildSlice 24 _ _)); (refine wpl (by kernel_rfl) ?_; apply wp_buildSlice1 (o := ⟨some 142, _, _, _, _, _⟩) hS 24 1 _ rfl 3 1 8 el24 _ _; (case hvs => (repeat (first | exact Parts.nil | (apply Parts.agg; (rfl); (rfl)) | (apply Parts.one; exact isv9; (rfl); (rfl))))); (case hn => rfl); (case hn0 => decide); (case hns => decide); clear hS; intro g142 w hS; refine put_move ?_; go_step)) | ((with_reducible apply gt9 (some 143) (.call ⟨.builtin .append, _, _⟩)); (refine wpl (by kernel_rfl) ?_; apply wp_append (o := ⟨some 143, _, _, _, _, _⟩) hS _ _ 24 rfl 3 1 8 el24 _ _ _ _ rfl; (case hp => exact pl9); (case hx => exact rfl); (case hm => (first | exact hS.slBlk pl9 (by rfl) (by decide) | exact hS.sl pl9 | with_reducible assumption | exact Sl.ext (by with_reducible assumption) hS.1 | exact Sl.nil _ _ | exact Sl.ext (by assumption) hS.1 | assumption)); (case h1 => (first | exact oneAll rfl | exact oneMap _ _ | (intro u hu; cases hu))); (case h63 => unfold maxLen; omega); (case hb => omega); clear hS; intro ad143 c143 w hS; (first | simp only [mapk1] at hS | simp only [mapk2] at hS | simp only [mapk3] at hS | simp only [mapk4] at hS | simp only [mapkl] at hS | skip); refine put_move ?_; go_step)) | ((with_reducible apply gt9 _ (.store 24 _ _)); (refine wpl (by kernel_rfl) ?_; apply wp_storeVP hS 24 _ _ rfl _ _ rfl (one_of rfl) _ _; (case hp => exact pl9); (case hy => exact isv9); (case hz => rfl); (case hi => (repeat (first | exact PutV.head | (apply PutV.skipI; (case hn => (first | (with_reducible assumption) | exact Len.rep | exact Len.set (by with_reducible assumption) | exact Len.set Len.rep | exact Len.set (Len.set Len.rep))); (case h => omega); (case ho => rfl)) | apply PutV.skipV))); (case hd => exact rfl); clear hS; intro w hS)) | ((fail_if_success with_reducible apply ga9); go_step))
                        repeat' (first
                          | ((with_reducible apply gt9 (some 145) (.binOp .add _ _ _ _)); (refine wplV (.int _ (((s + 1 : Nat) : Int))) (V.as (V.addI rfl rfl (by omega)) (by omega)) rfl ?_; go_step)) | ((with_reducible apply gt9 _ (.move _)); (first | go_big_want | go_step); go_step) | ((fail_if_success with_reducible apply ga9); go_step))
                        go_roundg (gk - 1)
                        case measure => omega
                        case rel =>
                          refine ⟨s + 1, ls + 1, C.set q (nth C q + 1), S' ++ [(s : Int)], ad143, c143, by omega, by go_num, by rw [List.length_append, ← hls2]; rfl, hC.set, fun i hi => ?_, by rw [HSE2.out, HSK.out, List.append_assoc], hS.sub sb9⟩
                          rw [nth_set _ _ _ _ (by rw [hC.out]; exact hlt5)]
                          unfold cntTo
                          by_cases hiq : q = i
                          · subst hiq
                            rw [if_pos rfl, if_neg (by omega), if_pos rfl, HSK.out, HBQ.out, List.length_append]; rfl
                          · rw [if_neg hiq, HCN.out i hi]
                            unfold cntTo
                            by_cases hi2 : i < q
                            · rw [if_pos hi2, if_pos hi2]
                            · rw [if_neg hi2, if_neg hi2, if_neg (by omega), if_neg (by omega)]
                      · rw [if_neg hfq] at hsk
                        have HSK := hid hsk
                        have HN2 : Hid (∀ i, i < 16 → nth C i = cntTo f k q (s + 1) i) := fun i hi => by
                          rw [HCN.out i hi]
                          unfold cntTo
                          by_cases hi2 : i < q
                          · rw [if_pos hi2, if_pos hi2]
                          · by_cases hi3 : i = q
                            · subst hi3; rw [if_neg hi2, if_neg hi2, if_pos rfl, if_pos rfl, hsk]
                            · rw [if_neg hi2, if_neg hi2, if_neg hi3, if_neg hi3]
                        clear hsk hfs
                        by_cases hf0 : fs = 0
                        · rw [if_pos hf0] at hfe
                          repeat' (first
                            | ((with_reducible apply gt9 (some 130) (.binOp .add _ _ _ _)); (refine wplV (.int _ (((q + 1 : Nat) : Int))) (V.as (V.addI rfl rfl (by omega)) (by omega)) rfl ?_; go_step)) | ((with_reducible apply gt9 _ (.move _)); (first | go_big_want | go_step); go_step) | ((with_reducible apply gt9 _ (.assign _)); (first | go_big_want | go_step); go_step) | ((with_reducible apply gt9 (some 124) (.binOp .lss _ _ _ _)); (refine wvv9 (V.lss rfl rfl) ?_; go_step)) | ((with_reducible apply gt9 (some 131) (.binOp .eql 3 _ _ _)); (refine wvv9 (V.eql rfl rfl) ?_; go_step)) | ((with_reducible apply gt9 (some 128) (.lookup 89 _ _ _)); (refine wpl (by kernel_rfl) ?_; apply wp_lookupN (enc := ik) hS 89 _ _ rfl _ rfl _ rfl Tryd.underlying89 (keyLaw_int Tryd.underlying3) (.int .i64 0) (fun w => Tryd.zeroValue3 w) _; (case hp => exact pl9); (case hf => with_reducible assumption); refine put_move ?_; go_step)) | ((fail_if_success with_reducible apply ga9); go_step))
                          repeat' (first
                            | ((with_reducible apply gt9 (some 145) (.binOp .add _ _ _ _)); (refine wplV (.int _ (((s + 1 : Nat) : Int))) (V.as (V.addI rfl rfl (by omega)) (by omega)) rfl ?_; go_step)) | ((with_reducible apply gt9 _ (.move _)); (first | go_big_want | go_step); go_step) | ((fail_if_success with_reducible apply ga9); go_step))
                          go_roundg (gk - 1)
                          case measure => omega
                          case rel => exact ⟨s + 1, ls, C, S', ao, co, by omega, by go_num, hls2, hC, HN2.out, by rw [HSE2.out, HSK.out], hS.sub sb9⟩
                        · rw [if_neg hf0] at hfe
                          repeat' (first
                            | ((with_reducible apply gt9 (some 130) (.binOp .add _ _ _ _)); (refine wplV (.int _ (((q + 1 : Nat) : Int))) (V.as (V.addI rfl rfl (by omega)) (by omega)) rfl ?_; go_step)) | ((with_reducible apply gt9 _ (.move _)); (first | go_big_want | go_step); go_step) | ((with_reducible apply gt9 _ (.assign _)); (first | go_big_want | go_step); go_step) | ((with_reducible apply gt9 (some 124) (.binOp .lss _ _ _ _)); (refine wvv9 (V.lss rfl rfl) ?_; go_step)) | ((with_reducible apply gt9 (some 131) (.binOp .eql 3 _ _ _)); (refine wvv9 (V.eql rfl rfl) ?_; go_step)) | ((with_reducible apply gt9 (some 128) (.lookup 89 _ _ _)); (refine wpl (by kernel_rfl) ?_; apply wp_lookupS (enc := ik) hS 89 _ _ rfl _ rfl _ rfl Tryd.underlying89 (keyLaw_int Tryd.underlying3) (.int .i64 0) (fun w => Tryd.zeroValue3 w) _; (case hp => exact pl9); (case hf => with_reducible assumption); refine put_move ?_; go_step)) | ((fail_if_success with_reducible apply ga9); go_step))
                          repeat' (first
                            | ((with_reducible apply gt9 (some 145) (.binOp .add _ _ _ _)); (refine wplV (.int _ (((s + 1 : Nat) : Int))) (V.as (V.addI rfl rfl (by omega)) (by omega)) rfl ?_; go_step)) | ((with_reducible apply gt9 _ (.move _)); (first | go_big_want | go_step); go_step) | ((fail_if_success with_reducible apply ga9); go_step))
                          go_roundg (gk - 1)
                          case measure => omega
                          case rel => exact ⟨s + 1, ls, C, S', ao, co, by omega, by go_num, hls2, hC, HN2.out, by rw [HSE2.out, HSK.out], hS.sub sb9⟩
                    · obtain rfl : s = k := by omega
                      repeat' (first
                        | ((with_reducible apply gt9 (some 124) (.binOp .lss _ _ _ _)); (refine wvv9 (V.lss rfl rfl) ?_; go_step)) | ((fail_if_success with_reducible apply ga9); go_step))
                      repeat' (first
                        | ((with_reducible apply gt9 (some 146) (.binOp .add _ _ _ _)); (refine wplV (.int _ (((q + 1 : Nat) : Int))) (V.as (V.addI rfl rfl (by omega)) (by omega)) rfl ?_; go_step)) | ((with_reducible apply gt9 _ (.move _)); (first | go_big_want | go_step); go_step) | ((fail_if_success with_reducible apply ga9); go_step))
                      go_roundg (gk3 - 1)
                      case measure => omega
                      case rel =>
                        refine ⟨q + 1, ls, C, S', ao, co, by omega, by go_num, hls2, hC, fun i hi => ?_, by rw [HSE2.out, HSE.out, symsTo_succ], hS⟩
                        rw [HCN.out i hi]
                        unfold cntTo
                        by_cases hi2 : i < q
                        · rw [if_pos hi2, if_pos (by omega)]
                        · by_cases hi3 : i = q
                          · subst hi3; rw [if_neg hi2, if_pos rfl, if_pos (by omega)]
                          · rw [if_neg hi2, if_neg hi3, if_neg (by omega)]
                            split <;> rfl
                · obtain rfl : q = 16 := by omega
                  have hCf : ∀ i, i < 16 → nth C i = ((symsK f k (i + 1)).length : Nat) := fun i hi => by
                    rw [HCN.out i hi]; unfold cntTo; rw [if_pos hi]
                  have HCF := hid hCf
                  clear hCf HCN
                  repeat' (first
                    | ((with_reducible apply gt9 (some 119) (.binOp .lss _ _ _ _)); (refine wvv9 (V.lss rfl rfl) ?_; go_step)) | ((fail_if_success with_reducible apply ga9); go_step))
                  repeat' (first
                    | ((with_reducible apply gt9 _ (.assign _)); (first | go_big_want | go_step); go_step) | ((with_reducible apply gt9 _ (.load 31 _)); (refine wpl (by kernel_rfl) ?_; apply wp_loadPP hS 31 _ rfl _ _ rfl 17 (row_of rfl) _; (case hp => exact pl9); (case hi => (repeat (first | (apply AtP.head; (repeat (first | exact Pre.nil | (apply Pre.ints; (case hn => (first | (with_reducible assumption) | exact Len.rep | exact Len.set (by with_reducible assumption) | exact Len.set Len.rep | exact Len.set (Len.set Len.rep))); (case h => omega); (case hm => rfl)) | apply Pre.val))) | (apply AtP.skipI; (case hn => (first | (with_reducible assumption) | exact Len.rep | exact Len.set (by with_reducible assumption) | exact Len.set Len.rep | exact Len.set (Len.set Len.rep))); (case h => omega); (case ho => rfl)) | apply AtP.skipV))); refine put_move ?_; go_step)) | ((with_reducible apply gt9 _ (.store 31 _ _)); (refine wpl (by kernel_rfl) ?_; apply wp_storePP hS 31 _ _ rfl _ rfl 17 (row_of rfl) _ _; (case hp => exact pl9); (case hy => rfl); (case hn => (repeat (first | exact Pre.nil | (apply Pre.ints; (case hn => (first | (with_reducible assumption) | exact Len.rep | exact Len.set (by with_reducible assumption) | exact Len.set Len.rep | exact Len.set (Len.set Len.rep))); (case h => omega); (case hm => rfl)) | apply Pre.val))); (case hn' => (repeat (first | exact Pre.nil | (apply Pre.ints; (case hn => (first | (with_reducible assumption) | exact Len.rep | exact Len.set (by with_reducible assumption) | exact Len.set Len.rep | exact Len.set (Len.set Len.rep))); (case h => omega); (case hm => rfl)) | apply Pre.val))); (case hv => rfl); (case hd => exact rfl); clear hS; intro w hS)) | ((fail_if_success with_reducible apply ga9); go_step))
                  refine ret_all (xs := [_, _]) rfl (.cons (OneRes.prt hS rfl (row_of (n := 17) rfl) pl9 (by (repeat (first | exact Pre.nil | (apply Pre.ints; (case hn => (first | (with_reducible assumption) | exact Len.rep | exact Len.set (by with_reducible assumption) | exact Len.set Len.rep | exact Len.set (Len.set Len.rep))); (case h => omega); (case hm => rfl)) | apply Pre.val)))) (.cons (OneRes.tmp rfl) (.nil))) (by simp) rfl ?_
                  exact ⟨f, G2.map gpM, C, S, ao, co, HR2.out, HFF.out, hC, HCF.out, HSE.out, by rw [← hls]; rfl, by rw [← hls]; exact hS.sub sb9⟩
end Go.Proofs.YtehbjhocgnfpmaaDoor

/- What best.Make's table is: valid, with words of the lengths that packages gave; and what any table costs. -/
namespace Go.Proofs.YtehbjhocgnfpmaaDoor
set_option linter.unusedVariables false
/-- Symbols that come. -/
def posL (c : List Int) (n : Nat) : List Int := ((List.range n).filter fun s => decide (0 < nth c s)).map fun (s : Nat) => (s : Int)
def wOf (c : List Int) (s : Int) : Int := if s = -1 then 0 else nth c s.toNat
theorem posL_mem (c : List Int) (n : Nat) (s : Int) : s ∈ posL c n ↔ 0 ≤ s ∧ s < n ∧ 0 < nth c s.toNat := by
  unfold posL
  simp only [List.mem_map, List.mem_filter, List.mem_range, decide_eq_true_eq]
  constructor
  · rintro ⟨a, ⟨h1, h2⟩, rfl⟩; exact ⟨by omega, by omega, by simpa using h2⟩
  · intro ⟨h1, h2, h3⟩; exact ⟨s.toNat, ⟨by omega, h3⟩, by omega⟩
theorem posL_nodup (c : List Int) (n : Nat) : (posL c n).Nodup := by
  unfold posL
  rw [List.nodup_iff_pairwise_ne, List.pairwise_map]
  refine List.Pairwise.imp ?_ (List.Pairwise.filter _ List.nodup_range)
  intro a b h e
  exact h (by omega)
theorem sgs_sing (c : List Int) (n : Nat) : Sing (sgs c n) (-1 :: posL c n) := by
  refine ⟨?_, List.nodup_cons.2 ⟨fun h => by have := (posL_mem c n _).1 h; omega, posL_nodup c n⟩⟩
  unfold sgs posL
  simp [List.map_map, Function.comp_def]
theorem sgs_w (c : List Int) (n : Nat) : ∀ x ∈ sgs c n, x.1 = isum (wOf c) x.2 := by
  intro x hx
  rcases List.mem_cons.1 hx with rfl | hx
  · simp [isum, wOf]
  · obtain ⟨s, _, rfl⟩ := List.mem_map.1 hx
    simp only [isum, List.map_cons, List.map_nil, List.sum_cons, List.sum_nil, wOf]
    rw [if_neg (by omega)]; simp
/-- Sums over the rows of words. -/
theorem nx_sum (c : Nat → Nat) : ∀ k, k ≤ 16 → nx c k * 2 ^ (16 - k) = sm (fun i => c i * 2 ^ (15 - i)) k
  | 0, _ => by simp [nx, sm]
  | k + 1, h => by
    have ih := nx_sum c k (by omega)
    rw [sm, ← ih, nx, Nat.add_mul, show 16 - k = (16 - (k + 1)) + 1 by omega, show 16 - (k + 1) = 15 - k by omega, Nat.pow_succ]
    rw [Nat.mul_comm 2 (nx c k), Nat.mul_assoc, Nat.mul_comm 2 (2 ^ (15 - k))]
theorem sm_addf (a b : Nat → Nat) : ∀ k, sm (fun i => a i + b i) k = sm a k + sm b k
  | 0 => rfl
  | k + 1 => by simp only [sm]; rw [sm_addf a b k]; omega
theorem sm_congrf {a b : Nat → Nat} : ∀ k, (∀ i, i < k → a i = b i) → sm a k = sm b k
  | 0, _ => rfl
  | k + 1, h => by simp only [sm]; rw [sm_congrf k fun i hi => h i (by omega), h k (by omega)]
def bit16 (l : Nat) : Nat := if 1 ≤ l then 2 ^ (16 - l) else 0
theorem one_row (l : Nat) (h : l ≤ 16) : sm (fun i => (if l = i + 1 then 1 else 0) * 2 ^ (15 - i)) 16 = bit16 l := by
  have : ∀ l, l < 17 → sm (fun i => (if l = i + 1 then 1 else 0) * 2 ^ (15 - i)) 16 = bit16 l := by decide
  exact this l (by omega)
theorem rows_sum (f : Int → Nat) (hf : ∀ s, f s ≤ 16) : ∀ n, sm (fun i => (symsK f n (i + 1)).length * 2 ^ (15 - i)) 16 = nsum (fun s : Nat => bit16 (f (s : Int))) (List.range n)
  | 0 => by simp [symsK, nsum]; decide
  | n + 1 => by
    rw [List.range_succ, nsum_append, ← rows_sum f hf n]
    have : nsum (fun s : Nat => bit16 (f (s : Int))) [n] = bit16 (f (n : Int)) := by simp [nsum]
    rw [this, ← one_row _ (hf _), ← sm_addf]
    refine sm_congrf 16 fun i hi => ?_
    rw [symsK_succ, ← Nat.add_mul]
    by_cases h : f (n : Int) = i + 1
    · rw [if_pos h, if_pos h, List.length_append]; rfl
    · rw [if_neg h, if_neg h]; rfl
theorem nsum_map {α β : Type} (g : α → β) (f : β → Nat) (l : List α) : nsum f (l.map g) = nsum (fun x => f (g x)) l := by
  unfold nsum; rw [List.map_map]; rfl
theorem isum_map {α β : Type} (g : α → β) (f : β → Int) (l : List α) : isum f (l.map g) = isum (fun x => f (g x)) l := by
  unfold isum; rw [List.map_map]; rfl
theorem nsum_filter {α : Type} (p : α → Bool) (f : α → Nat) (l : List α) (h : ∀ x ∈ l, p x = false → f x = 0) : nsum f (l.filter p) = nsum f l := by
  induction l with
  | nil => rfl
  | cons x l ih =>
    have ih := ih fun y hy => h y (by simp [hy])
    rw [List.filter_cons]
    by_cases hp : p x = true
    · rw [if_pos hp, nsum_cons, nsum_cons, ih]
    · rw [if_neg hp, nsum_cons, ih, h x (by simp) (by simpa using hp), Nat.zero_add]
theorem isum_filter {α : Type} (p : α → Bool) (f : α → Int) (l : List α) (h : ∀ x ∈ l, p x = false → f x = 0) : isum f (l.filter p) = isum f l := by
  induction l with
  | nil => rfl
  | cons x l ih =>
    have ih := ih fun y hy => h y (by simp [hy])
    rw [List.filter_cons]
    by_cases hp : p x = true
    · rw [if_pos hp, isum_cons, isum_cons, ih]
    · rw [if_neg hp, isum_cons, ih, h x (by simp) (by simpa using hp), Int.zero_add]
/-- What counts cost by these lengths. -/
def costL (c : List Int) (n : Nat) (l : Int → Nat) : Int := isum (fun s : Nat => nth c s * (l (s : Int) : Nat)) (List.range n)
/-- Lengths that words may have for these counts. -/
structure LenOk (c : List Int) (n : Nat) (l : Int → Nat) : Prop where
  top : ∀ s ∈ posL c n, 1 ≤ l s ∧ l s ≤ 16
  kraft : nsum (fun s => 2 ^ (16 - l s)) (posL c n) < 2 ^ 16
theorem costL_pos (c : List Int) (n : Nat) (l : Int → Nat) (h0 : ∀ i, i < n → 0 ≤ nth c i) : isum (fun s => wOf c s * (l s : Nat)) (posL c n) = costL c n l := by
  unfold posL costL
  rw [isum_map, isum_congr _ (fun s : Nat => nth c s * (l (s : Int) : Nat)) _ fun s _ => ?_]
  · refine isum_filter _ _ _ fun x hx hp => ?_
    have := h0 x (List.mem_range.1 hx)
    have h1 : ¬ 0 < nth c x := by simpa using hp
    rw [show nth c x = 0 by omega, Int.zero_mul]
  · unfold wOf; rw [if_neg (by omega)]; simp
/-- WHAT MAKE GIVES: lengths that may be, of the least cost. -/
theorem made_law {c : List Int} {n : Nat} {R : List Pk} (hn : n ≤ 256) (h0 : ∀ i, i < n → 0 ≤ nth c i) (hR : RowK (sgs c n) 16 R) (f : Int → Nat) (hf : f = lng (R.take (2 * (sgs c n).length - 2))) :
    (∀ s, f s ≤ 16) ∧ (∀ s, s ∉ posL c n → 0 ≤ s → f s = 0) ∧ LenOk c n f ∧ (∀ l, LenOk c n l → costL c n f ≤ costL c n l) ∧ (∀ a b, a ∈ posL c n → b ∈ posL c n → nth c b.toNat < nth c a.toNat → f a ≤ f b) := by
  have hS := sgs_sing c n
  have hlen := hS.len
  have hpl : (posL c n).length ≤ n := by
    unfold posL
    have := List.length_filter_le (fun s => decide (0 < nth c s)) (List.range n)
    simp at this ⊢; exact this
  have hw0 : ∀ s ∈ (-1 :: posL c n), 0 ≤ wOf c s := fun s hs => by
    rcases List.mem_cons.1 hs with rfl | hs
    · simp [wOf]
    · have := (posL_mem c n s).1 hs
      unfold wOf; rw [if_neg (by omega)]; omega
  obtain ⟨_, b1, b2, b3, b4, b5⟩ := best_spec hS (wOf c) (sgs_w c n) hw0 (by simp) (by simp; omega) hR
  rw [← hlen, ← hf] at b1 b2 b3 b4 b5
  have hpos : ∀ s ∈ posL c n, 1 ≤ f s := fun s hs => kraft_pos b3 (List.mem_cons_of_mem _ hs) (List.mem_cons_self (a := -1)) (by have := (posL_mem c n s).1 hs; omega)
  rw [nsum_cons] at b3
  have hone : 1 ≤ 2 ^ (16 - f (-1)) := Nat.one_le_two_pow
  refine ⟨b1, fun s hs hs0 => b2 s (by simp only [List.mem_cons, not_or]; exact ⟨by omega, hs⟩), ⟨fun s hs => ⟨hpos s hs, b1 s⟩, by omega⟩, fun l hl => ?_, fun a b ha hb hab => ?_⟩
  · have hb4 := b4 (fun s => if s = -1 then 16 else l s) (fun s hs => by
      show (if s = -1 then 16 else l s) ≤ 16
      rcases List.mem_cons.1 hs with rfl | hs
      · simp
      · have := (posL_mem c n s).1 hs
        rw [if_neg (by omega)]; exact (hl.top s hs).2) (by
      rw [nsum_cons]
      have := hl.kraft
      have e : nsum (fun s => 2 ^ (16 - (if s = -1 then 16 else l s))) (posL c n) = nsum (fun s => 2 ^ (16 - l s)) (posL c n) := nsum_congr _ _ _ fun s hs => by
        have := (posL_mem c n s).1 hs
        rw [if_neg (by omega)]
      rw [e]; simp; simp at this; omega)
    rw [isum_cons, isum_cons] at hb4
    have z : ∀ x : Int, wOf c (-1) * x = 0 := fun x => by simp [wOf]
    rw [z, z, costL_pos c n f h0] at hb4
    have e : isum (fun s => wOf c s * ((if s = -1 then 16 else l s : Nat) : Int)) (posL c n) = isum (fun s => wOf c s * (l s : Nat)) (posL c n) := isum_congr _ _ _ fun s hs => by
      have := (posL_mem c n s).1 hs
      rw [if_neg (by omega)]
    rw [e, costL_pos c n l h0] at hb4
    omega
  · have h1 := (posL_mem c n a).1 ha
    have h2 := (posL_mem c n b).1 hb
    exact b5 a b (List.mem_cons_of_mem _ hb) (by unfold wOf; rw [if_neg (by omega), if_neg (by omega)]; exact hab)
end Go.Proofs.YtehbjhocgnfpmaaDoor

/- best.Make's table is valid, its words have the lengths that packages gave; the lengths of any valid table. -/
namespace Go.Proofs.YtehbjhocgnfpmaaDoor
set_option linter.unusedVariables false
theorem nx_congr {a b : Nat → Nat} : ∀ k, (∀ i, i < k → a i = b i) → nx a k = nx b k
  | 0, _ => rfl
  | k + 1, h => by rw [nx, nx, nx_congr k fun i hi => h i (by omega), h k (by omega)]
theorem cds_congr {a b : Nat → Nat} : ∀ k, (∀ i, i < k → a i = b i) → cds a k = cds b k
  | 0, _ => rfl
  | k + 1, h => by rw [cds, cds, cds_congr k fun i hi => h i (by omega), h k (by omega), nx_congr k fun i hi => h i (by omega)]
theorem one_row1 (l : Nat) (h : l ≤ 16) : sm (fun i => if l = i + 1 then 1 else 0) 16 = if 1 ≤ l then 1 else 0 := by
  have : ∀ l, l < 17 → sm (fun i => if l = i + 1 then 1 else 0) 16 = if 1 ≤ l then 1 else 0 := by decide
  exact this l (by omega)
theorem rows_len (f : Int → Nat) (hf : ∀ s, f s ≤ 16) : ∀ n, sm (fun i => (symsK f n (i + 1)).length) 16 = nsum (fun s : Nat => if 1 ≤ f (s : Int) then 1 else 0) (List.range n)
  | 0 => by simp [symsK, nsum]; decide
  | n + 1 => by
    rw [List.range_succ, nsum_append, ← rows_len f hf n]
    have : nsum (fun s : Nat => if 1 ≤ f (s : Int) then 1 else 0) [n] = if 1 ≤ f (n : Int) then 1 else 0 := by simp [nsum]
    rw [this, ← one_row1 _ (hf _), ← sm_addf]
    refine sm_congrf 16 fun i hi => ?_
    rw [symsK_succ]
    by_cases h : f (n : Int) = i + 1
    · rw [if_pos h, if_pos h, List.length_append]; rfl
    · rw [if_neg h, if_neg h]; rfl
theorem symsTo_sm (f : Int → Nat) (n : Nat) : ∀ k, (symsTo f n k).length = sm (fun i => (symsK f n (i + 1)).length) k
  | 0 => rfl
  | k + 1 => by rw [symsTo_succ, List.length_append, symsTo_sm f n k, sm]
theorem symsK_mem (f : Int → Nat) (n k : Nat) (s : Int) : s ∈ symsK f n k ↔ 0 ≤ s ∧ s < n ∧ f s = k := by
  unfold symsK
  simp only [List.mem_map, List.mem_filter, List.mem_range, decide_eq_true_eq]
  constructor
  · rintro ⟨a, ⟨h1, h2⟩, rfl⟩; exact ⟨by omega, by omega, h2⟩
  · intro ⟨h1, h2, h3⟩; exact ⟨s.toNat, ⟨by omega, by rw [Int.toNat_of_nonneg h1]; exact h3⟩, by omega⟩
theorem symsK_nodup (f : Int → Nat) (n k : Nat) : (symsK f n k).Nodup := by
  unfold symsK
  rw [List.nodup_iff_pairwise_ne, List.pairwise_map]
  refine List.Pairwise.imp ?_ (List.Pairwise.filter _ List.nodup_range)
  intro a b h e
  exact h (by omega)
theorem symsTo_mem (f : Int → Nat) (n : Nat) (s : Int) : ∀ k, s ∈ symsTo f n k ↔ 0 ≤ s ∧ s < n ∧ 1 ≤ f s ∧ f s ≤ k
  | 0 => by simp [symsTo]; intro _ _ _; omega
  | k + 1 => by
    rw [symsTo_succ, List.mem_append, symsTo_mem f n s k, symsK_mem]
    constructor
    · rintro (h | h) <;> omega
    · intro h
      by_cases e : f s = k + 1
      · right; omega
      · left; omega
theorem symsTo_nodup (f : Int → Nat) (n : Nat) : ∀ k, (symsTo f n k).Nodup
  | 0 => by simp [symsTo]
  | k + 1 => by
    rw [symsTo_succ, List.nodup_append]
    refine ⟨symsTo_nodup f n k, symsK_nodup f n (k + 1), fun a ha b hb e => ?_⟩
    subst e
    have h1 := (symsTo_mem f n a k).1 ha
    have h2 := (symsK_mem f n (k + 1) a).1 hb
    omega
theorem zip_words (f : Int → Nat) (n : Nat) : ∀ k, ∀ x ∈ (symsTo f n k).zip (cds (fun i => (symsK f n (i + 1)).length) k), x.2.1 = f x.1
  | 0, x, h => by simp [symsTo] at h
  | k + 1, x, h => by
    rw [symsTo_succ, cds, List.zip_append (by rw [symsTo_sm, cds_len])] at h
    rcases List.mem_append.1 h with h | h
    · exact zip_words f n k x h
    · have h1 := (List.of_mem_zip (a := x.1) (b := x.2) h)
      obtain ⟨j, _, e⟩ := List.mem_map.1 h1.2
      have h2 := (symsK_mem f n (k + 1) x.1).1 h1.1
      rw [h2.2.2, ← e]
/-- The length of a symbol's word; 0 if it has none. -/
def lw (L : List (Int × Nat × Nat)) (s : Int) : Nat := match symW L s with
  | some x => x.1
  | none => 0
theorem wds_fst {C S : List Int} (h : sm (cc C) 16 = S.length) : (wds C S).map (·.1) = S := by
  unfold wds
  exact List.map_fst_zip (by rw [cds_len, h]; exact Nat.le_refl _)
theorem wds_snd {C S : List Int} (h : sm (cc C) 16 = S.length) : (wds C S).map (·.2) = cds (cc C) 16 := by
  unfold wds
  exact List.map_snd_zip (by rw [cds_len, h]; exact Nat.le_refl _)
theorem lw_mem {C S : List Int} (h : tabE C S = 0) {x : Int × Nat × Nat} (hx : x ∈ wds C S) : symW (wds C S) x.1 = some x.2 ∧ lw (wds C S) x.1 = x.2.1 := by
  have := (wds_good h).symW hx
  exact ⟨this, by unfold lw; rw [this]⟩
theorem lw_in {C S : List Int} (h : tabE C S = 0) {s : Int} (hs : s ∈ S) : ∃ x ∈ wds C S, x.1 = s := by
  have h2 := (tabE_ok h).2.1
  rw [← wds_fst h2] at hs
  obtain ⟨x, hx, e⟩ := List.mem_map.1 hs
  exact ⟨x, hx, e⟩
theorem lw_pos {C S : List Int} (h : tabE C S = 0) (s : Int) : (s ∈ S → 1 ≤ lw (wds C S) s ∧ lw (wds C S) s ≤ 16) ∧ (s ∉ S → lw (wds C S) s = 0) := by
  constructor
  · intro hs
    obtain ⟨x, hx, rfl⟩ := lw_in h hs
    rw [(lw_mem h hx).2]
    have := (wds_good h).long x hx
    omega
  · intro hs
    unfold lw
    cases e : symW (wds C S) s with
    | none => rfl
    | some y => exact absurd (wds_mem C S _ (symW_mem e)).1 hs
theorem made_table {c C S : List Int} {n : Nat} {f : Int → Nat} (hn : n ≤ 256) (h16 : ∀ s, f s ≤ 16) (hz : ∀ s, s ∉ posL c n → 0 ≤ s → f s = 0) (hl : LenOk c n f) (hC : ∀ i, i < 16 → nth C i = ((symsK f n (i + 1)).length : Nat)) (hS : S = symsTo f n 16) :
    tabE C S = 0 ∧ (∀ s : Int, 0 ≤ s → s < n → lw (wds C S) s = f s) ∧ S.length = (posL c n).length ∧ (∀ s, s ∈ S ↔ s ∈ posL c n) := by
  have hcc : ∀ i, i < 16 → cc C i = (symsK f n (i + 1)).length := fun i hi => by unfold cc; rw [hC i hi]; simp
  have hmem : ∀ s, s ∈ S ↔ s ∈ posL c n := fun s => by
    rw [hS, symsTo_mem]
    constructor
    · intro h
      by_cases hp : s ∈ posL c n
      · exact hp
      · have := hz s hp h.1; omega
    · intro h
      have h1 := (posL_mem c n s).1 h
      have h2 := hl.top s h
      exact ⟨h1.1, h1.2.1, h2.1, h2.2⟩
  have hsm : sm (cc C) 16 = S.length := by rw [hS, symsTo_sm, sm_congrf 16 hcc]
  have hlen : S.length = (posL c n).length := by
    rw [hS, symsTo_sm, rows_len f h16]
    unfold posL
    rw [List.length_map, ← nsum_one]
    refine nsum_congr _ _ _ fun s hs => ?_
    by_cases hp : (s : Int) ∈ posL c n
    · have h1 := (posL_mem c n s).1 hp
      rw [if_pos (hl.top _ hp).1, if_pos (by simpa using h1.2.2)]
    · have h1 : ¬ 0 < nth c s := fun h => hp ((posL_mem c n s).2 ⟨by omega, by simp at hs; omega, by simpa using h⟩)
      rw [if_neg (by rw [hz _ hp (by omega)]; omega), if_neg (by simpa using h1)]
  have hpl : (posL c n).length ≤ n := by
    unfold posL
    have := List.length_filter_le (fun s => decide (0 < nth c s)) (List.range n)
    simp at this ⊢; exact this
  have hnx : nx (cc C) 16 < 65536 := by
    have h1 := nx_sum (fun i => (symsK f n (i + 1)).length) 16 (by omega)
    rw [rows_sum f h16] at h1
    rw [nx_congr 16 hcc]
    have h2 : nsum (fun s : Nat => bit16 (f (s : Int))) (List.range n) = nsum (fun s => 2 ^ (16 - f s)) (posL c n) := by
      unfold posL
      rw [nsum_map, ← nsum_filter (fun s => decide (0 < nth c s)) (fun s : Nat => bit16 (f (s : Int))) (List.range n) fun s hs hp => ?_]
      · refine nsum_congr _ _ _ fun s hs => ?_
        have h3 := List.mem_filter.1 hs
        have hp : (s : Int) ∈ posL c n := (posL_mem c n s).2 ⟨by omega, by have := h3.1; simp at this; omega, by simpa using h3.2⟩
        unfold bit16; rw [if_pos (hl.top _ hp).1]
      · have hp2 : (s : Int) ∉ posL c n := fun h => by have := ((posL_mem c n s).1 h).2.2; simp at this hp; omega
        unfold bit16; rw [hz _ hp2 (by omega)]; rfl
    rw [h2] at h1
    have := hl.kraft
    simp at h1 this
    omega
  have htab : tabE C S = 0 := by
    refine tabE_of ((totOk_iff C).2 ⟨fun k hk => ?_, by omega⟩) hsm (fun s hs => ?_) (by rw [hS]; exact symsTo_nodup f n 16) ((roomy_iff _).2 hnx)
    · have := symsK_len f n (k + 1)
      rw [hC k hk]; omega
    · have := (posL_mem c n s).1 ((hmem s).1 hs); omega
  refine ⟨htab, fun s h0 h1 => ?_, hlen, hmem⟩
  by_cases hs : s ∈ S
  · obtain ⟨x, hx, rfl⟩ := lw_in htab hs
    rw [(lw_mem htab hx).2]
    refine zip_words f n 16 x ?_
    unfold wds at hx
    rw [hS, cds_congr 16 hcc] at hx
    exact hx
  · rw [(lw_pos htab s).2 hs, hz s (fun h => hs ((hmem s).2 h)) h0]
theorem nsum_sub {α : Type} [DecidableEq α] (f : α → Nat) : ∀ (A B : List α), A.Nodup → (∀ a ∈ A, a ∈ B) → nsum f A ≤ nsum f B
  | [], B, _, _ => by simp [nsum]
  | a :: A, B, hn, h => by
    obtain ⟨h1, h2⟩ := List.nodup_cons.1 hn
    have p := List.perm_cons_erase (h a (by simp))
    rw [nsum_perm f p, nsum_cons, nsum_cons]
    have := nsum_sub f A (B.erase a) h2 fun x hx => (List.mem_erase_of_ne (fun e => h1 (by rw [← e]; exact hx))).2 (h x (by simp [hx]))
    omega
theorem cds_sum (c : Nat → Nat) : ∀ k, k ≤ 16 → nsum (fun x => 2 ^ (16 - x.1)) (cds c k) = nx c k * 2 ^ (16 - k)
  | 0, _ => by simp [cds, nsum, nx]
  | k + 1, h => by
    rw [nx_sum c (k + 1) h, sm, ← nx_sum c k (by omega), ← cds_sum c k (by omega), cds, nsum_append, nsum_map]
    refine congrArg (_ + ·) ?_
    have : ∀ m, nsum (fun _ : Nat => 2 ^ (16 - (k + 1))) (List.range m) = m * 2 ^ (15 - k) := fun m => by
      have := nsum_mul (fun _ : Nat => 1) (2 ^ (15 - k)) (List.range m)
      simp only [Nat.one_mul] at this
      rw [show 16 - (k + 1) = 15 - k by omega, this, nsum_const, List.length_range]
    exact this (c k)
/-- The lengths of a valid table that has a word for all that comes. -/
theorem table_len {C S : List Int} (h : tabE C S = 0) (c : List Int) (n : Nat) (hall : ∀ s ∈ posL c n, s ∈ S) : LenOk c n (lw (wds C S)) := by
  obtain ⟨h1, h2, h3, h4, h5, h6⟩ := tabE_ok h
  refine ⟨fun s hs => (lw_pos h s).1 (hall s hs), ?_⟩
  have a1 := nsum_sub (fun s => 2 ^ (16 - lw (wds C S) s)) (posL c n) S (posL_nodup c n) hall
  have a2 : nsum (fun s => 2 ^ (16 - lw (wds C S) s)) S = nsum (fun x => 2 ^ (16 - x.2.1)) (wds C S) := by
    have e1 := nsum_map (fun x : Int × Nat × Nat => x.1) (fun s => 2 ^ (16 - lw (wds C S) s)) (wds C S)
    rw [wds_fst h2] at e1
    rw [e1]
    exact nsum_congr _ _ _ fun x hx => by rw [(lw_mem h hx).2]
  have a3 : nsum (fun x : Int × Nat × Nat => 2 ^ (16 - x.2.1)) (wds C S) = nsum (fun x => 2 ^ (16 - x.1)) (cds (cc C) 16) := by
    rw [← wds_snd h2, nsum_map]
  have a4 := cds_sum (cc C) 16 (Nat.le_refl _)
  have a5 := (roomy_iff _).1 h6
  simp at a4
  have : (2 : Nat) ^ 16 = 65536 := by decide
  omega
end Go.Proofs.YtehbjhocgnfpmaaDoor

/- The walk of best.Cost. -/
namespace Go.Proofs.YtehbjhocgnfpmaaDoor
set_option maxRecDepth 100000
open Go.RowKit
set_option linter.unusedVariables false
/-- The map from symbols to lengths. -/
def lgF (L : List (Int × Nat × Nat)) (s : Int) : Option Value := (symW L s).map (fun y => .int .i64 (y.1 : Int))
theorem lgF_snoc (L : List (Int × Nat × Nat)) (s : Int) (l c : Nat) : (fun j => if j = s then some (Value.int .i64 (l : Int)) else lgF L j) = lgF (L ++ [(s, l, c)]) := by
  funext j
  unfold lgF
  rw [symW_snoc]
  by_cases h : j = s
  · rw [if_pos h, if_pos h]; rfl
  · rw [if_neg h, if_neg h]
theorem lgF_none {L : List (Int × Nat × Nat)} {s : Int} (h : symW L s = none) : lgF L s = none ∧ lw L s = 0 := by
  unfold lgF lw; rw [h]; exact ⟨rfl, rfl⟩
theorem lgF_some {L : List (Int × Nat × Nat)} {s : Int} {y : Nat × Nat} (h : symW L s = some y) : lgF L s = some (.int .i64 ((lw L s : Nat) : Int)) := by
  unfold lgF lw; rw [h]; rfl
theorem costL_succ (c : List Int) (n : Nat) (l : Int → Nat) : costL c (n + 1) l = costL c n l + nth c n * (l (n : Int) : Nat) := by
  unfold costL; rw [List.range_succ, isum_append]; simp [isum]
theorem costL_zero (c : List Int) (l : Int → Nat) : costL c 0 l = 0 := rfl
theorem costL_bd {c : List Int} {l : Int → Nat} {n : Nat} (h : ∀ i, i < n → 0 ≤ nth c i ∧ nth c i ≤ 9999) (h16 : ∀ s, l s ≤ 16) : 0 ≤ costL c n l ∧ costL c n l ≤ n * 159984 := by
  induction n with
  | zero => rw [costL_zero]; omega
  | succ n ih =>
    rw [costL_succ]
    have h1 := h n (by omega)
    have h2 := ih fun i hi => h i (by omega)
    have h3 : 0 ≤ nth c n * ((l (n : Int) : Nat) : Int) := Int.mul_nonneg h1.1 (by omega)
    have h4 : nth c n * ((l (n : Int) : Nat) : Int) ≤ 9999 * 16 := Int.mul_le_mul h1.2 (by have := h16 (n : Int); omega) (by omega) (by omega)
    omega
/-- Has what comes no word? -/
def noneAt (c : List Int) (k : Nat) (L : List (Int × Nat × Nat)) : Bool := (List.range k).any fun i => decide (0 < nth c i) && decide (lw L (i : Int) = 0)
theorem noneAt_succ (c : List Int) (k : Nat) (L : List (Int × Nat × Nat)) : noneAt c (k + 1) L = (noneAt c k L || (decide (0 < nth c k) && decide (lw L (k : Int) = 0))) := by
  unfold noneAt; rw [List.range_succ, List.any_append]; simp
theorem noneAt_mono (c : List Int) (L : List (Int × Nat × Nat)) {k n : Nat} (h : k ≤ n) (hk : noneAt c k L = true) : noneAt c n L = true := by
  unfold noneAt at *
  rw [List.any_eq_true] at *
  obtain ⟨i, h1, h2⟩ := hk
  exact ⟨i, by simp at *; omega, h2⟩
/-- Cost's refusals, and what it gives. -/
def costE (C S c : List Int) : Int := if tabE C S ≠ 0 then tabE C S else if bE c ≠ 0 then bE c else if noneAt c c.length (wds C S) then 5 else 0
def costN (C S c : List Int) : Int := if costE C S c = 0 then costL c c.length (lw (wds C S)) else 0
set_option maxRecDepth 100000 in
set_option maxHeartbeats 8000000 in
theorem cost_any (w0 : World) (C S : List Int) (ad : Option Addr) (n cp : Nat) (hC : Len C 16) (hv : Sl w0 1 (.slice ad n cp) n (S.map (Value.int .i64))) (hn : n ≤ 9223372036854775807) (c : List Int) (ad2 : Option Addr) (n2 cp2 : Nat) (hv2 : Sl w0 1 (.slice ad2 n2 cp2) n2 (c.map (Value.int .i64))) (hn2 : n2 ≤ 9223372036854775807) :
    Calls Tryd.prog 21 #[tv C (.slice ad n cp), .slice ad2 n2 cp2] w0 fun e w => e = .returned (.tuple #[.int .i64 (costN C S c), .int .i64 (costE C S c)]) ∧ Ext w0 w := by
  have hS := St.start w0
  have hcl : c.length = n2 := by have := hv2.1; simpa using this
  have HW := hid (fun (w : World) (hE : Ext w0 w) => words_any w C S ad n cp hC (hv.ext hE) hn)
  have HCK := hid (fun (w : World) (hE : Ext w0 w) => bcheck_any w c ad2 n2 cp2 (hv2.ext hE) hn2)
  obtain ⟨E, hE⟩ : ∃ E, tabE C S = E := ⟨_, rfl⟩
  obtain ⟨B, hB⟩ : ∃ B, bE c = B := ⟨_, rfl⟩
  by_cases h0 : E = 0
  · subst h0
    by_cases h1 : B = 0
    · subst h1
      have HE := hid hE
      have HB := hid hB
      have HL := hid (wds_len C S (tabE_ok hE).2.1)
      obtain ⟨L, hL⟩ : ∃ L, wds C S = L := ⟨_, rfl⟩
      have H16 := hid (fun s : Int => show lw L s ≤ 16 by rw [← hL]; by_cases h : s ∈ S; exact ((lw_pos hE s).1 h).2; rw [(lw_pos hE s).2 h]; omega)
      have HPOS := hid (fun (s : Int) (y : Nat × Nat) (h : symW L s = some y) => show 1 ≤ lw L s by
        rw [← hL] at h ⊢
        have h2 := (wds_good hE).long _ (symW_mem h)
        have h3 := (lw_mem hE (symW_mem h)).2
        dsimp only at h2 h3
        omega)
      have hl256 := (tabE_ok hE).2.2.1
      have hLl : L.length = S.length := by rw [← hL]; exact HL.out
      have hL256 : L.length ≤ 256 := by omega
      have hc2 : n2 ≤ 256 ∧ ∀ i, i < n2 → 0 ≤ nth c i ∧ nth c i ≤ 9999 := by
        unfold bE at hB
        rw [hcl] at hB
        by_cases h : 256 < n2
        · rw [if_pos h] at hB; cases hB
        · rw [if_neg h] at hB
          by_cases h2 : allIn c 0 9999 = true
          · exact ⟨by omega, fun i hi => (allIn_iff c 0 9999).1 h2 i (by omega)⟩
          · rw [if_neg h2] at hB; cases hB
      obtain ⟨hn3, hc⟩ := hc2
      have HC := hid hc
      have HRES : Hid (costE C S c = if noneAt c n2 L then 5 else 0) := hid (by unfold costE; rw [HE.out, HB.out, hcl, hL]; rfl)
      have HRES2 : Hid (∀ b, noneAt c n2 L = b → costN C S c = if b then 0 else costL c n2 (lw L)) := hid (fun b hb => by
        unfold costN; rw [HRES.out, hb, hcl, hL]; cases b <;> rfl)
      have HWL : Hid (WordsGives w0 C S = WordsGives w0 C S) := hid rfl
      have HLL := hid hL
      have HLN := hid hLl
      clear hE hB hL hl256 hLl hc
      go_enter Tryd.func21, Tryd.ntmps21
      repeat' (first
        | ((with_reducible apply gt9 (some 16) _); refine wpl_call (f := 44) Tryd.call44 (by kernel_rfl) ?_; refine ⟨_, (HW.out _ hS.1), ?_⟩; rintro e w ⟨a2, n3, c3, hn4, rfl, hS2⟩; rw [if_pos HE.out] at hn4 hS2; rw [HE.out, HLL.out] at *; rw [← HLN.out] at hn4; subst hn4; replace hS := hS.call1 hS2; clear hS2; refine ⟨_, rfl, ?_⟩; refine put_move ?_; go_step) | ((with_reducible apply gt9 _ (.move _)); (first | go_big_want | go_step); go_step) | ((with_reducible apply gt9 _ (.assign _)); (first | go_big_want | go_step); go_step) | ((with_reducible apply gt9 _ (.extract _ _)); (refine wvv9 (V.extract rfl rfl) ?_; go_step)) | ((with_reducible apply gt9 _ (.binOp .eql 25 _ _ _)); (refine wvv9 (V.eql rfl rfl) ?_; go_step)) | ((with_reducible apply gt9 (some 2) (.box 31 _)); (refine wpl (by kernel_rfl) ?_; apply wp_boxP (o := ⟨some 2, _, _, _, _, _⟩) hS 31 _ rfl _ rfl; clear hS; intro g2 w hS; refine put_move ?_; go_step)) | ((with_reducible apply gt9 _ (.load 31 _)); (refine wpl (by kernel_rfl) ?_; apply wp_loadPP hS 31 _ rfl _ _ rfl 17 (row_of rfl) _; (case hp => exact pl9); (case hi => (repeat (first | (apply AtP.head; (repeat (first | exact Pre.nil | (apply Pre.ints; (case hn => (first | (with_reducible assumption) | exact Len.rep | exact Len.set (by with_reducible assumption) | exact Len.set Len.rep | exact Len.set (Len.set Len.rep))); (case h => omega); (case hm => rfl)) | apply Pre.val))) | (apply AtP.skipI; (case hn => (first | (with_reducible assumption) | exact Len.rep | exact Len.set (by with_reducible assumption) | exact Len.set Len.rep | exact Len.set (Len.set Len.rep))); (case h => omega); (case ho => rfl)) | apply AtP.skipV))); refine put_move ?_; go_step)) | ((fail_if_success with_reducible apply ga9); go_step))
      repeat' (first
        | ((with_reducible apply gt9 (some 22) _); refine wpl_call (f := 45) Tryd.call45 (by kernel_rfl) ?_; refine ⟨_, (HCK.out _ hS.1), ?_⟩; rintro e w ⟨rfl, hE2⟩; rw [HB.out]; replace hS := hS.ext hE2; clear hE2; refine ⟨_, rfl, ?_⟩; refine put_move ?_; go_step) | ((with_reducible apply gt9 _ (.move _)); (first | go_big_want | go_step); go_step) | ((with_reducible apply gt9 _ (.assign _)); (first | go_big_want | go_step); go_step) | ((with_reducible apply gt9 _ (.binOp .neq 25 _ _ _)); (refine wvv9 (V.neq rfl rfl) ?_; go_step)) | ((with_reducible apply gt9 (some 26) (.makeMap 89 _)); (refine wpl (by kernel_rfl) ?_; apply wp_makeMap (o := ⟨some 26, _, _, _, _, _⟩) ik hS 89 rfl; clear hS; intro g26 w hS; refine put_move ?_; go_step)) | ((fail_if_success with_reducible apply ga9); go_step))
      obtain ⟨m, hm⟩ : ∃ m, L.length = m := ⟨_, rfl⟩
      have HM := hid hm
      rw [hm] at hS hL256
      try rw [hm]
      clear hm
      repeat' (first
        | ((with_reducible apply gt9 _ (.move _)); (first | go_big_want | go_step); go_step) | ((with_reducible apply gt9 _ (.call ⟨.builtin .len, _, _⟩)); (refine wvv9 (V.len Tryd.underlying85 rfl) ?_; go_step)) | ((fail_if_success with_reducible apply ga9); go_step))
      go_loopg [29] m (fun gk kv w => ∃ (i : Nat), gk + i = m ∧ kv = .int .i64 i ∧ St w0 w [own 91 3 a2 m c3 ((wfl L).map (Value.int .i64)), mp ik g26 (lgF (L.take i)), prt g2 [.ints C, .val (.slice ad n cp)]])
      case atStart => exact ⟨0, rfl, rfl, (by rw [show lgF (L.take 0) = fun _ => none from rfl]; exact hS.sub sb9)⟩
      case round =>
        clear hS
        obtain ⟨i, hi, rfl, hS⟩ := hrel
        by_cases hlt : i < m
        · obtain ⟨b2, rfl⟩ := own_some hS pl9 (by omega)
          obtain ⟨⟨s, l, k⟩, hx⟩ : ∃ x, L[i]? = some x := ⟨_, List.getElem?_eq_getElem (by rw [HM.out]; exact hlt)⟩
          have hseg := wfl_get L i _ hx
          dsimp only at hseg
          have ht : L.take (i + 1) = L.take i ++ [(s, l, k)] := by rw [List.take_add_one, hx]; rfl
          have H1 := hid (lgF_snoc (L.take i) s l k)
          rw [← ht] at H1
          clear hx ht
          repeat' (first
            | ((with_reducible apply gt9 _ (.move _)); (first | go_big_want | go_step); go_step) | ((with_reducible apply gt9 _ (.binOp .lss _ _ _ _)); (refine wvv9 (V.lss rfl rfl) ?_; go_step)) | ((with_reducible apply gt9 (some 31) (.indexAddr 85 _ _)); (refine wvv9 (V.indexSl Tryd.underlying85 isz91 rfl rfl isn9 (by omega) rfl nq9) ?_; go_step)) | ((with_reducible apply gt9 _ (.fieldAddr 91 _ 0)); (refine wvv9 (V.fieldAddr fo91_0 rfl nq9) ?_; go_step)) | ((with_reducible apply gt9 _ (.fieldAddr 91 _ 1)); (refine wvv9 (V.fieldAddr fo91_1 rfl nq9) ?_; go_step)) | ((with_reducible apply gt9 _ (.binOp .add _ _ _ _)); (refine wvv9 (V.addI rfl rfl (by omega)) ?_; go_step)) | ((with_reducible apply gt9 _ (.load 91 _)); (refine wpl (by kernel_rfl) ?_; apply wp_loadROE hS 91 _ rfl _ _ rfl 3 (row_of rfl) _ _ _ _ _; (case hp => exact pl9); (case hi => omega); (case hl' => with_reducible assumption); refine put_move ?_; go_step)) | ((with_reducible apply gt9 (some 10) (.alloc 91)); (refine wpl (by kernel_rfl) ?_; apply wp_alloc (o := ⟨some 10, _, _, _, _, _⟩) hS 91 rfl (.agg #[.int .i64 0, .int .i64 0, .int .i64 0]) [.int .i64 0, .int .i64 0, .int .i64 0] (fun w => Tryd.zeroValue91 w) rfl; clear hS; intro g10 w hS; refine put_move ?_; go_step)) | ((with_reducible apply gt9 _ (.store 91 _ _)); (refine wpl (by kernel_rfl) ?_; apply wp_storeG hS 91 _ _ rfl _ rfl 3 (row_of rfl) _ _; (case hp => exact pl9); (case hy => rfl); (case hn => rfl); (case hn' => rfl); (case hv => rfl); (case hd => exact rfl); clear hS; intro w hS)) | ((with_reducible apply gt9 _ (.load 3 _)); (refine wpl (by kernel_rfl) ?_; apply wp_load1 hS 3 _ rfl _ _ rfl (one_of rfl) _; (case hp => exact pl9); (case hc => rfl); refine put_move ?_; go_step)) | ((with_reducible apply gt9 _ (.mapUpdate 89 _ _ _)); (refine wpl (by kernel_rfl) ?_; apply wp_mapUpdate (enc := ik) hS 89 _ _ _ rfl _ rfl _ rfl Tryd.underlying89 (keyLaw_int Tryd.underlying3) _; (case hp => exact pl9); (case hv => (first | exact IsV.int rfl | exact IsV.bool rfl | exact IsV.slice rfl | exact IsV.pointer rfl | exact IsV.string rfl | exact IsV.map rfl | exact IsV.func rfl | exact IsV.agg rfl)); (case hd => exact rfl); clear hS; intro w hS)) | ((fail_if_success with_reducible apply ga9); go_step))
          go_roundg (gk - 1)
          case measure => omega
          case rel =>
            refine ⟨i + 1, by omega, by go_num, ?_⟩
            rw [← H1.out]
            exact hS.sub sb9
        · obtain rfl : i = m := by omega
          rw [show L.take i = L by rw [← HM.out]; exact List.take_length] at hS
          repeat' (first
            | ((with_reducible apply gt9 _ (.move _)); (first | go_big_want | go_step); go_step) | ((with_reducible apply gt9 _ (.assign _)); (first | go_big_want | go_step); go_step) | ((with_reducible apply gt9 _ (.binOp .lss _ _ _ _)); (refine wvv9 (V.lss rfl rfl) ?_; go_step)) | ((with_reducible apply gt9 _ (.call ⟨.builtin .len, _, _⟩)); (refine wvv9 (V.len Tryd.underlying24 rfl) ?_; go_step)) | ((fail_if_success with_reducible apply ga9); go_step))
          clear hlt hi
          go_loopg [11, 41] n2 (fun gk av kv w => ∃ (i : Nat) (A : Int), gk + i = n2 ∧ kv = .int .i64 i ∧ av = .int .i64 A ∧ Hid (A = costL c i (lw L)) ∧ Hid (noneAt c i L = false) ∧ St w0 w [mp ik g26 (lgF L), prt g2 [.ints C, .val (.slice ad n cp)]])
          case atStart => exact ⟨0, 0, rfl, rfl, rfl, hid rfl, hid rfl, hS.sub sb9⟩
          case round =>
            clear hS
            obtain ⟨i, A, hi, rfl, rfl, HA, HN, hS⟩ := hrel
            by_cases hlt : i < n2
            · have hci := HC.out i hlt
              have hbd := costL_bd (l := lw L) (n := i) (fun j hj => HC.out j (by omega)) H16.out
              rw [← HA.out] at hbd
              obtain ⟨x, hx⟩ : ∃ x, nth c i = x := ⟨_, rfl⟩
              have HX := hid hx
              clear hv
              rw [hx] at hci
              have HS1 := hid (costL_succ c i (lw L))
              have HN1 := hid (noneAt_succ c i L)
              rw [hx] at HS1 HN1
              rcases hw : symW L (i : Int) with _ | y
              · obtain ⟨hf, hl0⟩ := lgF_none hw
                have HL0 := hid hl0
                clear hl0 hw
                by_cases hx0 : 0 < x
                · have HNB := hid (noneAt_mono c L (show i + 1 ≤ n2 by omega) (by rw [HN1.out, HL0.out]; simp [hx0]))
                  clear hx
                  repeat' (first
                    | ((with_reducible apply gt9 _ (.move _)); (first | go_big_want | go_step); go_step) | ((with_reducible apply gt9 _ (.assign _)); (first | go_big_want | go_step); go_step) | ((with_reducible apply gt9 _ (.binOp .lss _ _ _ _)); (refine wvv9 (V.lss rfl rfl) ?_; go_step)) | ((with_reducible apply gt9 (some 44) (.indexAddr 24 _ _)); (refine wpl_indexI (by with_reducible assumption) Tryd.underlying24 isz3 rfl rfl isn9 (by omega) rfl ?_; intro b44 o44 hc44; go_step)) | ((with_reducible apply gt9 _ (.load 3 _)); (refine wpl (by kernel_rfl) ?_; apply wp_loadW hS 3 _ rfl _ rfl (one_of rfl) _; (case hc => with_reducible assumption); refine put_move ?_; go_step)) | ((fail_if_success with_reducible apply ga9); go_step))
                  rw [HX.out]
                  repeat' (first
                    | ((with_reducible apply gt9 _ (.move _)); (first | go_big_want | go_step); go_step) | ((with_reducible apply gt9 _ (.assign _)); (first | go_big_want | go_step); go_step) | ((with_reducible apply gt9 _ (.pick _ _ _)); (refine wplPickT rfl (by kernel_rfl) ?_; go_step)) | ((with_reducible apply gt9 (some 47) (.binOp .gtr _ _ _ _)); (refine wplD _ (V.gtr rfl rfl) (by kernel_rfl) (fun hB => ?_) (fun hB => ?_) <;> (try (have hF : False := (by omega); cases hF)) <;> go_step)) | ((with_reducible apply gt9 _ (.binOp .eql 3 _ _ _)); (refine wvv9 (V.eql rfl rfl) ?_; go_step)) | ((with_reducible apply gt9 (some 51) (.lookup 89 _ _ _)); (refine wpl (by kernel_rfl) ?_; apply wp_lookupN (enc := ik) hS 89 _ _ rfl _ rfl _ rfl Tryd.underlying89 (keyLaw_int Tryd.underlying3) (.int .i64 0) (fun w => Tryd.zeroValue3 w) _; (case hp => exact pl9); (case hf => with_reducible assumption); refine put_move ?_; go_step)) | ((fail_if_success with_reducible apply ga9); go_step))
                  have HR1 := HRES.out
                  have HR2 := HRES2.out _ HNB.out
                  rw [HNB.out] at HR1
                  refine ret_all (xs := [_, _]) rfl (.cons (OneRes.tmp rfl) (.cons (OneRes.tmp rfl) (.nil))) (by simp) rfl ?_
                  refine ⟨?_, hS.1⟩
                  rw [HR1, HR2]
                  rfl
                · obtain rfl : x = 0 := by omega
                  clear hx
                  repeat' (first
                    | ((with_reducible apply gt9 _ (.move _)); (first | go_big_want | go_step); go_step) | ((with_reducible apply gt9 _ (.assign _)); (first | go_big_want | go_step); go_step) | ((with_reducible apply gt9 _ (.binOp .lss _ _ _ _)); (refine wvv9 (V.lss rfl rfl) ?_; go_step)) | ((with_reducible apply gt9 (some 44) (.indexAddr 24 _ _)); (refine wpl_indexI (by with_reducible assumption) Tryd.underlying24 isz3 rfl rfl isn9 (by omega) rfl ?_; intro b44 o44 hc44; go_step)) | ((with_reducible apply gt9 _ (.load 3 _)); (refine wpl (by kernel_rfl) ?_; apply wp_loadW hS 3 _ rfl _ rfl (one_of rfl) _; (case hc => with_reducible assumption); refine put_move ?_; go_step)) | ((fail_if_success with_reducible apply ga9); go_step))
                  rw [HX.out]
                  repeat' (first
                    | go_big_skip | ((with_reducible apply gt9 _ (.move _)); (first | go_big_want | go_step); go_step) | ((with_reducible apply gt9 _ (.assign _)); (first | go_big_want | go_step); go_step) | ((with_reducible apply gt9 _ (.pick _ _ _)); (refine wplPickF rfl (by kernel_rfl) ?_; go_step)) | ((with_reducible apply gt9 (some 47) (.binOp .gtr _ _ _ _)); (refine wplD _ (V.gtr rfl rfl) (by kernel_rfl) (fun hB => ?_) (fun hB => ?_) <;> (try (have hF : False := (by omega); cases hF)) <;> go_step)) | ((with_reducible apply gt9 _ (.binOp .mul _ _ _ _)); (refine wvv9 (V.mulI rfl rfl (by omega)) ?_; go_step)) | ((with_reducible apply gt9 _ (.binOp .add _ _ _ _)); (refine wvv9 (V.addI rfl rfl (by omega)) ?_; go_step)) | ((with_reducible apply gt9 (some 58) (.lookup 89 _ _ _)); (refine wpl (by kernel_rfl) ?_; apply wp_lookupN (enc := ik) hS 89 _ _ rfl _ rfl _ rfl Tryd.underlying89 (keyLaw_int Tryd.underlying3) (.int .i64 0) (fun w => Tryd.zeroValue3 w) _; (case hp => exact pl9); (case hf => with_reducible assumption); refine put_move ?_; go_step)) | ((fail_if_success with_reducible apply ga9); go_step))
                  go_roundg (gk - 1)
                  case measure => omega
                  case rel =>
                    refine ⟨i + 1, _, by omega, by go_num, rfl, ?_, ?_, hS.sub sb9⟩
                    · exact hid (by rw [HS1.out, ← HA.out]; omega)
                    · exact hid (by rw [HN1.out, HN.out]; simp)
              · have hf := lgF_some hw
                have h16 := H16.out (i : Int)
                have hpos := HPOS.out _ _ hw
                obtain ⟨z, hz⟩ : ∃ z, lw L (i : Int) = z := ⟨_, rfl⟩
                rw [hz] at hf h16 hpos HS1 HN1
                clear hz hw hx
                have hmul : 0 ≤ x * z ∧ x * z ≤ 9999 * 16 := ⟨Int.mul_nonneg hci.1 (by omega), Int.mul_le_mul hci.2 (by omega) (by omega) (by omega)⟩
                repeat' (first
                  | ((with_reducible apply gt9 _ (.move _)); (first | go_big_want | go_step); go_step) | ((with_reducible apply gt9 _ (.assign _)); (first | go_big_want | go_step); go_step) | ((with_reducible apply gt9 _ (.binOp .lss _ _ _ _)); (refine wvv9 (V.lss rfl rfl) ?_; go_step)) | ((with_reducible apply gt9 (some 44) (.indexAddr 24 _ _)); (refine wpl_indexI (by with_reducible assumption) Tryd.underlying24 isz3 rfl rfl isn9 (by omega) rfl ?_; intro b44 o44 hc44; go_step)) | ((with_reducible apply gt9 _ (.load 3 _)); (refine wpl (by kernel_rfl) ?_; apply wp_loadW hS 3 _ rfl _ rfl (one_of rfl) _; (case hc => with_reducible assumption); refine put_move ?_; go_step)) | ((fail_if_success with_reducible apply ga9); go_step))
                rw [HX.out]
                repeat' (first
                  | go_big_skip | ((with_reducible apply gt9 _ (.move _)); (first | go_big_want | go_step); go_step) | ((with_reducible apply gt9 _ (.assign _)); (first | go_big_want | go_step); go_step) | ((with_reducible apply gt9 _ (.pick _ _ _)); first | (refine wplPickT rfl (by kernel_rfl) ?_; go_step) | (refine wplPickF rfl (by kernel_rfl) ?_; go_step)) | ((with_reducible apply gt9 (some 47) (.binOp .gtr _ _ _ _)); (refine wplD _ (V.gtr rfl rfl) (by kernel_rfl) (fun hB => ?_) (fun hB => ?_) <;> (try (have hF : False := (by omega); cases hF)) <;> go_step)) | ((with_reducible apply gt9 _ (.binOp .eql 3 _ _ _)); (refine wvv9 (V.eql rfl rfl) ?_; go_step)) | ((with_reducible apply gt9 _ (.binOp .mul _ _ _ _)); (refine wvv9 (V.mulI rfl rfl (by omega)) ?_; go_step)) | ((with_reducible apply gt9 _ (.binOp .add _ _ _ _)); (refine wvv9 (V.addI rfl rfl (by omega)) ?_; go_step)) | ((with_reducible apply gt9 (some 51) (.lookup 89 _ _ _)); (refine wpl (by kernel_rfl) ?_; apply wp_lookupS (enc := ik) hS 89 _ _ rfl _ rfl _ rfl Tryd.underlying89 (keyLaw_int Tryd.underlying3) (.int .i64 0) (fun w => Tryd.zeroValue3 w) _; (case hp => exact pl9); (case hf => with_reducible assumption); refine put_move ?_; go_step)) | ((with_reducible apply gt9 (some 58) (.lookup 89 _ _ _)); (refine wpl (by kernel_rfl) ?_; apply wp_lookupS (enc := ik) hS 89 _ _ rfl _ rfl _ rfl Tryd.underlying89 (keyLaw_int Tryd.underlying3) (.int .i64 0) (fun w => Tryd.zeroValue3 w) _; (case hp => exact pl9); (case hf => with_reducible assumption); refine put_move ?_; go_step)) | ((fail_if_success with_reducible apply ga9); go_step))
                all_goals
                  go_roundg (gk - 1)
                  case measure => omega
                  case rel =>
                    refine ⟨i + 1, _, by omega, by go_num, rfl, ?_, ?_, hS.sub sb9⟩
                    · exact hid (by rw [HS1.out, ← HA.out])
                    · exact hid (by rw [HN1.out, HN.out]; simp; omega)
            · obtain rfl : i = n2 := by omega
              repeat' (first
                | ((with_reducible apply gt9 _ (.move _)); (first | go_big_want | go_step); go_step) | ((with_reducible apply gt9 _ (.assign _)); (first | go_big_want | go_step); go_step) | ((with_reducible apply gt9 _ (.binOp .lss _ _ _ _)); (refine wvv9 (V.lss rfl rfl) ?_; go_step)) | ((fail_if_success with_reducible apply ga9); go_step))
              have HR1 := HRES.out
              have HR2 := HRES2.out _ HN.out
              rw [HN.out] at HR1
              refine ret_all (xs := [_, _]) rfl (.cons (OneRes.tmp rfl) (.cons (OneRes.tmp rfl) (.nil))) (by simp) rfl ?_
              refine ⟨?_, hS.1⟩
              rw [HR1, HR2, HA.out]
              rfl
    · have HE := hid hE
      have HB := hid hB
      have HH := hid (show costE C S c = B ∧ costN C S c = 0 by
        have e : costE C S c = B := by unfold costE; rw [if_neg (by rw [hE]; omega), if_pos (by rw [hB]; exact h1), hB]
        exact ⟨e, by unfold costN; rw [e, if_neg h1]⟩)
      clear hE hB
      go_enter Tryd.func21, Tryd.ntmps21
      repeat' (first
        | ((with_reducible apply gt9 (some 16) _); refine wpl_call (f := 44) Tryd.call44 (by kernel_rfl) ?_; refine ⟨_, (HW.out _ hS.1), ?_⟩; rintro e w ⟨a2, n3, c3, hn4, rfl, hS2⟩; rw [HE.out]; replace hS := St.of_ext (hS.call1 hS2).1; clear hS2 hn4; refine ⟨_, rfl, ?_⟩; refine put_move ?_; go_step) | ((with_reducible apply gt9 _ (.move _)); (first | go_big_want | go_step); go_step) | ((with_reducible apply gt9 _ (.assign _)); (first | go_big_want | go_step); go_step) | ((with_reducible apply gt9 _ (.extract _ _)); (refine wvv9 (V.extract rfl rfl) ?_; go_step)) | ((with_reducible apply gt9 _ (.binOp .eql 25 _ _ _)); (refine wvv9 (V.eql rfl rfl) ?_; go_step)) | ((with_reducible apply gt9 (some 2) (.box 31 _)); (refine wpl (by kernel_rfl) ?_; apply wp_boxP (o := ⟨some 2, _, _, _, _, _⟩) hS 31 _ rfl _ rfl; clear hS; intro g2 w hS; refine put_move ?_; go_step)) | ((with_reducible apply gt9 _ (.load 31 _)); (refine wpl (by kernel_rfl) ?_; apply wp_loadPP hS 31 _ rfl _ _ rfl 17 (row_of rfl) _; (case hp => exact pl9); (case hi => (repeat (first | (apply AtP.head; (repeat (first | exact Pre.nil | (apply Pre.ints; (case hn => (first | (with_reducible assumption) | exact Len.rep | exact Len.set (by with_reducible assumption) | exact Len.set Len.rep | exact Len.set (Len.set Len.rep))); (case h => omega); (case hm => rfl)) | apply Pre.val))) | (apply AtP.skipI; (case hn => (first | (with_reducible assumption) | exact Len.rep | exact Len.set (by with_reducible assumption) | exact Len.set Len.rep | exact Len.set (Len.set Len.rep))); (case h => omega); (case ho => rfl)) | apply AtP.skipV))); refine put_move ?_; go_step)) | ((fail_if_success with_reducible apply ga9); go_step))
      repeat' (first
        | ((with_reducible apply gt9 (some 22) _); refine wpl_call (f := 45) Tryd.call45 (by kernel_rfl) ?_; refine ⟨_, (HCK.out _ hS.1), ?_⟩; rintro e w ⟨rfl, hE2⟩; rw [HB.out]; replace hS := hS.ext hE2; clear hE2; refine ⟨_, rfl, ?_⟩; refine put_move ?_; go_step) | ((with_reducible apply gt9 _ (.move _)); (first | go_big_want | go_step); go_step) | ((with_reducible apply gt9 _ (.assign _)); (first | go_big_want | go_step); go_step) | ((with_reducible apply gt9 _ (.binOp .neq 25 _ _ _)); (refine wvv9 (V.neq rfl rfl) ?_; go_step)) | ((fail_if_success with_reducible apply ga9); go_step))
      refine ret_all (xs := [_, _]) rfl (.cons (OneRes.tmp rfl) (.cons (OneRes.tmp rfl) (.nil))) (by simp) rfl ?_
      refine ⟨?_, hS.1⟩
      rw [HH.out.1, HH.out.2]
      rfl
  · have HE := hid hE
    have HH := hid (show costE C S c = E ∧ costN C S c = 0 by
      have e : costE C S c = E := by unfold costE; rw [if_pos (by rw [hE]; exact h0), hE]
      exact ⟨e, by unfold costN; rw [e, if_neg h0]⟩)
    clear hE hB
    go_enter Tryd.func21, Tryd.ntmps21
    repeat' (first
      | ((with_reducible apply gt9 (some 16) _); refine wpl_call (f := 44) Tryd.call44 (by kernel_rfl) ?_; refine ⟨_, (HW.out _ hS.1), ?_⟩; rintro e w ⟨a2, n3, c3, hn4, rfl, hS2⟩; rw [HE.out]; replace hS := St.of_ext (hS.call1 hS2).1; clear hS2 hn4; refine ⟨_, rfl, ?_⟩; refine put_move ?_; go_step) | ((with_reducible apply gt9 _ (.move _)); (first | go_big_want | go_step); go_step) | ((with_reducible apply gt9 _ (.assign _)); (first | go_big_want | go_step); go_step) | ((with_reducible apply gt9 _ (.extract _ _)); (refine wvv9 (V.extract rfl rfl) ?_; go_step)) | ((with_reducible apply gt9 _ (.binOp .eql 25 _ _ _)); (refine wvv9 (V.eql rfl rfl) ?_; go_step)) | ((with_reducible apply gt9 _ (.binOp .neq 25 _ _ _)); (refine wvv9 (V.neq rfl rfl) ?_; go_step)) | ((with_reducible apply gt9 (some 2) (.box 31 _)); (refine wpl (by kernel_rfl) ?_; apply wp_boxP (o := ⟨some 2, _, _, _, _, _⟩) hS 31 _ rfl _ rfl; clear hS; intro g2 w hS; refine put_move ?_; go_step)) | ((with_reducible apply gt9 _ (.load 31 _)); (refine wpl (by kernel_rfl) ?_; apply wp_loadPP hS 31 _ rfl _ _ rfl 17 (row_of rfl) _; (case hp => exact pl9); (case hi => (repeat (first | (apply AtP.head; (repeat (first | exact Pre.nil | (apply Pre.ints; (case hn => (first | (with_reducible assumption) | exact Len.rep | exact Len.set (by with_reducible assumption) | exact Len.set Len.rep | exact Len.set (Len.set Len.rep))); (case h => omega); (case hm => rfl)) | apply Pre.val))) | (apply AtP.skipI; (case hn => (first | (with_reducible assumption) | exact Len.rep | exact Len.set (by with_reducible assumption) | exact Len.set Len.rep | exact Len.set (Len.set Len.rep))); (case h => omega); (case ho => rfl)) | apply AtP.skipV))); refine put_move ?_; go_step)) | ((fail_if_success with_reducible apply ga9); go_step))
    refine ret_all (xs := [_, _]) rfl (.cons (OneRes.tmp rfl) (.cons (OneRes.tmp rfl) (.nil))) (by simp) rfl ?_
    refine ⟨?_, hS.1⟩
    rw [HH.out.1, HH.out.2]
    rfl
end Go.Proofs.YtehbjhocgnfpmaaDoor

/- What best.Make gives, in one record; its refusals; the closed fact. -/
namespace Go.Proofs.YtehbjhocgnfpmaaDoor
set_option maxRecDepth 100000
open Go.RowKit
set_option linter.unusedVariables false
/-- (C, S) is the table that Make gives for these counts. -/
structure Mk (c : List Int) (n : Nat) (C S : List Int) : Prop where
  len : Len C 16
  ok : tabE C S = 0
  mem : ∀ s, s ∈ S ↔ s ∈ posL c n
  slen : S.length = (posL c n).length
  best : ∀ l, LenOk c n l → costL c n (lw (wds C S)) ≤ costL c n l
  order : ∀ a b, a ∈ posL c n → b ∈ posL c n → nth c b.toNat < nth c a.toNat → lw (wds C S) a ≤ lw (wds C S) b
  lens : LenOk c n (lw (wds C S))
theorem costL_congr (c : List Int) (n : Nat) (f g : Int → Nat) (h : ∀ s : Int, 0 ≤ s → s < n → f s = g s) : costL c n f = costL c n g := by
  unfold costL
  refine isum_congr _ _ _ fun s hs => ?_
  rw [h s (by omega) (by have := List.mem_range.1 hs; omega)]
theorem bE_ok {c : List Int} (h : bE c = 0) : c.length ≤ 256 ∧ ∀ i, i < c.length → 0 ≤ nth c i ∧ nth c i ≤ 9999 := by
  unfold bE at h
  by_cases h1 : 256 < c.length
  · rw [if_pos h1] at h; cases h
  · rw [if_neg h1] at h
    by_cases h2 : allIn c 0 9999 = true
    · exact ⟨by omega, (allIn_iff c 0 9999).1 h2⟩
    · rw [if_neg h2] at h; cases h
theorem bE_of {c : List Int} (h1 : c.length ≤ 256) (h2 : ∀ i, i < c.length → 0 ≤ nth c i ∧ nth c i ≤ 9999) : bE c = 0 := by
  unfold bE; rw [if_neg (by omega), if_pos ((allIn_iff c 0 9999).2 h2)]
theorem make_good (w0 : World) (c : List Int) (ad : Option Addr) (n cap : Nat) (hv : Sl w0 1 (.slice ad n cap) n (c.map (Value.int .i64))) (hn : n ≤ 9223372036854775807) (hok : bE c = 0) :
    Calls Tryd.prog 47 #[.slice ad n cap] w0 fun e w => ∃ (C S : List Int) (ao : Option Addr) (co : Nat), Mk c n C S ∧ e = .returned (.tuple #[tv C (.slice ao S.length co), .int .i64 0]) ∧ St w0 w [own 3 1 ao S.length co (S.map (Value.int .i64))] := by
  refine (make_any w0 c ad n cap hv hn hok).mono ?_
  rintro e w ⟨f, R, C, S, ao, co, hR, hf, hC, hCi, hSy, rfl, hS⟩
  have hcl : c.length = n := by have := hv.1; simpa using this
  obtain ⟨b1, b2⟩ := bE_ok hok
  rw [hcl] at b1 b2
  obtain ⟨m1, m2, m3, m4, m5⟩ := made_law b1 (fun i hi => (b2 i hi).1) hR f hf
  obtain ⟨t1, t2, t3, t4⟩ := made_table b1 m1 m2 m3 hCi hSy
  have hin : ∀ s ∈ posL c n, 0 ≤ s ∧ s < n := fun s hs => by have := (posL_mem c n s).1 hs; exact ⟨this.1, this.2.1⟩
  have hcost : costL c n (lw (wds C S)) = costL c n f := costL_congr _ _ _ _ t2
  refine ⟨C, S, ao, co, ⟨hC, t1, t4, t3, fun l hl => by rw [hcost]; exact m4 l hl, fun a b ha hb h => ?_, table_len t1 c n fun s hs => (t4 s).2 hs⟩, rfl, hS⟩
  rw [t2 a (hin a ha).1 (hin a ha).2, t2 b (hin b hb).1 (hin b hb).2]
  exact m5 a b ha hb h
/-- What comes has a word. -/
theorem noneAt_ok {C S c : List Int} {n : Nat} (h : tabE C S = 0) (hall : ∀ s ∈ posL c n, s ∈ S) : noneAt c n (wds C S) = false := by
  unfold noneAt
  rw [List.any_eq_false]
  intro i hi h2
  simp at h2
  have h3 : (i : Int) ∈ posL c n := (posL_mem c n i).2 ⟨by omega, by have := List.mem_range.1 hi; omega, by simpa using h2.1⟩
  have := ((lw_pos h (i : Int)).1 (hall _ h3)).1
  omega
theorem noneAt_in {C S c : List Int} {n : Nat} (h : tabE C S = 0) (h2 : noneAt c n (wds C S) = false) : ∀ s ∈ posL c n, s ∈ S := by
  intro s hs
  obtain ⟨a1, a2, a3⟩ := (posL_mem c n s).1 hs
  unfold noneAt at h2
  rw [List.any_eq_false] at h2
  have := h2 s.toNat (List.mem_range.2 (by omega))
  by_cases hm : s ∈ S
  · exact hm
  · exfalso; apply this
    rw [Int.toNat_of_nonneg a1, (lw_pos h s).2 hm]
    simp [a3]
theorem cost_made {c C S : List Int} {n : Nat} (hm : Mk c n C S) (hcl : c.length = n) (hok : bE c = 0) : costE C S c = 0 ∧ costN C S c = costL c n (lw (wds C S)) := by
  have e : costE C S c = 0 := by
    unfold costE
    rw [if_neg (by rw [hm.ok]; decide), if_neg (by rw [hok]; decide), hcl, noneAt_ok hm.ok fun s hs => (hm.mem s).2 hs]
    rfl
  exact ⟨e, by unfold costN; rw [if_pos e, hcl]⟩
/-- A cost that is told: the table's lengths fit. -/
theorem cost_told {c C S : List Int} {n : Nat} (hcl : c.length = n) (h : costE C S c = 0) : bE c = 0 ∧ LenOk c n (lw (wds C S)) ∧ costN C S c = costL c n (lw (wds C S)) := by
  have hn : costN C S c = costL c n (lw (wds C S)) := by unfold costN; rw [if_pos h, hcl]
  unfold costE at h
  by_cases h1 : tabE C S = 0
  · rw [if_neg (by rw [h1]; decide)] at h
    by_cases h2 : bE c = 0
    · rw [if_neg (by rw [h2]; decide), hcl] at h
      refine ⟨h2, table_len h1 c n (noneAt_in h1 ?_), hn⟩
      cases e : noneAt c n (wds C S)
      · rfl
      · rw [e] at h; cases h
    · rw [if_pos h2] at h; exact absurd h h2
  · rw [if_pos h1] at h; exact absurd h h1
theorem costE_bad {c C S : List Int} (h : bE c ≠ 0) (hc : tabE C S = 0) : costE C S c = bE c := by
  unfold costE; rw [if_neg (by rw [hc]; decide), if_pos h]
theorem build_tab0 (w : World) : (Instr.build 31 #[]).run Tryd.prog w = .ok (tv (List.replicate 16 0) (.slice none 0 0)) w := by kernel_rfl
theorem sl_three {W w : World} {e : TypeId} {c : Nat} {a : Option Addr} {x y z : Int} {rs rs' : List Res} (h : St W w rs) (p : Pull (own e 1 a 3 c [.int .i64 x, .int .i64 y, .int .i64 z]) rs rs') : Sl w 1 (.slice a 3 c) 3 ([x, y, z].map (Value.int .i64)) := h.sl p
theorem sl_two {W w : World} {e : TypeId} {c : Nat} {a : Option Addr} {x y : Int} {rs rs' : List Res} (h : St W w rs) (p : Pull (own e 1 a 2 c [.int .i64 x, .int .i64 y]) rs rs') : Sl w 1 (.slice a 2 c) 2 ([x, y].map (Value.int .i64)) := h.sl p
set_option maxRecDepth 100000 in
set_option maxHeartbeats 4000000 in
theorem make_bad (w0 : World) (c : List Int) (ad : Option Addr) (n cap : Nat) (hv : Sl w0 1 (.slice ad n cap) n (c.map (Value.int .i64))) (hn : n ≤ 9223372036854775807) (hbad : bE c ≠ 0) :
    Calls Tryd.prog 47 #[.slice ad n cap] w0 fun e w => e = .returned (.tuple #[tv (List.replicate 16 0) (.slice none 0 0), .int .i64 (bE c)]) ∧ Ext w0 w := by
  have hS := St.start w0
  have HCK := hid (fun (w : World) (hE : Ext w0 w) => bcheck_any w c ad n cap (hv.ext hE) hn)
  obtain ⟨B, hB⟩ : ∃ B, bE c = B := ⟨_, rfl⟩
  rw [hB] at HCK hbad ⊢
  clear hB
  go_enter Tryd.func47, Tryd.ntmps47
  repeat' (first
    | ((with_reducible apply gt9 _ (.call ⟨.value (.func 45), _, _⟩)); refine wpl_call (f := 45) Tryd.call45 (by kernel_rfl) ?_; refine ⟨_, (HCK.out _ hS.1), ?_⟩; rintro e w ⟨rfl, hE2⟩; replace hS := hS.ext hE2; clear hE2; refine ⟨_, rfl, ?_⟩; refine put_move ?_; go_step) | ((with_reducible apply gt9 _ (.move _)); (first | go_big_want | go_step); go_step) | ((with_reducible apply gt9 _ (.assign _)); (first | go_big_want | go_step); go_step) | ((with_reducible apply gt9 (some 22) (.binOp .neq 25 _ _ _)); (refine wvv9 (V.neq rfl rfl) ?_; go_step)) | ((with_reducible apply gt9 (some 2) (.alloc 31)); (refine wpl (by kernel_rfl) ?_; apply wp_allocP (o := ⟨some 2, _, _, _, _, _⟩) hS 31 rfl _ zp31; clear hS; intro g2 w hS; refine put_move ?_; go_step)) | ((fail_if_success with_reducible apply ga9); go_step))
  repeat' (first
    | ((with_reducible apply gt9 (some 23) _); refine wvv9 (V.build (vs := []) rfl build_tab0) ?_; go_step) | ((with_reducible apply gt9 _ (.move _)); (first | go_big_want | go_step); go_step) | ((with_reducible apply gt9 _ (.assign _)); (first | go_big_want | go_step); go_step) | ((with_reducible apply gt9 _ (.store 31 _ _)); (refine wpl (by kernel_rfl) ?_; apply wp_storePP hS 31 _ _ rfl _ rfl 17 (row_of rfl) _ _; (case hp => exact pl9); (case hy => rfl); (case hn => (repeat (first | exact Pre.nil | (apply Pre.ints; (case hn => (first | (with_reducible assumption) | exact Len.rep | exact Len.set (by with_reducible assumption) | exact Len.set Len.rep | exact Len.set (Len.set Len.rep))); (case h => omega); (case hm => rfl)) | apply Pre.val))); (case hn' => (repeat (first | exact Pre.nil | (apply Pre.ints; (case hn => (first | (with_reducible assumption) | exact Len.rep | exact Len.set (by with_reducible assumption) | exact Len.set Len.rep | exact Len.set (Len.set Len.rep))); (case h => omega); (case hm => rfl)) | apply Pre.val))); (case hv => rfl); (case hd => exact rfl); clear hS; intro w hS)) | ((fail_if_success with_reducible apply ga9); go_step))
  refine ret_all (xs := [_, _]) rfl (.cons (OneRes.prt hS rfl (row_of (n := 17) rfl) pl9 (by (repeat (first | exact Pre.nil | (apply Pre.ints; (case hn => (first | (with_reducible assumption) | exact Len.rep | exact Len.set (by with_reducible assumption) | exact Len.set Len.rep | exact Len.set (Len.set Len.rep))); (case h => omega); (case hm => rfl)) | apply Pre.val)))) (.cons (OneRes.tmp rfl) (.nil))) (by simp) rfl ?_
  exact ⟨rfl, hS.1⟩
/-- The table of a refusal. -/
theorem zero_len : Len (List.replicate 16 (0 : Int)) 16 := List.length_replicate
theorem zero_tab : tabE (List.replicate 16 0) [] = 0 := by decide
theorem three_law (f : Int → Nat) (h : LenOk [5, 1, 1] 3 f) : 10 ≤ costL [5, 1, 1] 3 f := by
  have hp : posL [5, 1, 1] 3 = [0, 1, 2] := by decide
  have h0 := h.top 0 (by rw [hp]; simp)
  have h1 := h.top 1 (by rw [hp]; simp)
  have h2 := h.top 2 (by rw [hp]; simp)
  have hk := h.kraft
  rw [hp] at hk
  have hc : costL [5, 1, 1] 3 f = 5 * (f 0 : Nat) + 1 * (f 1 : Nat) + 1 * (f 2 : Nat) := by
    simp [costL, isum, List.range, List.range.loop, nth]
    omega
  rw [hc]
  have hk2 : 2 ^ (16 - f 0) + 2 ^ (16 - f 1) + 2 ^ (16 - f 2) < 65536 := by
    simp [nsum] at hk
    omega
  have p0 := Nat.two_pow_pos (16 - f 0)
  have p1 := Nat.two_pow_pos (16 - f 1)
  have p2 := Nat.two_pow_pos (16 - f 2)
  by_cases h3 : 2 ≤ f 0
  · omega
  · have e0 : f 0 = 1 := by omega
    rw [e0] at hk2 ⊢
    by_cases a1 : f 1 = 1
    · rw [a1] at hk2; omega
    · by_cases a2 : f 2 = 1
      · rw [a2] at hk2; omega
      · by_cases b1 : f 1 = 2
        · by_cases b2 : f 2 = 2
          · rw [b1, b2] at hk2; omega
          · omega
        · omega
theorem three_best {C S : List Int} (h : Mk [5, 1, 1] 3 C S) : costL [5, 1, 1] 3 (lw (wds C S)) = 10 := by
  have h1 := three_law _ h.lens
  have h2 := h.best (fun s => if s = 0 then 1 else if s = 1 then 2 else 3) ⟨by decide, by decide⟩
  have h3 : costL [5, 1, 1] 3 (fun s => if s = 0 then 1 else if s = 1 then 2 else 3) = 10 := by decide
  omega
end Go.Proofs.YtehbjhocgnfpmaaDoor

/- Costs of the shortest words, compared; the walk of made. -/
namespace Go.Proofs.YtehbjhocgnfpmaaDoor
set_option maxRecDepth 100000
open Go.RowKit
set_option linter.unusedVariables false
theorem isum_sub {α : Type} [DecidableEq α] (f : α → Int) : ∀ (A B : List α), A.Nodup → (∀ a ∈ A, a ∈ B) → (∀ b ∈ B, 0 ≤ f b) → isum f A ≤ isum f B
  | [], B, _, _, h0 => by
    rw [show isum f [] = 0 from rfl]
    have := isum_le (fun _ => 0) f B h0
    rw [isum_zero (fun _ => (0 : Int)) B fun _ _ => rfl] at this
    exact this
  | a :: A, B, hn, h, h0 => by
    obtain ⟨h1, h2⟩ := List.nodup_cons.1 hn
    have p := List.perm_cons_erase (h a (by simp))
    rw [isum_perm f p, isum_cons, isum_cons]
    have := isum_sub f A (B.erase a) h2 (fun x hx => (List.mem_erase_of_ne (fun e => h1 (by rw [← e]; exact hx))).2 (h x (by simp [hx]))) (fun b hb => h0 b (List.mem_of_mem_erase hb))
    omega
theorem wOf_nonneg {c : List Int} {n : Nat} {s : Int} (h : s ∈ posL c n) : 0 < wOf c s := by
  have h1 := (posL_mem c n s).1 h
  unfold wOf; rw [if_neg (by omega)]; exact h1.2.2
/-- Words for more, or for what comes more often, serve here too. -/
theorem opt_le {t c C S : List Int} {n' n : Nat} {f : Int → Nat} (σ : Int → Int) (h : Mk t n' C S) (hf : LenOk c n f) (ht : ∀ i, i < n' → 0 ≤ nth t i) (hc : ∀ i, i < n → 0 ≤ nth c i)
    (hm : ∀ s ∈ posL t n', σ s ∈ posL c n ∧ wOf t s ≤ wOf c (σ s)) (hi : ∀ a ∈ posL t n', ∀ b ∈ posL t n', σ a = σ b → a = b) : costL t n' (lw (wds C S)) ≤ costL c n f := by
  have hnd : ((posL t n').map σ).Nodup := by
    have h1 := posL_nodup t n'
    rw [List.nodup_iff_pairwise_ne] at h1 ⊢
    rw [List.pairwise_map]
    exact h1.imp_of_mem fun ha hb hne e => hne (hi _ ha _ hb e)
  have hin : ∀ s ∈ (posL t n').map σ, s ∈ posL c n := fun s hs => by
    obtain ⟨a, ha, rfl⟩ := List.mem_map.1 hs
    exact (hm a ha).1
  have hl : LenOk t n' (fun s => f (σ s)) := by
    refine ⟨fun s hs => hf.top _ (hm s hs).1, ?_⟩
    have h1 := nsum_map σ (fun s => 2 ^ (16 - f s)) (posL t n')
    have h2 := nsum_sub (fun s => 2 ^ (16 - f s)) _ _ hnd hin
    have h3 := hf.kraft
    omega
  refine Int.le_trans (h.best _ hl) ?_
  rw [← costL_pos t n' _ ht, ← costL_pos c n f hc]
  have h1 := isum_map σ (fun s => wOf c s * (f s : Nat)) (posL t n')
  have h2 := isum_sub (fun s => wOf c s * (f s : Nat)) _ _ hnd hin fun s hs => Int.mul_nonneg (Int.le_of_lt (wOf_nonneg hs)) (by omega)
  rw [h1] at h2
  refine Int.le_trans (isum_le _ _ _ fun s hs => ?_) h2
  exact Int.mul_le_mul_of_nonneg_right (hm s hs).2 (by omega)
theorem wOf_at (c : List Int) (s : Int) (h : 0 ≤ s) : wOf c s = nth c s.toNat := by unfold wOf; rw [if_neg (by omega)]
end Go.Proofs.YtehbjhocgnfpmaaDoor

/- best.Make, whatever comes. -/
namespace Go.Proofs.YtehbjhocgnfpmaaDoor
open Go.RowKit
set_option linter.unusedVariables false
theorem make_both (w0 : World) (c : List Int) (ad : Option Addr) (n cap : Nat) (hv : Sl w0 1 (.slice ad n cap) n (c.map (Value.int .i64))) (hn : n ≤ 9223372036854775807) :
    Calls Tryd.prog 47 #[.slice ad n cap] w0 fun e w => ∃ (C S : List Int) (ao : Option Addr) (m co : Nat), Len C 16 ∧ S.length = m ∧ m ≤ 256 ∧ tabE C S = 0 ∧ (bE c = 0 → Mk c n C S) ∧ e = .returned (.tuple #[tv C (.slice ao m co), .int .i64 (bE c)]) ∧ St w0 w [own 3 1 ao m co (S.map (Value.int .i64))] := by
  by_cases hb : bE c = 0
  · refine (make_good w0 c ad n cap hv hn hb).mono ?_
    rintro e w ⟨C, S, ao, co, hM, rfl, hS⟩
    exact ⟨C, S, ao, S.length, co, hM.len, rfl, (tabE_ok hM.ok).2.2.1, hM.ok, fun _ => hM, by rw [hb], hS⟩
  · refine (make_bad w0 c ad n cap hv hn hb).mono ?_
    rintro e w ⟨rfl, hE⟩
    exact ⟨_, [], none, 0, 0, zero_len, rfl, by omega, zero_tab, fun h => absurd h hb, rfl, (St.of_ext hE).nil _ _⟩
/-- Cost with the table that Make gave. -/
theorem cost_both {c C S : List Int} {n : Nat} (h : bE c = 0 → Mk c n C S) (hC : tabE C S = 0) (hcl : c.length = n) : costE C S c = bE c ∧ (bE c = 0 → costN C S c = costL c n (lw (wds C S))) := by
  by_cases hb : bE c = 0
  · have := cost_made (h hb) hcl hb
    exact ⟨by rw [this.1, hb], fun _ => this.2⟩
  · exact ⟨costE_bad hb hC, fun h => absurd h hb⟩
end Go.Proofs.YtehbjhocgnfpmaaDoor

/- The writer of bits: what it holds, and the walks of its methods. -/
namespace Go.Proofs.YtehbjhocgnfpmaaDoor
set_option maxRecDepth 100000
open Go.RowKit
theorem pow_lt (n m : Nat) (h : n ≤ m) : 2 ^ n ≤ 2 ^ m := Nat.pow_le_pow_right (by omega) h
theorem or_num (A v width : Nat) (hA : A < 128) (hw : width ≤ 24) (hv : v < 2 ^ width) : bits .or .u64 (IntKind.u64.wrap ((A : Int) * 2 ^ width)) (v : Int) = ((A * 2 ^ width + v : Nat) : Int) := by
  have h1 : A * 2 ^ width < 128 * 16777216 := by
    have h2 := pow_lt width 24 hw
    have h3 : A * 2 ^ width ≤ 127 * 2 ^ 24 := Nat.mul_le_mul (by omega) h2
    omega
  have h4 := Nat.lt_of_lt_of_le hv (pow_lt width 24 hw)
  have e1 : IntKind.u64.wrap ((A : Int) * 2 ^ width) = ((A * 2 ^ width : Nat) : Int) := by
    rw [show (A : Int) * 2 ^ width = ((A * 2 ^ width : Nat) : Int) by push_cast; rfl]
    generalize A * 2 ^ width = x at h1
    simp [IntKind.wrap, IntKind.signed, IntKind.bits]
    omega
  rw [e1, bits_or_u64_nat _ _ (by omega) (by omega)]
  congr 1
  rw [← Nat.shiftLeft_eq, Nat.shiftLeft_add_eq_or_of_lt hv]
theorem and_num (N R : Nat) (hN : N < 18446744073709551616) (hR : R < 64) : bits .and .u64 (N : Int) (IntKind.u64.wrap (IntKind.u64.wrap ((2 : Int) ^ R) - 1)) = ((N % 2 ^ R : Nat) : Int) := by
  have h1 : 2 ^ R ≤ 2 ^ 63 := pow_lt R 63 (by omega)
  have h0 : 0 < 2 ^ R := Nat.two_pow_pos R
  have e1 : IntKind.u64.wrap (IntKind.u64.wrap ((2 : Int) ^ R) - 1) = ((2 ^ R - 1 : Nat) : Int) := by
    rw [show (2 : Int) ^ R = ((2 ^ R : Nat) : Int) by push_cast; rfl]
    generalize 2 ^ R = x at h1 h0
    simp [IntKind.wrap, IntKind.signed, IntKind.bits]
    omega
  rw [e1, bits_and_u64_nat _ _ hN (by omega), Nat.and_two_pow_sub_one_eq_mod]
/-- A writer at block g that has taken the bits bs. -/
def wr (g : Nat) (bs : List Bool) : Res := bag fun x : Option Addr × Nat =>
  [blk g [.slice x.1 (bs.length / 8) x.2, .int .u64 (num (bs.drop (8 * (bs.length / 8))) : Nat), .int .i64 (bs.length % 8 : Nat)],
   own 5 1 x.1 (bs.length / 8) x.2 (bv (packs (bs.length / 8) bs))]
set_option maxHeartbeats 2000000 in
theorem put_any (W w : World) (rs rs' : List Res) (g : Nat) (bs : List Bool) (width value : Nat) (hS : St W w rs) (hp : Pull (wr g bs) rs rs') (hw : width ≤ 24) (hv : value < 2 ^ width) (hb : bs.length + width ≤ 1099511627776) :
    Calls Tryd.prog 41 #[.pointer (some ⟨g, 0, none⟩), .int .i64 width, .int .i64 value] w fun e w' => e = .returned (.tuple #[]) ∧ St W w' (wr g (bs ++ bitsOf width value) :: rs') := by
  obtain ⟨⟨ad, c⟩, hS⟩ := (hS.pull hp).open
  have hv24 : value < 16777216 := Nat.lt_of_lt_of_le hv (Nat.pow_le_pow_right (n := 2) (by omega) hw)
  have hrl : (bs.drop (8 * (bs.length / 8))).length = bs.length % 8 := by simp; omega
  have hr8 : num (bs.drop (8 * (bs.length / 8))) < 128 := by
    have h1 := num_lt (bs.drop (8 * (bs.length / 8)))
    rw [hrl] at h1
    exact Nat.lt_of_lt_of_le h1 (Nat.pow_le_pow_right (n := 2) (j := 7) (by omega) (by omega))
  dsimp only [List.cons_append, List.nil_append] at hS
  generalize hA : num (bs.drop (8 * (bs.length / 8))) = A at *
  generalize hM : bs.length % 8 = M at *
  have hm8 : M < 8 := by omega
  have HOR := hid (or_num A value width (by omega) hw hv)
  go_enter Tryd.func41, Tryd.ntmps41
  go_wp2_with (first
    | ((with_reducible apply gt9 _ (.load 76 _)); first | (refine wpl rfl (wp_load1 hS 76 _ rfl _ _ rfl (one_of rfl) _ pl9 _ (by rfl) ?_); refine wpl_put (by (simp only [Act.put, List.setIfInBounds_toArray, List.set_cons_zero, List.set_cons_succ]); exact rfl) ?_) | (refine wpl rfl (wp_load1O hS 76 _ rfl _ _ rfl (one_of rfl) _ _ _ _ _ pl9 _ (by with_reducible assumption) ?_); refine wpl_put (by (simp only [Act.put, List.setIfInBounds_toArray, List.set_cons_zero, List.set_cons_succ]); exact rfl) ?_) | (refine wpl rfl (wp_loadW hS 76 _ rfl _ rfl (one_of rfl) _ (by with_reducible assumption) ?_); refine wpl_put (by (simp only [Act.put, List.setIfInBounds_toArray, List.set_cons_zero, List.set_cons_succ]); exact rfl) ?_)) | ((with_reducible apply gt9 _ (.store 76 _ _)); first | (refine wpl rfl (wp_store1 hS 76 _ _ rfl _ _ rfl (one_of rfl) _ _ pl9 _ isv9 (by rfl) (by (repeat (first | with_reducible exact SetAt.head | apply SetAt.tail))) rfl ?_); clear hS; intro w hS)) | ((with_reducible apply gt9 _ (.load 3 _)); first | (refine wpl rfl (wp_load1A hS 3 _ rfl _ _ rfl (one_of rfl) _ _ pl9 (by omega) ?_); refine wpl_put (by (simp only [Act.put, List.setIfInBounds_toArray, List.set_cons_zero, List.set_cons_succ]); exact rfl) ?_) | (refine wpl rfl (wp_load1 hS 3 _ rfl _ _ rfl (one_of rfl) _ pl9 _ (by rfl) ?_); refine wpl_put (by (simp only [Act.put, List.setIfInBounds_toArray, List.set_cons_zero, List.set_cons_succ]); exact rfl) ?_) | (refine wpl rfl (wp_load1O hS 3 _ rfl _ _ rfl (one_of rfl) _ _ _ _ _ pl9 _ (by with_reducible assumption) ?_); refine wpl_put (by (simp only [Act.put, List.setIfInBounds_toArray, List.set_cons_zero, List.set_cons_succ]); exact rfl) ?_) | (refine wpl rfl (wp_loadW hS 3 _ rfl _ rfl (one_of rfl) _ (by with_reducible assumption) ?_); refine wpl_put (by (simp only [Act.put, List.setIfInBounds_toArray, List.set_cons_zero, List.set_cons_succ]); exact rfl) ?_)) | ((with_reducible apply gt9 _ (.store 3 _ _)); first | (refine wpl rfl (wp_store1A hS 3 _ _ rfl _ _ rfl (one_of rfl) _ _ pl9 _ (by rfl) (by omega) rfl ?_); clear hS; intro w hS) | (refine wpl rfl (wp_store1 hS 3 _ _ rfl _ _ rfl (one_of rfl) _ _ pl9 _ isv9 (by rfl) (by (repeat (first | with_reducible exact SetAt.head | apply SetAt.tail))) rfl ?_); clear hS; intro w hS)) | ((with_reducible apply gt9 _ (.load 34 _)); first | (refine wpl rfl (wp_load1 hS 34 _ rfl _ _ rfl (one_of rfl) _ pl9 _ (by rfl) ?_); refine wpl_put (by (simp only [Act.put, List.setIfInBounds_toArray, List.set_cons_zero, List.set_cons_succ]); exact rfl) ?_) | (refine wpl rfl (wp_load1O hS 34 _ rfl _ _ rfl (one_of rfl) _ _ _ _ _ pl9 _ (by with_reducible assumption) ?_); refine wpl_put (by (simp only [Act.put, List.setIfInBounds_toArray, List.set_cons_zero, List.set_cons_succ]); exact rfl) ?_) | (refine wpl rfl (wp_loadW hS 34 _ rfl _ rfl (one_of rfl) _ (by with_reducible assumption) ?_); refine wpl_put (by (simp only [Act.put, List.setIfInBounds_toArray, List.set_cons_zero, List.set_cons_succ]); exact rfl) ?_)) | ((with_reducible apply gt9 (some 54) (.buildSlice 34 _ _)); first | (refine wpl rfl (wp_buildSlice1 (o := ⟨some 54, _, _, _, _, _⟩) hS 34 1 _ rfl 5 1 1 el34 _ _ (by (repeat (first | exact Parts.nil | (apply Parts.agg; (rfl); (rfl)) | (apply Parts.one; exact isv9; (rfl); (rfl))))) (by rfl) (by decide) (by decide) ?_); clear hS; intro g54 w hS; refine wpl_put (by (simp only [Act.put, List.setIfInBounds_toArray, List.set_cons_zero, List.set_cons_succ]); exact rfl) ?_)) | ((with_reducible apply gt9 _ (.store 34 _ _)); first | (refine wpl rfl (wp_store1 hS 34 _ _ rfl _ _ rfl (one_of rfl) _ _ pl9 _ isv9 (by rfl) (by (repeat (first | with_reducible exact SetAt.head | apply SetAt.tail))) rfl ?_); clear hS; intro w hS))
                                                            | (first | refine stop_load ?_ | refine stop_store ?_ | refine stop_alloc ?_ | refine stop_box ?_))
  rw [HOR.out] at hS
  have HN := hid (show num (bs.drop (8 * (bs.length / 8)) ++ bitsOf width value) = A * 2 ^ width + value by rw [num_append, bitsOf_len, num_bitsOf_lt _ _ hv, hA])
  have HT := hid (show (bs.drop (8 * (bs.length / 8)) ++ bitsOf width value).length = M + width by rw [List.length_append, bitsOf_len, hrl])
  generalize hT : M + width = T at *
  generalize hN : A * 2 ^ width + value = N at *
  generalize hq : bs.length / 8 = q at *
  have hBl : bs.length = 8 * q + M := by omega
  have hX : packs (q + 0) (bs ++ bitsOf width value) = packs q bs := packs_append q bs _ (by omega)
  rw [← hX] at hS
  rw [show ((M : Int) + (width : Int)) = ((T : Nat) : Int) by omega] at hS
  clear hX
  go_loopg [] 4 (fun gk wr => ∃ (j : Nat) (ad' : Option Addr) (c' : Nat), gk + j = 4 ∧ 8 * j ≤ T ∧ St W wr (blk g [.slice ad' (q + j) c', .int .u64 (N : Nat), .int .i64 (T - 8 * j : Nat)] :: own 5 1 ad' (q + j) c' (bv (packs (q + j) (bs ++ bitsOf width value))) :: rs'))
  case atStart => exact ⟨0, ad, c, rfl, by omega, hS⟩
  case round =>
    clear hS
    obtain ⟨j, ad', c', hj, hjT, hS⟩ := hrel
    generalize hR : T - 8 * j = R at *
    by_cases h8 : 8 ≤ R
    · obtain ⟨r, hr⟩ : ∃ r, R = r + 8 := ⟨R - 8, by omega⟩
      have hb1 : IntKind.i64.wrap ((R : Int) - 8) = (r : Int) := by simp [IntKind.wrap, IntKind.signed, IntKind.bits]; omega
      have hb2 : (0 : Int) ≤ (r : Int) := by omega
      have hb3 : (r : Int) < 64 := by omega
      have HR := hid hr
      have HP := hid (show q + j + 1 ≤ maxLen ∧ (q + j + 1) * 1 ≤ 140737488355328 by unfold maxLen; omega)
      clear hr
      have HBy : Hid ((N : Int) / 2 ^ r % 256 = ((num (((bs ++ bitsOf width value).drop (8 * (q + j))).take 8) : Nat) : Int)) := by
        have h1 := num_window (bs.drop (8 * q) ++ bitsOf width value) (8 * j) 8 (by rw [HT.out]; omega)
        rw [HT.out, HN.out, show T - 8 * j - 8 = r by have := HR.out; omega] at h1
        have h2 : (bs ++ bitsOf width value).drop (8 * (q + j)) = (bs.drop (8 * q) ++ bitsOf width value).drop (8 * j) := by
          rw [Nat.mul_add, ← List.drop_drop, List.drop_append_of_le_length (by omega)]
        unfold Hid
        rw [h2, h1]
        have h3 : ((N : Int) / 2 ^ r) = ((N / 2 ^ r : Nat) : Int) := by push_cast; rfl
        rw [h3]
        generalize N / 2 ^ r = y
        simp
      go_wp2_with (first
        | ((with_reducible apply gt9 _ (.load 76 _)); first | (refine wpl rfl (wp_load1 hS 76 _ rfl _ _ rfl (one_of rfl) _ pl9 _ (by rfl) ?_); refine wpl_put (by (simp only [Act.put, List.setIfInBounds_toArray, List.set_cons_zero, List.set_cons_succ]); exact rfl) ?_) | (refine wpl rfl (wp_load1O hS 76 _ rfl _ _ rfl (one_of rfl) _ _ _ _ _ pl9 _ (by with_reducible assumption) ?_); refine wpl_put (by (simp only [Act.put, List.setIfInBounds_toArray, List.set_cons_zero, List.set_cons_succ]); exact rfl) ?_) | (refine wpl rfl (wp_loadW hS 76 _ rfl _ rfl (one_of rfl) _ (by with_reducible assumption) ?_); refine wpl_put (by (simp only [Act.put, List.setIfInBounds_toArray, List.set_cons_zero, List.set_cons_succ]); exact rfl) ?_)) | ((with_reducible apply gt9 _ (.store 76 _ _)); first | (refine wpl rfl (wp_store1 hS 76 _ _ rfl _ _ rfl (one_of rfl) _ _ pl9 _ isv9 (by rfl) (by (repeat (first | with_reducible exact SetAt.head | apply SetAt.tail))) rfl ?_); clear hS; intro w hS)) | ((with_reducible apply gt9 _ (.load 3 _)); first | (refine wpl rfl (wp_load1A hS 3 _ rfl _ _ rfl (one_of rfl) _ _ pl9 (by omega) ?_); refine wpl_put (by (simp only [Act.put, List.setIfInBounds_toArray, List.set_cons_zero, List.set_cons_succ]); exact rfl) ?_) | (refine wpl rfl (wp_load1 hS 3 _ rfl _ _ rfl (one_of rfl) _ pl9 _ (by rfl) ?_); refine wpl_put (by (simp only [Act.put, List.setIfInBounds_toArray, List.set_cons_zero, List.set_cons_succ]); exact rfl) ?_) | (refine wpl rfl (wp_load1O hS 3 _ rfl _ _ rfl (one_of rfl) _ _ _ _ _ pl9 _ (by with_reducible assumption) ?_); refine wpl_put (by (simp only [Act.put, List.setIfInBounds_toArray, List.set_cons_zero, List.set_cons_succ]); exact rfl) ?_) | (refine wpl rfl (wp_loadW hS 3 _ rfl _ rfl (one_of rfl) _ (by with_reducible assumption) ?_); refine wpl_put (by (simp only [Act.put, List.setIfInBounds_toArray, List.set_cons_zero, List.set_cons_succ]); exact rfl) ?_)) | ((with_reducible apply gt9 _ (.store 3 _ _)); first | (refine wpl rfl (wp_store1A hS 3 _ _ rfl _ _ rfl (one_of rfl) _ _ pl9 _ (by rfl) (by omega) rfl ?_); clear hS; intro w hS) | (refine wpl rfl (wp_store1 hS 3 _ _ rfl _ _ rfl (one_of rfl) _ _ pl9 _ isv9 (by rfl) (by (repeat (first | with_reducible exact SetAt.head | apply SetAt.tail))) rfl ?_); clear hS; intro w hS)) | ((with_reducible apply gt9 _ (.load 34 _)); first | (refine wpl rfl (wp_load1 hS 34 _ rfl _ _ rfl (one_of rfl) _ pl9 _ (by rfl) ?_); refine wpl_put (by (simp only [Act.put, List.setIfInBounds_toArray, List.set_cons_zero, List.set_cons_succ]); exact rfl) ?_) | (refine wpl rfl (wp_load1O hS 34 _ rfl _ _ rfl (one_of rfl) _ _ _ _ _ pl9 _ (by with_reducible assumption) ?_); refine wpl_put (by (simp only [Act.put, List.setIfInBounds_toArray, List.set_cons_zero, List.set_cons_succ]); exact rfl) ?_) | (refine wpl rfl (wp_loadW hS 34 _ rfl _ rfl (one_of rfl) _ (by with_reducible assumption) ?_); refine wpl_put (by (simp only [Act.put, List.setIfInBounds_toArray, List.set_cons_zero, List.set_cons_succ]); exact rfl) ?_)) | ((with_reducible apply gt9 (some 54) (.buildSlice 34 _ _)); first | (refine wpl rfl (wp_buildSlice1 (o := ⟨some 54, _, _, _, _, _⟩) hS 34 1 _ rfl 5 1 1 el34 _ _ (by (repeat (first | exact Parts.nil | (apply Parts.agg; (rfl); (rfl)) | (apply Parts.one; exact isv9; (rfl); (rfl))))) (by rfl) (by decide) (by decide) ?_); clear hS; intro g54 w hS; refine wpl_put (by (simp only [Act.put, List.setIfInBounds_toArray, List.set_cons_zero, List.set_cons_succ]); exact rfl) ?_)) | ((with_reducible apply gt9 _ (.store 34 _ _)); first | (refine wpl rfl (wp_store1 hS 34 _ _ rfl _ _ rfl (one_of rfl) _ _ pl9 _ isv9 (by rfl) (by (repeat (first | with_reducible exact SetAt.head | apply SetAt.tail))) rfl ?_); clear hS; intro w hS))
                                                            | (first | refine stop_load ?_ | refine stop_store ?_ | refine stop_alloc ?_ | refine stop_box ?_))
      refine drawn_lit [17, 20] (fun w => St W w [blk g [.slice ad' (q + j) c', .int .u64 (N : Nat), .int .i64 (R : Nat)]]) (by kernel_rfl) ?_
      replace hS := hS.drew
      apply takeP 0 al9 (by kernel_rfl) (by kernel_rfl) (by kernel_rfl) (fun _ _ _ _ h => h)
      case hfr => intro w; go_wp2_with fail; exact ⟨rfl, rfl⟩
      case hd => rfl
      apply takeP 1 al9 (by kernel_rfl) (by kernel_rfl) (by kernel_rfl) (fun _ _ _ _ h => h)
      case hfr => intro w; go_wp2_with fail; exact ⟨rfl, rfl⟩
      case hd => rfl
      apply takeP 2 al9 (by kernel_rfl) (by kernel_rfl) (by kernel_rfl) (fun _ _ _ _ h => h)
      case hfr => intro w; go_wp2_with fail; exact ⟨rfl, rfl⟩
      case hd => rfl
      apply takeP 3 al9 (by kernel_rfl) (by kernel_rfl) (by kernel_rfl) (fun _ _ _ _ h => h)
      case hfr => intro w; go_wp2_with fail; exact ⟨rfl, rfl⟩
      case hd => rfl
      apply takeS 4 al9 (by kernel_rfl) (by kernel_rfl) (by kernel_rfl) (fun _ _ _ _ h => h) [17, 18, 19, 20] (by kernel_rfl) (hS.sub sb9)
      case hfr => intro w hS; go_wp2_with (first | (refine wpl rfl (wp_load1 hS 34 _ rfl _ _ rfl (one_of rfl) _ pl9 _ (by rfl) ?_); refine wpl_put (by (simp only [Act.put, List.setIfInBounds_toArray, List.set_cons_zero, List.set_cons_succ]); exact rfl) ?_) | (refine wpl rfl (wp_load1O hS 34 _ rfl _ _ rfl (one_of rfl) _ _ _ _ _ pl9 _ (by with_reducible assumption) ?_); refine wpl_put (by (simp only [Act.put, List.setIfInBounds_toArray, List.set_cons_zero, List.set_cons_succ]); exact rfl) ?_) | (refine wpl rfl (wp_loadW hS 34 _ rfl _ rfl (one_of rfl) _ (by with_reducible assumption) ?_); refine wpl_put (by (simp only [Act.put, List.setIfInBounds_toArray, List.set_cons_zero, List.set_cons_succ]); exact rfl) ?_)); exact ⟨rfl, rfl⟩
      case hd => rfl
      apply takeP 5 al9 (by kernel_rfl) (by kernel_rfl) (by kernel_rfl) (fun _ _ _ _ h => h)
      case hfr => intro w; go_wp2_with fail; exact ⟨rfl, rfl⟩
      case hd => rfl
      apply takeP 6 al9 (by kernel_rfl) (by kernel_rfl) (by kernel_rfl) (fun _ _ _ _ h => h)
      case hfr => intro w; go_wp2_with fail; exact ⟨rfl, rfl⟩
      case hd => rfl
      apply takeP 7 al9 (by kernel_rfl) (by kernel_rfl) (by kernel_rfl) (fun _ _ _ _ h => h)
      case hfr => intro w; go_wp2_with fail; exact ⟨rfl, rfl⟩
      case hd => rfl
      apply takeS 8 al9 (by kernel_rfl) (by kernel_rfl) (by kernel_rfl) (fun _ _ _ _ h => h) [14, 15, 16, 17, 18, 19, 20] (by kernel_rfl) (hS.sub sb9)
      case hfr => intro w hS; go_wp2_with (first | (refine wpl rfl (wp_load1 hS 76 _ rfl _ _ rfl (one_of rfl) _ pl9 _ (by rfl) ?_); refine wpl_put (by (simp only [Act.put, List.setIfInBounds_toArray, List.set_cons_zero, List.set_cons_succ]); exact rfl) ?_) | (refine wpl rfl (wp_load1O hS 76 _ rfl _ _ rfl (one_of rfl) _ _ _ _ _ pl9 _ (by with_reducible assumption) ?_); refine wpl_put (by (simp only [Act.put, List.setIfInBounds_toArray, List.set_cons_zero, List.set_cons_succ]); exact rfl) ?_) | (refine wpl rfl (wp_loadW hS 76 _ rfl _ rfl (one_of rfl) _ (by with_reducible assumption) ?_); refine wpl_put (by (simp only [Act.put, List.setIfInBounds_toArray, List.set_cons_zero, List.set_cons_succ]); exact rfl) ?_)); exact ⟨rfl, rfl⟩
      case hd => rfl
      apply takeP 9 al9 (by kernel_rfl) (by kernel_rfl) (by kernel_rfl) (fun _ _ _ _ h => h)
      case hfr => intro w; go_wp2_with fail; exact ⟨rfl, rfl⟩
      case hd => rfl
      apply takeP 10 al9 (by kernel_rfl) (by kernel_rfl) (by kernel_rfl) (fun _ _ _ _ h => h)
      case hfr => intro w; go_wp2_with fail; exact ⟨rfl, rfl⟩
      case hd => rfl
      apply takeP 11 al9 (by kernel_rfl) (by kernel_rfl) (by kernel_rfl) (fun _ _ _ _ h => h)
      case hfr => intro w; go_wp2_with fail; exact ⟨rfl, rfl⟩
      case hd => rfl
      apply takeS 12 al9 (by kernel_rfl) (by kernel_rfl) (by kernel_rfl) (fun _ _ _ _ h => h) [13, 14, 15, 16, 17, 18, 19, 20] (by kernel_rfl) (hS.sub sb9)
      case hfr => intro w hS; go_wp2_with (first | (refine wpl rfl (wp_load1A hS 3 _ rfl _ _ rfl (one_of rfl) _ _ pl9 (by omega) ?_); refine wpl_put (by (simp only [Act.put, List.setIfInBounds_toArray, List.set_cons_zero, List.set_cons_succ]); exact rfl) ?_) | (refine wpl rfl (wp_load1 hS 3 _ rfl _ _ rfl (one_of rfl) _ pl9 _ (by rfl) ?_); refine wpl_put (by (simp only [Act.put, List.setIfInBounds_toArray, List.set_cons_zero, List.set_cons_succ]); exact rfl) ?_) | (refine wpl rfl (wp_load1O hS 3 _ rfl _ _ rfl (one_of rfl) _ _ _ _ _ pl9 _ (by with_reducible assumption) ?_); refine wpl_put (by (simp only [Act.put, List.setIfInBounds_toArray, List.set_cons_zero, List.set_cons_succ]); exact rfl) ?_) | (refine wpl rfl (wp_loadW hS 3 _ rfl _ rfl (one_of rfl) _ (by with_reducible assumption) ?_); refine wpl_put (by (simp only [Act.put, List.setIfInBounds_toArray, List.set_cons_zero, List.set_cons_succ]); exact rfl) ?_)); exact ⟨rfl, rfl⟩
      case hd => rfl
      apply takeP 13 al9 (by kernel_rfl) (by kernel_rfl) (by kernel_rfl) (fun _ _ _ _ h => h)
      case hfr => intro w; go_wp2_with fail; exact ⟨rfl, rfl⟩
      case hd => rfl
      apply takeP 14 al9 (by kernel_rfl) (by kernel_rfl) (by kernel_rfl) (fun _ _ _ _ h => h)
      case hfr => intro w; go_wp2_with fail; exact ⟨rfl, rfl⟩
      case hd => rfl
      apply takeP 15 al9 (by kernel_rfl) (by kernel_rfl) (by kernel_rfl) (fun _ _ _ _ h => h)
      case hfr => intro w; go_wp2_with fail; exact ⟨rfl, rfl⟩
      case hd => rfl
      refine branch1 16 al9 rfl (by kernel_rfl) ?_
      (refine wp_buildSlice1 (o := ⟨some 54, _, _, _, _, _⟩) hS 34 1 _ rfl 5 1 1 el34 _ _ (by (repeat (first | exact Parts.nil | (apply Parts.agg; (rfl); (rfl)) | (apply Parts.one; exact isv9; (rfl); (rfl))))) (by rfl) (by decide) (by decide) ?_; clear hS; intro g54 w hS)
      refine ⟨fun _ _ => hS.sub sb9, ?_⟩
      refine drawn_put (by (simp only [Act.put, List.setIfInBounds_toArray, List.set_cons_zero, List.set_cons_succ]); exact rfl) ?_
      refine branch1 17 al9 rfl (by kernel_rfl) ?_
      refine wp_append hS _ _ 34 rfl _ 1 1 el34 _ _ _ _ rfl pl9 _ rfl 1 _ (hS.slBlk (n := 1) pl9 (by rfl) (by decide)) (by intro u hu; rw [List.mem_singleton] at hu; rw [hu]; rfl) HP.out.1 HP.out.2 ?_; clear hS; intro ad2 c2 w hS
      refine ⟨fun h => absurd (by decide) h, ?_⟩
      refine drawn_put (by (simp only [Act.put, List.setIfInBounds_toArray, List.set_cons_zero, List.set_cons_succ]); exact rfl) ?_
      apply takeP 18 al9 (by kernel_rfl) (by kernel_rfl) (by kernel_rfl) (fun _ _ _ _ h => h)
      case hfr => intro w; go_wp2_with fail; exact ⟨rfl, rfl⟩
      case hd => rfl
      apply takeP 19 al9 (by kernel_rfl) (by kernel_rfl) (by kernel_rfl) (fun _ _ _ _ h => h)
      case hfr => intro w; go_wp2_with fail; exact ⟨rfl, rfl⟩
      case hd => rfl
      refine branch1 20 al9 rfl (by kernel_rfl) ?_
      (refine wp_store1 hS 34 _ _ rfl _ _ rfl (one_of rfl) _ _ pl9 _ isv9 (by rfl) (by (repeat (first | with_reducible exact SetAt.head | apply SetAt.tail))) rfl ?_; clear hS; intro w hS)
      refine ⟨fun h => absurd (by decide) h, ?_⟩
      refine drawn_done (by kernel_rfl) ?_ _
      go_wp2_with (first
        | ((with_reducible apply gt9 _ (.load 76 _)); first | (refine wpl rfl (wp_load1 hS 76 _ rfl _ _ rfl (one_of rfl) _ pl9 _ (by rfl) ?_); refine wpl_put (by (simp only [Act.put, List.setIfInBounds_toArray, List.set_cons_zero, List.set_cons_succ]); exact rfl) ?_) | (refine wpl rfl (wp_load1O hS 76 _ rfl _ _ rfl (one_of rfl) _ _ _ _ _ pl9 _ (by with_reducible assumption) ?_); refine wpl_put (by (simp only [Act.put, List.setIfInBounds_toArray, List.set_cons_zero, List.set_cons_succ]); exact rfl) ?_) | (refine wpl rfl (wp_loadW hS 76 _ rfl _ rfl (one_of rfl) _ (by with_reducible assumption) ?_); refine wpl_put (by (simp only [Act.put, List.setIfInBounds_toArray, List.set_cons_zero, List.set_cons_succ]); exact rfl) ?_)) | ((with_reducible apply gt9 _ (.store 76 _ _)); first | (refine wpl rfl (wp_store1 hS 76 _ _ rfl _ _ rfl (one_of rfl) _ _ pl9 _ isv9 (by rfl) (by (repeat (first | with_reducible exact SetAt.head | apply SetAt.tail))) rfl ?_); clear hS; intro w hS)) | ((with_reducible apply gt9 _ (.load 3 _)); first | (refine wpl rfl (wp_load1A hS 3 _ rfl _ _ rfl (one_of rfl) _ _ pl9 (by omega) ?_); refine wpl_put (by (simp only [Act.put, List.setIfInBounds_toArray, List.set_cons_zero, List.set_cons_succ]); exact rfl) ?_) | (refine wpl rfl (wp_load1 hS 3 _ rfl _ _ rfl (one_of rfl) _ pl9 _ (by rfl) ?_); refine wpl_put (by (simp only [Act.put, List.setIfInBounds_toArray, List.set_cons_zero, List.set_cons_succ]); exact rfl) ?_) | (refine wpl rfl (wp_load1O hS 3 _ rfl _ _ rfl (one_of rfl) _ _ _ _ _ pl9 _ (by with_reducible assumption) ?_); refine wpl_put (by (simp only [Act.put, List.setIfInBounds_toArray, List.set_cons_zero, List.set_cons_succ]); exact rfl) ?_) | (refine wpl rfl (wp_loadW hS 3 _ rfl _ rfl (one_of rfl) _ (by with_reducible assumption) ?_); refine wpl_put (by (simp only [Act.put, List.setIfInBounds_toArray, List.set_cons_zero, List.set_cons_succ]); exact rfl) ?_)) | ((with_reducible apply gt9 _ (.store 3 _ _)); first | (refine wpl rfl (wp_store1A hS 3 _ _ rfl _ _ rfl (one_of rfl) _ _ pl9 _ (by rfl) (by omega) rfl ?_); clear hS; intro w hS) | (refine wpl rfl (wp_store1 hS 3 _ _ rfl _ _ rfl (one_of rfl) _ _ pl9 _ isv9 (by rfl) (by (repeat (first | with_reducible exact SetAt.head | apply SetAt.tail))) rfl ?_); clear hS; intro w hS)) | ((with_reducible apply gt9 _ (.load 34 _)); first | (refine wpl rfl (wp_load1 hS 34 _ rfl _ _ rfl (one_of rfl) _ pl9 _ (by rfl) ?_); refine wpl_put (by (simp only [Act.put, List.setIfInBounds_toArray, List.set_cons_zero, List.set_cons_succ]); exact rfl) ?_) | (refine wpl rfl (wp_load1O hS 34 _ rfl _ _ rfl (one_of rfl) _ _ _ _ _ pl9 _ (by with_reducible assumption) ?_); refine wpl_put (by (simp only [Act.put, List.setIfInBounds_toArray, List.set_cons_zero, List.set_cons_succ]); exact rfl) ?_) | (refine wpl rfl (wp_loadW hS 34 _ rfl _ rfl (one_of rfl) _ (by with_reducible assumption) ?_); refine wpl_put (by (simp only [Act.put, List.setIfInBounds_toArray, List.set_cons_zero, List.set_cons_succ]); exact rfl) ?_)) | ((with_reducible apply gt9 (some 54) (.buildSlice 34 _ _)); first | (refine wpl rfl (wp_buildSlice1 (o := ⟨some 54, _, _, _, _, _⟩) hS 34 1 _ rfl 5 1 1 el34 _ _ (by (repeat (first | exact Parts.nil | (apply Parts.agg; (rfl); (rfl)) | (apply Parts.one; exact isv9; (rfl); (rfl))))) (by rfl) (by decide) (by decide) ?_); clear hS; intro g54 w hS; refine wpl_put (by (simp only [Act.put, List.setIfInBounds_toArray, List.set_cons_zero, List.set_cons_succ]); exact rfl) ?_)) | ((with_reducible apply gt9 _ (.store 34 _ _)); first | (refine wpl rfl (wp_store1 hS 34 _ _ rfl _ _ rfl (one_of rfl) _ _ pl9 _ isv9 (by rfl) (by (repeat (first | with_reducible exact SetAt.head | apply SetAt.tail))) rfl ?_); clear hS; intro w hS))
                                                            | (first | refine stop_load ?_ | refine stop_store ?_ | refine stop_alloc ?_ | refine stop_box ?_))
      go_roundg (gk - 1)
      case measure => have := HR.out; omega
      case rel =>
        refine ⟨j + 1, ad2, c2, by omega, by have := HR.out; omega, ?_⟩
        rw [show T - 8 * (j + 1) = r by have := HR.out; omega, ← Nat.add_assoc q j 1, packs_succ, bv_append, show (bv [num (((bs ++ bitsOf width value).drop (8 * (q + j))).take 8)] = [Value.int .u8 ((N : Int) / 2 ^ r % 256)]) by rw [HBy.out]; rfl]
        exact hS.sub sb9
    · have hlen : (bs ++ bitsOf width value).length = 8 * (q + j) + R := by rw [List.length_append, bitsOf_len]; omega
      have hd1 := hid (show (bs ++ bitsOf width value).length / 8 = q + j by omega)
      have hd2 := hid (show (bs ++ bitsOf width value).length % 8 = R by omega)
      have hval : Hid (num ((bs ++ bitsOf width value).drop (8 * (q + j))) = N % 2 ^ R) := by
        have h1 := num_window (bs.drop (8 * q) ++ bitsOf width value) (8 * j) R (by rw [HT.out]; omega)
        rw [HT.out, HN.out, show T - 8 * j - R = 0 by omega, Nat.pow_zero, Nat.div_one, List.take_of_length_le (by rw [List.length_drop, HT.out]; omega)] at h1
        unfold Hid
        rw [Nat.mul_add, ← List.drop_drop, List.drop_append_of_le_length (by omega)]
        exact h1
      have hNl : N < 18446744073709551616 := by
        have h1 := num_lt (bs.drop (8 * q) ++ bitsOf width value)
        rw [HN.out, HT.out] at h1
        exact Nat.lt_of_lt_of_le h1 (pow_lt T 64 (by omega))
      have HAND := hid (and_num N R hNl (by omega))
      clear hlen
      go_wp2_with (first
        | ((with_reducible apply gt9 _ (.load 76 _)); first | (refine wpl rfl (wp_load1 hS 76 _ rfl _ _ rfl (one_of rfl) _ pl9 _ (by rfl) ?_); refine wpl_put (by (simp only [Act.put, List.setIfInBounds_toArray, List.set_cons_zero, List.set_cons_succ]); exact rfl) ?_) | (refine wpl rfl (wp_load1O hS 76 _ rfl _ _ rfl (one_of rfl) _ _ _ _ _ pl9 _ (by with_reducible assumption) ?_); refine wpl_put (by (simp only [Act.put, List.setIfInBounds_toArray, List.set_cons_zero, List.set_cons_succ]); exact rfl) ?_) | (refine wpl rfl (wp_loadW hS 76 _ rfl _ rfl (one_of rfl) _ (by with_reducible assumption) ?_); refine wpl_put (by (simp only [Act.put, List.setIfInBounds_toArray, List.set_cons_zero, List.set_cons_succ]); exact rfl) ?_)) | ((with_reducible apply gt9 _ (.store 76 _ _)); first | (refine wpl rfl (wp_store1 hS 76 _ _ rfl _ _ rfl (one_of rfl) _ _ pl9 _ isv9 (by rfl) (by (repeat (first | with_reducible exact SetAt.head | apply SetAt.tail))) rfl ?_); clear hS; intro w hS)) | ((with_reducible apply gt9 _ (.load 3 _)); first | (refine wpl rfl (wp_load1A hS 3 _ rfl _ _ rfl (one_of rfl) _ _ pl9 (by omega) ?_); refine wpl_put (by (simp only [Act.put, List.setIfInBounds_toArray, List.set_cons_zero, List.set_cons_succ]); exact rfl) ?_) | (refine wpl rfl (wp_load1 hS 3 _ rfl _ _ rfl (one_of rfl) _ pl9 _ (by rfl) ?_); refine wpl_put (by (simp only [Act.put, List.setIfInBounds_toArray, List.set_cons_zero, List.set_cons_succ]); exact rfl) ?_) | (refine wpl rfl (wp_load1O hS 3 _ rfl _ _ rfl (one_of rfl) _ _ _ _ _ pl9 _ (by with_reducible assumption) ?_); refine wpl_put (by (simp only [Act.put, List.setIfInBounds_toArray, List.set_cons_zero, List.set_cons_succ]); exact rfl) ?_) | (refine wpl rfl (wp_loadW hS 3 _ rfl _ rfl (one_of rfl) _ (by with_reducible assumption) ?_); refine wpl_put (by (simp only [Act.put, List.setIfInBounds_toArray, List.set_cons_zero, List.set_cons_succ]); exact rfl) ?_)) | ((with_reducible apply gt9 _ (.store 3 _ _)); first | (refine wpl rfl (wp_store1A hS 3 _ _ rfl _ _ rfl (one_of rfl) _ _ pl9 _ (by rfl) (by omega) rfl ?_); clear hS; intro w hS) | (refine wpl rfl (wp_store1 hS 3 _ _ rfl _ _ rfl (one_of rfl) _ _ pl9 _ isv9 (by rfl) (by (repeat (first | with_reducible exact SetAt.head | apply SetAt.tail))) rfl ?_); clear hS; intro w hS)) | ((with_reducible apply gt9 _ (.load 34 _)); first | (refine wpl rfl (wp_load1 hS 34 _ rfl _ _ rfl (one_of rfl) _ pl9 _ (by rfl) ?_); refine wpl_put (by (simp only [Act.put, List.setIfInBounds_toArray, List.set_cons_zero, List.set_cons_succ]); exact rfl) ?_) | (refine wpl rfl (wp_load1O hS 34 _ rfl _ _ rfl (one_of rfl) _ _ _ _ _ pl9 _ (by with_reducible assumption) ?_); refine wpl_put (by (simp only [Act.put, List.setIfInBounds_toArray, List.set_cons_zero, List.set_cons_succ]); exact rfl) ?_) | (refine wpl rfl (wp_loadW hS 34 _ rfl _ rfl (one_of rfl) _ (by with_reducible assumption) ?_); refine wpl_put (by (simp only [Act.put, List.setIfInBounds_toArray, List.set_cons_zero, List.set_cons_succ]); exact rfl) ?_)) | ((with_reducible apply gt9 (some 54) (.buildSlice 34 _ _)); first | (refine wpl rfl (wp_buildSlice1 (o := ⟨some 54, _, _, _, _, _⟩) hS 34 1 _ rfl 5 1 1 el34 _ _ (by (repeat (first | exact Parts.nil | (apply Parts.agg; (rfl); (rfl)) | (apply Parts.one; exact isv9; (rfl); (rfl))))) (by rfl) (by decide) (by decide) ?_); clear hS; intro g54 w hS; refine wpl_put (by (simp only [Act.put, List.setIfInBounds_toArray, List.set_cons_zero, List.set_cons_succ]); exact rfl) ?_)) | ((with_reducible apply gt9 _ (.store 34 _ _)); first | (refine wpl rfl (wp_store1 hS 34 _ _ rfl _ _ rfl (one_of rfl) _ _ pl9 _ isv9 (by rfl) (by (repeat (first | with_reducible exact SetAt.head | apply SetAt.tail))) rfl ?_); clear hS; intro w hS))
                                                            | (first | refine stop_load ?_ | refine stop_store ?_ | refine stop_alloc ?_ | refine stop_box ?_))
      refine drawn_lit [13] (fun w => St W w [blk g [.slice ad' (q + j) c', .int .u64 (N : Nat), .int .i64 (R : Nat)]]) (by kernel_rfl) ?_
      replace hS := hS.drew
      apply takeP 0 al9 (by kernel_rfl) (by kernel_rfl) (by kernel_rfl) (fun _ _ _ _ h => h)
      case hfr => intro w; go_wp2_with fail; exact ⟨rfl, rfl⟩
      case hd => rfl
      apply takeP 1 al9 (by kernel_rfl) (by kernel_rfl) (by kernel_rfl) (fun _ _ _ _ h => h)
      case hfr => intro w; go_wp2_with fail; exact ⟨rfl, rfl⟩
      case hd => rfl
      apply takeP 2 al9 (by kernel_rfl) (by kernel_rfl) (by kernel_rfl) (fun _ _ _ _ h => h)
      case hfr => intro w; go_wp2_with fail; exact ⟨rfl, rfl⟩
      case hd => rfl
      apply takeS 3 al9 (by kernel_rfl) (by kernel_rfl) (by kernel_rfl) (fun _ _ _ _ h => h) [10, 11, 12, 13] (by kernel_rfl) (hS.sub sb9)
      case hfr => intro w hS; go_wp2_with (first | (refine wpl rfl (wp_load1 hS 76 _ rfl _ _ rfl (one_of rfl) _ pl9 _ (by rfl) ?_); refine wpl_put (by (simp only [Act.put, List.setIfInBounds_toArray, List.set_cons_zero, List.set_cons_succ]); exact rfl) ?_) | (refine wpl rfl (wp_load1O hS 76 _ rfl _ _ rfl (one_of rfl) _ _ _ _ _ pl9 _ (by with_reducible assumption) ?_); refine wpl_put (by (simp only [Act.put, List.setIfInBounds_toArray, List.set_cons_zero, List.set_cons_succ]); exact rfl) ?_) | (refine wpl rfl (wp_loadW hS 76 _ rfl _ rfl (one_of rfl) _ (by with_reducible assumption) ?_); refine wpl_put (by (simp only [Act.put, List.setIfInBounds_toArray, List.set_cons_zero, List.set_cons_succ]); exact rfl) ?_)); exact ⟨rfl, rfl⟩
      case hd => rfl
      apply takeP 4 al9 (by kernel_rfl) (by kernel_rfl) (by kernel_rfl) (fun _ _ _ _ h => h)
      case hfr => intro w; go_wp2_with fail; exact ⟨rfl, rfl⟩
      case hd => rfl
      apply takeP 5 al9 (by kernel_rfl) (by kernel_rfl) (by kernel_rfl) (fun _ _ _ _ h => h)
      case hfr => intro w; go_wp2_with fail; exact ⟨rfl, rfl⟩
      case hd => rfl
      apply takeP 6 al9 (by kernel_rfl) (by kernel_rfl) (by kernel_rfl) (fun _ _ _ _ h => h)
      case hfr => intro w; go_wp2_with fail; exact ⟨rfl, rfl⟩
      case hd => rfl
      apply takeS 7 al9 (by kernel_rfl) (by kernel_rfl) (by kernel_rfl) (fun _ _ _ _ h => h) [8, 9, 10, 11, 12, 13] (by kernel_rfl) (hS.sub sb9)
      case hfr => intro w hS; go_wp2_with (first | (refine wpl rfl (wp_load1A hS 3 _ rfl _ _ rfl (one_of rfl) _ _ pl9 (by omega) ?_); refine wpl_put (by (simp only [Act.put, List.setIfInBounds_toArray, List.set_cons_zero, List.set_cons_succ]); exact rfl) ?_) | (refine wpl rfl (wp_load1 hS 3 _ rfl _ _ rfl (one_of rfl) _ pl9 _ (by rfl) ?_); refine wpl_put (by (simp only [Act.put, List.setIfInBounds_toArray, List.set_cons_zero, List.set_cons_succ]); exact rfl) ?_) | (refine wpl rfl (wp_load1O hS 3 _ rfl _ _ rfl (one_of rfl) _ _ _ _ _ pl9 _ (by with_reducible assumption) ?_); refine wpl_put (by (simp only [Act.put, List.setIfInBounds_toArray, List.set_cons_zero, List.set_cons_succ]); exact rfl) ?_) | (refine wpl rfl (wp_loadW hS 3 _ rfl _ rfl (one_of rfl) _ (by with_reducible assumption) ?_); refine wpl_put (by (simp only [Act.put, List.setIfInBounds_toArray, List.set_cons_zero, List.set_cons_succ]); exact rfl) ?_)); exact ⟨rfl, rfl⟩
      case hd => rfl
      apply takeP 8 al9 (by kernel_rfl) (by kernel_rfl) (by kernel_rfl) (fun _ _ _ _ h => h)
      case hfr => intro w; go_wp2_with fail; exact ⟨rfl, rfl⟩
      case hd => rfl
      apply takeP 9 al9 (by kernel_rfl) (by kernel_rfl) (by kernel_rfl) (fun _ _ _ _ h => h)
      case hfr => intro w; go_wp2_with fail; exact ⟨rfl, rfl⟩
      case hd => rfl
      apply takeP 10 al9 (by kernel_rfl) (by kernel_rfl) (by kernel_rfl) (fun _ _ _ _ h => h)
      case hfr => intro w; go_wp2_with fail; exact ⟨rfl, rfl⟩
      case hd => rfl
      apply takeP 11 al9 (by kernel_rfl) (by kernel_rfl) (by kernel_rfl) (fun _ _ _ _ h => h)
      case hfr => intro w; go_wp2_with fail; exact ⟨rfl, rfl⟩
      case hd => rfl
      apply takeP 12 al9 (by kernel_rfl) (by kernel_rfl) (by kernel_rfl) (fun _ _ _ _ h => h)
      case hfr => intro w; go_wp2_with fail; exact ⟨rfl, rfl⟩
      case hd => rfl
      refine branch1 13 al9 rfl (by kernel_rfl) ?_
      (refine wp_store1 hS 76 _ _ rfl _ _ rfl (one_of rfl) _ _ pl9 _ isv9 (by rfl) (by (repeat (first | with_reducible exact SetAt.head | apply SetAt.tail))) rfl ?_; clear hS; intro w hS)
      refine ⟨fun h => absurd (by decide) h, ?_⟩
      refine drawn_done (by kernel_rfl) ?_ _
      go_end0
      refine ⟨rfl, St.close (ad', c') ?_⟩
      simp only [List.cons_append, List.nil_append]
      rw [HAND.out] at hS
      rw [hd1.out, hd2.out, hval.out]
      exact hS.sub sb9
end Go.Proofs.YtehbjhocgnfpmaaDoor

/- The walks of the reader: NewReader, Left, Get, Read. -/
namespace Go.Proofs.YtehbjhocgnfpmaaDoor
set_option maxRecDepth 100000
open Go.RowKit
set_option linter.unusedVariables false
theorem bl140_0 (a0 : Option Addr) (n0 c0 : Nat) (w : World) : (Instr.build 140 #[(0, .slice a0 n0 c0)]).run Tryd.prog w = .ok (.agg #[.slice a0 n0 c0, .int .i64 0]) w := by kernel_rfl
/-- A reader at block g: the bytes that came in, and how many bits have been read. -/
def rd (g : Nat) (ad : Option Addr) (n c i : Nat) : Res := blk g [.slice ad n c, .int .i64 (i : Nat)]
theorem newReader_any (w0 : World) (ad : Option Addr) (n c : Nat) : Calls Tryd.prog 48 #[.slice ad n c] w0 fun e w => ∃ g, e = .returned (.pointer (some ⟨g, 0, none⟩)) ∧ St w0 w [rd g ad n c 0] := by
  have hS := St.start w0
  go_enter Tryd.func48, Tryd.ntmps48
  repeat' (first
    | ((with_reducible apply gt9 _ (.move _)); (first | go_big_want | go_step); go_step) | ((with_reducible apply gt9 _ (.assign _)); (first | go_big_want | go_step); go_step) | ((with_reducible apply gt9 (some 4) (.build 140 _)); (refine wvv9 (V.build (vs := [(0, _)]) rfl (bl140_0 _ _ _)) ?_; go_step)) | ((with_reducible apply gt9 (some 5) (.box 140 _)); (refine wpl (by kernel_rfl) ?_; apply wp_boxG (o := ⟨some 5, _, _, _, _, _⟩) hS 140 _ rfl _ rfl; clear hS; intro g5 w hS; refine put_move ?_; go_step)) | ((fail_if_success with_reducible apply ga9); go_step))
  go_ret
  exact ⟨_, rfl, hS⟩
theorem left_any (w0 : World) (g n c at_ : Nat) (ad : Option Addr) (c0 : w0.cell? ⟨g, 0, none⟩ = some (.slice ad n c)) (c1 : w0.cell? ⟨g, 1, none⟩ = some (.int .i64 (at_ : Nat))) (hn : n ≤ 1000000000000000000) (ha : at_ ≤ 8 * n) :
    Calls Tryd.prog 50 #[.pointer (some ⟨g, 0, none⟩)] w0 fun e w => e = .returned (.int .i64 ((8 * n - at_ : Nat) : Int)) ∧ Ext w0 w := by
  have hS := St.start w0
  go_enter Tryd.func50, Tryd.ntmps50
  repeat' (first
    | ((with_reducible apply gt9 _ (.assign _)); (first | go_big_want | go_step); go_step) | ((fail_if_success with_reducible apply ga9); go_step))
  refine drawn_lit [] (fun w => St w0 w []) (by kernel_rfl) ?_
  replace hS := hS.drew
  focus
    refine takeM 0 _ al9 (by kernel_rfl) (by kernel_rfl) (by kernel_rfl) (by exact fun _ _ _ _ h => h) rfl ?_
    go_step
    (refine takeV 1 _ al9 (by kernel_rfl) (by kernel_rfl) (by kernel_rfl) (by exact fun _ _ _ _ h => h) (V.nilCheck rfl) rfl ?_)
    go_step
    (refine takeV 2 _ al9 (by kernel_rfl) (by kernel_rfl) (by kernel_rfl) (by exact fun _ _ _ _ h => h) (V.fieldAddr fo140_0 rfl nq9) rfl ?_)
    go_step
    apply takeS 3 al9 (by kernel_rfl) (by kernel_rfl) (by kernel_rfl) (by exact fun _ _ _ _ h => h) [4, 5, 10, 11] (by kernel_rfl) (hS.sub sb9)
    case hfr => intro w hS; ((refine wpl (by kernel_rfl) ?_; apply wp_loadW hS 34 _ rfl _ rfl (one_of rfl) _; (case hc => with_reducible assumption); refine put_move ?_; go_step)); refine wpList_nil ?_; exact ⟨rfl, rfl⟩
    case hd => rfl
    (refine takeV 4 _ al9 (by kernel_rfl) (by kernel_rfl) (by kernel_rfl) (by exact fun _ _ _ _ h => h) (V.len Tryd.underlying34 rfl) rfl ?_)
    go_step
    (refine takeV 5 _ al9 (by kernel_rfl) (by kernel_rfl) (by kernel_rfl) (by exact fun _ _ _ _ h => h) (V.mulI rfl rfl (by omega)) rfl ?_)
    go_step
    refine takeM 6 _ al9 (by kernel_rfl) (by kernel_rfl) (by kernel_rfl) (by exact fun _ _ _ _ h => h) rfl ?_
    go_step
    (refine takeV 7 _ al9 (by kernel_rfl) (by kernel_rfl) (by kernel_rfl) (by exact fun _ _ _ _ h => h) (V.nilCheck rfl) rfl ?_)
    go_step
    (refine takeV 8 _ al9 (by kernel_rfl) (by kernel_rfl) (by kernel_rfl) (by exact fun _ _ _ _ h => h) (V.fieldAddr fo140_1 rfl nq9) rfl ?_)
    go_step
    apply takeS 9 al9 (by kernel_rfl) (by kernel_rfl) (by kernel_rfl) (by exact fun _ _ _ _ h => h) [10, 11] (by kernel_rfl) (hS.sub sb9)
    case hfr => intro w hS; ((refine wpl (by kernel_rfl) ?_; apply wp_loadW hS 3 _ rfl _ rfl (one_of rfl) _; (case hc => with_reducible assumption); refine put_move ?_; go_step)); refine wpList_nil ?_; exact ⟨rfl, rfl⟩
    case hd => rfl
    (refine takeV 10 (.int _ (((8 * n - at_ : Nat) : Int))) al9 (by kernel_rfl) (by kernel_rfl) (by kernel_rfl) (by exact fun _ _ _ _ h => h) (V.as (V.subI rfl rfl (by omega)) (by omega)) rfl ?_)
    go_step
    refine takeA 11 _ al9 (by kernel_rfl) (by kernel_rfl) (by kernel_rfl) (by exact fun _ _ _ _ h => h) rfl ?_
    go_step
    refine drawn_done (by kernel_rfl) ?_ _
  repeat' (first
    | ((fail_if_success with_reducible apply ga9); go_step))
  go_ret
  exact ⟨rfl, hS.1⟩
def bitAt (l : List Nat) (i : Nat) : Nat := l.getD (i / 8) 0 / 2 ^ (7 - i % 8) % 2
theorem unpack_bit (l : List Nat) (i : Nat) (h : i < 8 * l.length) : (unpack l)[i]? = some (bitAt l i == 1) := unpack_get l i h
/-- The number of m bits from i on. -/
def numAt (l : List Nat) (i m : Nat) : Nat := num (((unpack l).drop i).take m)
theorem numAt_succ (l : List Nat) (i m : Nat) (h : i + m < 8 * l.length) : numAt l i (m + 1) = 2 * numAt l i m + bitAt l (i + m) := by
  unfold numAt
  rw [List.take_add_one, List.getElem?_drop, unpack_bit _ _ h]
  simp only [Option.toList_some]
  rw [num_snoc]
  have : bitAt l (i + m) < 2 := Nat.mod_lt _ (by omega)
  congr 1
  rcases (show bitAt l (i + m) = 0 ∨ bitAt l (i + m) = 1 by omega) with h | h <;> rw [h] <;> rfl
theorem numAt_lt (l : List Nat) (i m : Nat) : numAt l i m < 2 ^ m := by
  unfold numAt
  refine Nat.lt_of_lt_of_le (num_lt _) (Nat.pow_le_pow_right (by omega) ?_)
  simp; omega
theorem or_bit (N b : Nat) (hN : N < 4611686018427387904) (hb : b < 2) : bits .or .i64 (IntKind.i64.wrap ((N : Int) * 2 ^ 1)) (b : Int) = ((2 * N + b : Nat) : Int) := by
  have e1 : IntKind.i64.wrap ((N : Int) * 2 ^ 1) = ((2 * N : Nat) : Int) := by rw [show ((N : Int) * 2 ^ 1) = ((2 * N : Nat) : Int) by push_cast; omega]; exact wrap_i64_nat _ (by omega)
  rw [e1, bits_or_i64_nat _ _ (by omega) (by omega)]
  congr 1
  rw [show 2 * N = 2 ^ 1 * N by omega]
  exact (Nat.two_pow_add_eq_or_of_lt (i := 1) (by omega) N).symm
theorem or_bit2 (N b : Nat) (hN : N < 4611686018427387904) (hb : b < 2) : bits .or .i64 ((N : Int) * 2 ^ 1) (b : Int) = ((2 * N + b : Nat) : Int) := by
  have := or_bit N b hN hb
  rwa [IntWalk.i64_in _ (by omega)] at this
theorem and_one : ∀ b : Nat, b < 256 → bits .and .u8 (b : Int) 1 = ((b % 2 : Nat) : Int) := by decide +kernel
theorem bit_and (l : List Nat) (i : Nat) (hl : ∀ x ∈ l, x < 256) : bits .and .u8 (((l.getD (i / 8) 0 : Nat) : Int) / 2 ^ (7 - i % 8)) 1 = ((bitAt l i : Nat) : Int) := by
  have h1 : l.getD (i / 8) 0 < 256 := by
    by_cases h : i / 8 < l.length
    · have := hl _ (List.getElem_mem h); simpa [List.getD, h] using this
    · simp [List.getD, List.getElem?_eq_none (show l.length ≤ i / 8 by omega)]
  have h2 : l.getD (i / 8) 0 / 2 ^ (7 - i % 8) < 256 := Nat.lt_of_le_of_lt (Nat.div_le_self _ _) h1
  have e : ((l.getD (i / 8) 0 : Nat) : Int) / 2 ^ (7 - i % 8) = ((l.getD (i / 8) 0 / 2 ^ (7 - i % 8) : Nat) : Int) := by push_cast; rfl
  rw [e, and_one _ h2]
  rfl
/-- What Get gives: m bits from i on, if there are so many. -/
def GetGives (W : World) (rs : List Res) (g : Nat) (ad : Option Addr) (n c i m : Nat) (l : List Nat) (e : Ending) (w : World) : Prop :=
  (8 * n < i + m → e = .returned (.tuple #[.int .i64 0, .bool false]) ∧ St W w (rd g ad n c i :: rs)) ∧
  (i + m ≤ 8 * n → e = .returned (.tuple #[.int .i64 (numAt l i m : Nat), .bool true]) ∧ St W w (rd g ad n c (i + m) :: rs))
set_option maxHeartbeats 4000000 in
theorem get_any (W w0 : World) (rs rs' : List Res) (g n c i m : Nat) (ad : Option Addr) (l : List Nat) (hS : St W w0 rs) (hp : Pull (rd g ad n c i) rs rs') (hv : Sl W 1 (.slice ad n c) n (l.map fun (x : Nat) => Value.int .u8 (x : Int))) (hl : ∀ x ∈ l, x < 256) (hn : n ≤ 1000000000000000000) (hi : i ≤ 8 * n) (hm : m ≤ 60) :
    Calls Tryd.prog 51 #[.pointer (some ⟨g, 0, none⟩), .int .i64 m] w0 (GetGives W rs' g ad n c i m l) := by
  replace hS := hS.pull hp
  have hll : l.length = n := by have := hv.1; simpa using this
  have HLt := hid hl
  have HLen := hid hll
  clear hl hll
  by_cases hb : 8 * n < i + m
  · have c0 : w0.cell? ⟨g, 0, none⟩ = some (.slice ad n c) := by rw [(hS.blk Pull.head).1.cell]; rfl
    have c1 : w0.cell? ⟨g, 1, none⟩ = some (.int .i64 (i : Nat)) := by rw [(hS.blk Pull.head).1.cell]; rfl
    have HL := hid (left_any w0 g n c i ad c0 c1 hn hi)
    clear c0 c1
    go_enter Tryd.func51, Tryd.ntmps51
    repeat' (first
      | ((with_reducible apply gt9 _ (.call ⟨.value (.func 50), _, _⟩)); refine wpl_call (f := 50) Tryd.call50 (by kernel_rfl) ?_; refine ⟨_, (HL.out), ?_⟩; rintro e w ⟨rfl, hE⟩; replace hS := hS.ext hE; clear hE; refine ⟨_, rfl, ?_⟩; refine put_move ?_; go_step) | ((with_reducible apply gt9 _ (.move _)); (first | go_big_want | go_step); go_step) | ((with_reducible apply gt9 _ (.assign _)); (first | go_big_want | go_step); go_step) | ((with_reducible apply gt9 _ (.binOp .gtr _ _ _ _)); (refine wvv9 (V.gtr rfl rfl) ?_; go_step)) | ((fail_if_success with_reducible apply ga9); go_step))
    go_ret2
    exact ⟨fun _ => ⟨rfl, hS⟩, fun h => absurd h (by omega)⟩
  · have hb2 : i + m ≤ 8 * n := by omega
    have c0 : w0.cell? ⟨g, 0, none⟩ = some (.slice ad n c) := by rw [(hS.blk Pull.head).1.cell]; rfl
    have c1 : w0.cell? ⟨g, 1, none⟩ = some (.int .i64 (i : Nat)) := by rw [(hS.blk Pull.head).1.cell]; rfl
    have HL := hid (left_any w0 g n c i ad c0 c1 hn hi)
    clear c0 c1
    go_enter Tryd.func51, Tryd.ntmps51
    repeat' (first
      | ((with_reducible apply gt9 _ (.call ⟨.value (.func 50), _, _⟩)); refine wpl_call (f := 50) Tryd.call50 (by kernel_rfl) ?_; refine ⟨_, (HL.out), ?_⟩; rintro e w ⟨rfl, hE⟩; replace hS := hS.ext hE; clear hE; refine ⟨_, rfl, ?_⟩; refine put_move ?_; go_step) | ((with_reducible apply gt9 _ (.move _)); (first | go_big_want | go_step); go_step) | ((with_reducible apply gt9 _ (.assign _)); (first | go_big_want | go_step); go_step) | ((with_reducible apply gt9 _ (.binOp .gtr _ _ _ _)); (refine wvv9 (V.gtr rfl rfl) ?_; go_step)) | ((fail_if_success with_reducible apply ga9); go_step))
    go_loopg [6, 12] m (fun gk nv kv w => ∃ (k : Nat), gk + k = m ∧ kv = .int .i64 k ∧ nv = .int .i64 (numAt l i k : Nat) ∧ St W w (rd g ad n c (i + k) :: rs'))
    case atStart => exact ⟨0, rfl, rfl, rfl, hS⟩
    case round =>
      clear hS
      obtain ⟨k, hk, rfl, rfl, hS⟩ := hrel
      by_cases hlt : k < m
      · have hN : numAt l i k < 4611686018427387904 := by
          refine Nat.lt_of_lt_of_le (numAt_lt l i k) ?_
          exact Nat.le_trans (Nat.pow_le_pow_right (n := 2) (by omega) (show k ≤ 62 by omega)) (by decide)
        have HOr := hid (or_bit (numAt l i k) (bitAt l (i + k)) hN (Nat.mod_lt _ (by omega)))
        have HOr2 := hid (or_bit2 (numAt l i k) (bitAt l (i + k)) hN (Nat.mod_lt _ (by omega)))
        have HAnd := hid (bit_and l (i + k) HLt.out)
        have HSucc := hid (numAt_succ l i k (by rw [HLen.out]; omega))
        have hbit : bitAt l (i + k) < 2 := Nat.mod_lt _ (by omega)
        have h8 : (i + k) / 8 < n := by omega
        unfold rd at hS
        obtain ⟨b, off, rfl, hcell⟩ : ∃ b off, ad = some ⟨b, off, none⟩ ∧ W.cell? ⟨b, off + (i + k) / 8, none⟩ = some (.int .u8 ((l.getD ((i + k) / 8) 0 : Nat) : Int)) := by
          obtain ⟨_, a', c', e1, _, _, hor⟩ := hv
          cases e1
          rcases hor with h0 | ⟨b, off, rfl, hc⟩
          · omega
          · refine ⟨b, off, rfl, ?_⟩
            rw [hc _ (by omega), List.getElem?_map, List.getElem?_eq_getElem (by rw [HLen.out]; exact h8)]
            simp [List.getD, HLen.out, h8]
        clear HL
        repeat' (first
          | ((with_reducible apply gt9 _ (.binOp .lss _ _ _ _)); (refine wvv9 (V.lss rfl rfl) ?_; go_step)) | ((fail_if_success with_reducible apply ga9); go_step))
        refine drawn_lit [] (fun w => St W w (blk g [.slice (some ⟨b, off, none⟩) n c, .int .i64 ((i + k : Nat) : Int)] :: rs')) (by kernel_rfl) ?_
        replace hS := hS.drew
        focus
          refine takeM 0 _ al9 (by kernel_rfl) (by kernel_rfl) (by kernel_rfl) (by exact fun _ _ _ _ h => h) rfl ?_
          go_step
          (refine takeV 1 _ al9 (by kernel_rfl) (by kernel_rfl) (by kernel_rfl) (by exact fun _ _ _ _ h => h) (V.shlI rfl rfl isn9 (by omega) (by omega)) rfl ?_)
          go_step
          refine takeM 2 _ al9 (by kernel_rfl) (by kernel_rfl) (by kernel_rfl) (by exact fun _ _ _ _ h => h) rfl ?_
          go_step
          (refine takeV 3 _ al9 (by kernel_rfl) (by kernel_rfl) (by kernel_rfl) (by exact fun _ _ _ _ h => h) (V.nilCheck rfl) rfl ?_)
          go_step
          (refine takeV 4 _ al9 (by kernel_rfl) (by kernel_rfl) (by kernel_rfl) (by exact fun _ _ _ _ h => h) (V.fieldAddr fo140_0 rfl nq9) rfl ?_)
          go_step
          apply takeS 5 al9 (by kernel_rfl) (by kernel_rfl) (by kernel_rfl) (by exact fun _ _ _ _ h => h) [11, 12, 19, 20, 21, 22, 23] (by kernel_rfl) (hS.sub sb9)
          case hfr => intro w hS; ((refine wpl (by kernel_rfl) ?_; apply wp_load1 hS 34 _ rfl _ _ rfl (one_of rfl) _; (case hp => exact pl9); (case hc => rfl); refine put_move ?_; go_step)); refine wpList_nil ?_; exact ⟨rfl, rfl⟩
          case hd => rfl
          refine takeM 6 _ al9 (by kernel_rfl) (by kernel_rfl) (by kernel_rfl) (by exact fun _ _ _ _ h => h) rfl ?_
          go_step
          (refine takeV 7 _ al9 (by kernel_rfl) (by kernel_rfl) (by kernel_rfl) (by exact fun _ _ _ _ h => h) (V.nilCheck rfl) rfl ?_)
          go_step
          (refine takeV 8 _ al9 (by kernel_rfl) (by kernel_rfl) (by kernel_rfl) (by exact fun _ _ _ _ h => h) (V.fieldAddr fo140_1 rfl nq9) rfl ?_)
          go_step
          apply takeS 9 al9 (by kernel_rfl) (by kernel_rfl) (by kernel_rfl) (by exact fun _ _ _ _ h => h) [10, 11, 12, 19, 20, 21, 22, 23] (by kernel_rfl) (hS.sub sb9)
          case hfr => intro w hS; ((refine wpl (by kernel_rfl) ?_; apply wp_load1 hS 3 _ rfl _ _ rfl (one_of rfl) _; (case hp => exact pl9); (case hc => rfl); refine put_move ?_; go_step)); refine wpList_nil ?_; exact ⟨rfl, rfl⟩
          case hd => rfl
          (refine takeV 10 _ al9 (by kernel_rfl) (by kernel_rfl) (by kernel_rfl) (by exact fun _ _ _ _ h => h) (V.quo rfl rfl (by omega) (by omega)) rfl ?_)
          go_step
          (refine takeV 11 _ al9 (by kernel_rfl) (by kernel_rfl) (by kernel_rfl) (by exact fun _ _ _ _ h => h) (V.indexSl Tryd.underlying34 isz5 rfl rfl isn9 (by omega) (Nat.mul_one _) nq9) rfl ?_)
          go_step
          apply takeS 12 al9 (by kernel_rfl) (by kernel_rfl) (by kernel_rfl) (by exact fun _ _ _ _ h => h) [19, 20, 21, 22, 23] (by kernel_rfl) (hS.sub sb9)
          case hfr => intro w hS; ((refine wpl (by kernel_rfl) ?_; apply wp_loadW hS 5 _ rfl _ rfl (one_of rfl) _; (case hc => with_reducible assumption); refine put_move ?_; go_step)); refine wpList_nil ?_; exact ⟨rfl, rfl⟩
          case hd => rfl
          refine takeM 13 _ al9 (by kernel_rfl) (by kernel_rfl) (by kernel_rfl) (by exact fun _ _ _ _ h => h) rfl ?_
          go_step
          (refine takeV 14 _ al9 (by kernel_rfl) (by kernel_rfl) (by kernel_rfl) (by exact fun _ _ _ _ h => h) (V.nilCheck rfl) rfl ?_)
          go_step
          (refine takeV 15 _ al9 (by kernel_rfl) (by kernel_rfl) (by kernel_rfl) (by exact fun _ _ _ _ h => h) (V.fieldAddr fo140_1 rfl nq9) rfl ?_)
          go_step
          apply takeS 16 al9 (by kernel_rfl) (by kernel_rfl) (by kernel_rfl) (by exact fun _ _ _ _ h => h) [17, 18, 19, 20, 21, 22, 23] (by kernel_rfl) (hS.sub sb9)
          case hfr => intro w hS; ((refine wpl (by kernel_rfl) ?_; apply wp_load1 hS 3 _ rfl _ _ rfl (one_of rfl) _; (case hp => exact pl9); (case hc => rfl); refine put_move ?_; go_step)); refine wpList_nil ?_; exact ⟨rfl, rfl⟩
          case hd => rfl
          (refine takeV 17 _ al9 (by kernel_rfl) (by kernel_rfl) (by kernel_rfl) (by exact fun _ _ _ _ h => h) (V.rem rfl rfl (by omega) (by omega)) rfl ?_)
          go_step
          (refine takeV 18 _ al9 (by kernel_rfl) (by kernel_rfl) (by kernel_rfl) (by exact fun _ _ _ _ h => h) (V.subI rfl rfl (by omega)) rfl ?_)
          go_step
          (refine takeV 19 _ al9 (by kernel_rfl) (by kernel_rfl) (by kernel_rfl) (by exact fun _ _ _ _ h => h) (V.shrB (N := 8) rfl rfl isn9 (by omega) rfl) rfl ?_)
          go_step
          (refine takeV 20 (.int _ (((bitAt l (i + k) : Nat) : Int))) al9 (by kernel_rfl) (by kernel_rfl) (by kernel_rfl) (by exact fun _ _ _ _ h => h) (V.as (V.and rfl rfl) (by exact HAnd.out)) rfl ?_)
          go_step
          (refine takeV 21 _ al9 (by kernel_rfl) (by kernel_rfl) (by kernel_rfl) (by exact fun _ _ _ _ h => h) (V.convI (by rw [Tryd.underlying5]; rfl) Tryd.underlying3 rfl (IntWalk.i64_in _ (by omega))) rfl ?_)
          go_step
          (refine takeV 22 (.int _ (((2 * numAt l i k + bitAt l (i + k) : Nat) : Int))) al9 (by kernel_rfl) (by kernel_rfl) (by kernel_rfl) (by exact fun _ _ _ _ h => h) (V.as (V.or rfl rfl) (by exact HOr2.out)) rfl ?_)
          go_step
          refine takeA 23 _ al9 (by kernel_rfl) (by kernel_rfl) (by kernel_rfl) (by exact fun _ _ _ _ h => h) rfl ?_
          go_step
          refine drawn_done (by kernel_rfl) ?_ _
        repeat' (first
          | ((with_reducible apply gt9 _ (.move _)); (first | go_big_want | go_step); go_step) | ((with_reducible apply gt9 _ (.nilCheck _)); (refine wvv9 (V.nilCheck rfl) ?_; go_step)) | ((with_reducible apply gt9 _ (.fieldAddr 140 _ 1)); (refine wvv9 (V.fieldAddr fo140_1 rfl nq9) ?_; go_step)) | ((with_reducible apply gt9 _ (.binOp .add _ _ _ _)); (refine wvv9 (V.addI rfl rfl (by omega)) ?_; go_step)) | ((with_reducible apply gt9 _ (.load 3 _)); (refine wpl (by kernel_rfl) ?_; apply wp_load1 hS 3 _ rfl _ _ rfl (one_of rfl) _; (case hp => exact pl9); (case hc => rfl); refine put_move ?_; go_step)) | ((with_reducible apply gt9 _ (.store 3 _ _)); (refine wpl (by kernel_rfl) ?_; apply wp_store1 hS 3 _ _ rfl _ _ rfl (one_of rfl) _ _; (case hp => exact pl9); (case hy => exact isv9); (case hv => rfl); (case hc => (repeat (first | with_reducible exact SetAt.head | apply SetAt.tail))); (case hd => exact rfl); clear hS; intro w hS)) | ((fail_if_success with_reducible apply ga9); go_step))
        go_roundg (gk - 1)
        case measure => omega
        case rel => exact ⟨k + 1, by omega, by go_num, by rw [HSucc.out], by unfold rd; exact hS⟩
      · obtain rfl : k = m := by omega
        repeat' (first
          | ((with_reducible apply gt9 _ (.move _)); (first | go_big_want | go_step); go_step) | ((with_reducible apply gt9 _ (.assign _)); (first | go_big_want | go_step); go_step) | ((with_reducible apply gt9 _ (.binOp .lss _ _ _ _)); (refine wvv9 (V.lss rfl rfl) ?_; go_step)) | ((fail_if_success with_reducible apply ga9); go_step))
        go_ret2
        exact ⟨fun h => absurd h (by omega), fun _ => ⟨rfl, hS⟩⟩
end Go.Proofs.YtehbjhocgnfpmaaDoor

/- The walks of a table's coder: NewCoder, Put, Get. -/
namespace Go.Proofs.YtehbjhocgnfpmaaDoor
set_option maxRecDepth 100000
open Go.RowKit
set_option linter.unusedVariables false
theorem bl125_0_1 (a0 : Option Nat) (a1 : Option Nat) (w : World) : (Instr.build 125 #[(0, .map a0), (1, .map a1)]).run Tryd.prog w = .ok (.agg #[.map a0, .map a1]) w := by kernel_rfl
theorem bl154_0_1 (m0 : Int) (m1 : Int) (w : World) : (Instr.build 154 #[(0, .int .i64 m0), (1, .int .i64 m1)]).run Tryd.prog w = .ok (.agg #[.int .i64 m0, .int .i64 m1]) w := by kernel_rfl
/-- The coder's maps. -/
def wv (s : Int) (y : Nat × Nat) : Value := .agg #[.int .i64 s, .int .i64 (y.1 : Int), .int .i64 (y.2 : Int)]
def symF (L : List (Int × Nat × Nat)) (s : Int) : Option Value := (symW L s).map (wv s)
def codF (L : List (Int × Nat × Nat)) (p : Int × Int) : Option Value := (codW L p).map (Value.int .i64)
theorem symF_snoc (L : List (Int × Nat × Nat)) (s : Int) (l c : Nat) : (fun j => if j = s then some (Value.agg ([s, (l : Int), (c : Int)].map (Value.int .i64)).toArray) else symF L j) = symF (L ++ [(s, l, c)]) := by
  funext j
  unfold symF
  rw [symW_snoc]
  by_cases h : j = s
  · rw [if_pos h, if_pos h, h]; rfl
  · rw [if_neg h, if_neg h]
theorem codF_snoc (L : List (Int × Nat × Nat)) (s : Int) (l c : Nat) : (fun j => if j = ((l : Int), (c : Int)) then some (Value.int .i64 s) else codF L j) = codF (L ++ [(s, l, c)]) := by
  funext j
  unfold codF
  rw [codW_snoc]
  by_cases h : j = ((l : Int), (c : Int))
  · rw [if_pos h, if_pos h]; rfl
  · rw [if_neg h, if_neg h]
/-- A coder at block g, for these words. -/
def cod (g : Nat) (L : List (Int × Nat × Nat)) : Res := bag fun x : Nat × Nat => [blk g [.map (some x.1), .map (some x.2)], mp ik x.1 (symF L), mp pk x.2 (codF L)]
set_option maxRecDepth 100000 in
set_option maxHeartbeats 4000000 in
theorem newCoder_any (w0 : World) (C S : List Int) (ad : Option Addr) (n c : Nat) (hC : Len C 16) (hv : Sl w0 1 (.slice ad n c) n (S.map (Value.int .i64))) (hn : n ≤ 9223372036854775807) (hok : tabE C S = 0) :
    Calls Tryd.prog 59 #[tv C (.slice ad n c)] w0 fun e w => ∃ g, e = .returned (.pointer (some ⟨g, 0, none⟩)) ∧ St w0 w [cod g (wds C S)] := by
  have hSl : S.length = n := by have := hv.1; simpa using this
  have hn256 : n ≤ 256 := by have := (tabE_ok hok).2.2.1; omega
  obtain ⟨L, hL⟩ : ∃ L, wds C S = L := ⟨_, rfl⟩
  have HL := hid hL
  have HLl : Hid (L.length = n) := hid (by rw [← hL, wds_len _ _ (tabE_ok hok).2.1, hSl])
  have HOk := hid hok
  clear hSl hL hok
  have hS := St.start w0
  go_enter Tryd.func59, Tryd.ntmps59
  repeat' (first
    | ((with_reducible apply gt9 _ (.call ⟨.value (.func 61), _, _⟩)); refine wpl_call (f := 61) Tryd.call61 (by kernel_rfl) ?_; refine ⟨_, (wordsOf_any _ C S ad n c hC (hv.ext hS.1) hn HOk.out), ?_⟩; rintro e w ⟨a2, c2, rfl, hS2⟩; rw [HL.out] at hS2; replace hS := hS.call1 hS2; clear hS2; refine ⟨_, rfl, ?_⟩; refine put_move ?_; go_step) | ((with_reducible apply gt9 _ (.move _)); (first | go_big_want | go_step); go_step) | ((with_reducible apply gt9 _ (.assign _)); (first | go_big_want | go_step); go_step) | ((with_reducible apply gt9 (some 8) (.build 125 _)); (refine wvv9 (V.build (vs := [(0, _), (1, _)]) rfl (bl125_0_1 _ _)) ?_; go_step)) | ((with_reducible apply gt9 _ (.call ⟨.builtin .len, _, _⟩)); (refine wvv9 (V.len Tryd.underlying85 rfl) ?_; go_step)) | ((with_reducible apply gt9 (some 1) (.box 31 _)); (refine wpl (by kernel_rfl) ?_; apply wp_boxP (o := ⟨some 1, _, _, _, _, _⟩) hS 31 _ rfl _ rfl; clear hS; intro g1 w hS; refine put_move ?_; go_step)) | ((with_reducible apply gt9 (some 6) (.makeMap 122 _)); (refine wpl (by kernel_rfl) ?_; apply wp_makeMap (o := ⟨some 6, _, _, _, _, _⟩) ik hS 122 rfl; clear hS; intro g6 w hS; refine put_move ?_; go_step)) | ((with_reducible apply gt9 (some 7) (.makeMap 123 _)); (refine wpl (by kernel_rfl) ?_; apply wp_makeMap (o := ⟨some 7, _, _, _, _, _⟩) pk hS 123 rfl; clear hS; intro g7 w hS; refine put_move ?_; go_step)) | ((with_reducible apply gt9 (some 9) (.box 125 _)); (refine wpl (by kernel_rfl) ?_; apply wp_boxG (o := ⟨some 9, _, _, _, _, _⟩) hS 125 _ rfl _ rfl; clear hS; intro g9 w hS; refine put_move ?_; go_step)) | ((with_reducible apply gt9 _ (.load 31 _)); (refine wpl (by kernel_rfl) ?_; apply wp_loadPP hS 31 _ rfl _ _ rfl 17 (row_of rfl) _; (case hp => exact pl9); (case hi => (repeat (first | (apply AtP.head; (repeat (first | exact Pre.nil | (apply Pre.ints; (case hn => (first | (with_reducible assumption) | exact Len.rep | exact Len.set (by with_reducible assumption) | exact Len.set Len.rep | exact Len.set (Len.set Len.rep))); (case h => omega); (case hm => rfl)) | apply Pre.val))) | (apply AtP.skipI; (case hn => (first | (with_reducible assumption) | exact Len.rep | exact Len.set (by with_reducible assumption) | exact Len.set Len.rep | exact Len.set (Len.set Len.rep))); (case h => omega); (case ho => rfl)) | apply AtP.skipV))); refine put_move ?_; go_step)) | ((fail_if_success with_reducible apply ga9); go_step))
  go_loopg [13] n (fun gk kv w => ∃ (i : Nat), gk + i = n ∧ kv = .int .i64 i ∧ St w0 w [own 91 3 a2 n c2 ((wfl L).map (Value.int .i64)), blk g9 [.map (some g6), .map (some g7)], mp ik g6 (symF (L.take i)), mp pk g7 (codF (L.take i))])
  case atStart => exact ⟨0, rfl, rfl, (by rw [show symF (L.take 0) = fun _ => none from rfl, show codF (L.take 0) = fun _ => none from rfl]; exact hS.sub sb9)⟩
  case round =>
    clear hS
    obtain ⟨i, hi, rfl, hS⟩ := hrel
    by_cases hlt : i < n
    · obtain ⟨b2, rfl⟩ := own_some hS pl9 (by omega)
      obtain ⟨⟨s, l, k⟩, hx⟩ : ∃ x, L[i]? = some x := ⟨_, List.getElem?_eq_getElem (by rw [HLl.out]; exact hlt)⟩
      have hseg := wfl_get L i _ hx
      dsimp only at hseg
      have ht : L.take (i + 1) = L.take i ++ [(s, l, k)] := by rw [List.take_add_one, hx]; rfl
      have H1 := hid (symF_snoc (L.take i) s l k)
      have H2 := hid (codF_snoc (L.take i) s l k)
      rw [← ht] at H1 H2
      clear hx ht
      repeat' (first
        | ((with_reducible apply gt9 _ (.binOp .lss _ _ _ _)); (refine wvv9 (V.lss rfl rfl) ?_; go_step)) | ((with_reducible apply gt9 (some 15) (.indexAddr 85 _ _)); (refine wvv9 (V.indexSl Tryd.underlying85 isz91 rfl rfl isn9 (by omega) rfl nq9) ?_; go_step)) | ((with_reducible apply gt9 _ (.load 91 _)); (refine wpl (by kernel_rfl) ?_; apply wp_loadROE hS 91 _ rfl _ _ rfl 3 (row_of rfl) _ _ _ _ _; (case hp => exact pl9); (case hi => omega); (case hl' => with_reducible assumption); refine put_move ?_; go_step)) | ((with_reducible apply gt9 (some 5) (.alloc 91)); (refine wpl (by kernel_rfl) ?_; apply wp_alloc (o := ⟨some 5, _, _, _, _, _⟩) hS 91 rfl (.agg #[.int .i64 0, .int .i64 0, .int .i64 0]) [.int .i64 0, .int .i64 0, .int .i64 0] (fun w => Tryd.zeroValue91 w) rfl; clear hS; intro g5 w hS; refine put_move ?_; go_step)) | ((with_reducible apply gt9 _ (.store 91 _ _)); (refine wpl (by kernel_rfl) ?_; apply wp_storeG hS 91 _ _ rfl _ rfl 3 (row_of rfl) _ _; (case hp => exact pl9); (case hy => rfl); (case hn => rfl); (case hn' => rfl); (case hv => rfl); (case hd => exact rfl); clear hS; intro w hS)) | ((fail_if_success with_reducible apply ga9); go_step))
      refine drawn_lit [7] (fun w => St w0 w [blk g5 ([s, (l : Int), (k : Int)].map (Value.int .i64)), blk g9 [.map (some g6), .map (some g7)]]) (by kernel_rfl) ?_
      replace hS := hS.drew
      focus
        refine takeM 0 _ al9 (by kernel_rfl) (by kernel_rfl) (by kernel_rfl) (by exact fun _ _ _ _ h => h) rfl ?_
        go_step
        (refine takeV 1 _ al9 (by kernel_rfl) (by kernel_rfl) (by kernel_rfl) (by exact fun _ _ _ _ h => h) (V.nilCheck rfl) rfl ?_)
        go_step
        (refine takeV 2 _ al9 (by kernel_rfl) (by kernel_rfl) (by kernel_rfl) (by exact fun _ _ _ _ h => h) (V.fieldAddr fo125_0 rfl nq9) rfl ?_)
        go_step
        apply takeS 3 al9 (by kernel_rfl) (by kernel_rfl) (by kernel_rfl) (by exact fun _ _ _ _ h => h) [7] (by kernel_rfl) (hS.sub sb9)
        case hfr => intro w hS; ((refine wpl (by kernel_rfl) ?_; apply wp_load1 hS 122 _ rfl _ _ rfl (one_of rfl) _; (case hp => exact pl9); (case hc => rfl); refine put_move ?_; go_step)); refine wpList_nil ?_; exact ⟨rfl, rfl⟩
        case hd => rfl
        (refine takeV 4 _ al9 (by kernel_rfl) (by kernel_rfl) (by kernel_rfl) (by exact fun _ _ _ _ h => h) (V.fieldAddr fo91_0 rfl nq9) rfl ?_)
        go_step
        apply takeS 5 al9 (by kernel_rfl) (by kernel_rfl) (by kernel_rfl) (by exact fun _ _ _ _ h => h) [7] (by kernel_rfl) (hS.sub sb9)
        case hfr => intro w hS; ((refine wpl (by kernel_rfl) ?_; apply wp_load1 hS 3 _ rfl _ _ rfl (one_of rfl) _; (case hp => exact pl9); (case hc => rfl); refine put_move ?_; go_step)); refine wpList_nil ?_; exact ⟨rfl, rfl⟩
        case hd => rfl
        apply takeS 6 al9 (by kernel_rfl) (by kernel_rfl) (by kernel_rfl) (by exact fun _ _ _ _ h => h) [7] (by kernel_rfl) (hS.sub sb9)
        case hfr => intro w hS; ((refine wpl (by kernel_rfl) ?_; apply wp_loadG hS 91 _ rfl _ rfl 3 (row_of rfl) _; (case hp => exact pl9); (case hn => rfl); refine put_move ?_; go_step)); refine wpList_nil ?_; exact ⟨rfl, rfl⟩
        case hd => rfl
        refine branch1 7 al9 rfl (by kernel_rfl) ?_
        (refine wp_mapUpdate (enc := ik) hS 122 _ _ _ rfl _ rfl _ rfl Tryd.underlying122 (keyLaw_int Tryd.underlying3) _ pl9 _ (by (first | exact IsV.int rfl | exact IsV.bool rfl | exact IsV.slice rfl | exact IsV.pointer rfl | exact IsV.string rfl | exact IsV.map rfl | exact IsV.func rfl | exact IsV.agg rfl)) rfl ?_; clear hS; intro w hS)
        refine ⟨fun h => absurd (by decide) h, ?_⟩
        refine drawn_done (by kernel_rfl) ?_ _
      all_goals
        repeat' (first
          | ((fail_if_success with_reducible apply ga9); go_step))
        refine drawn_lit [11] (fun w => St w0 w [blk g5 ([s, (l : Int), (k : Int)].map (Value.int .i64)), blk g9 [.map (some g6), .map (some g7)]]) (by kernel_rfl) ?_
        replace hS := hS.drew
        focus
          refine takeM 0 _ al9 (by kernel_rfl) (by kernel_rfl) (by kernel_rfl) (by exact fun _ _ _ _ h => h) rfl ?_
          go_step
          (refine takeV 1 _ al9 (by kernel_rfl) (by kernel_rfl) (by kernel_rfl) (by exact fun _ _ _ _ h => h) (V.nilCheck rfl) rfl ?_)
          go_step
          (refine takeV 2 _ al9 (by kernel_rfl) (by kernel_rfl) (by kernel_rfl) (by exact fun _ _ _ _ h => h) (V.fieldAddr fo125_1 rfl nq9) rfl ?_)
          go_step
          apply takeS 3 al9 (by kernel_rfl) (by kernel_rfl) (by kernel_rfl) (by exact fun _ _ _ _ h => h) [11] (by kernel_rfl) (hS.sub sb9)
          case hfr => intro w hS; ((refine wpl (by kernel_rfl) ?_; apply wp_load1 hS 123 _ rfl _ _ rfl (one_of rfl) _; (case hp => exact pl9); (case hc => rfl); refine put_move ?_; go_step)); refine wpList_nil ?_; exact ⟨rfl, rfl⟩
          case hd => rfl
          (refine takeV 4 _ al9 (by kernel_rfl) (by kernel_rfl) (by kernel_rfl) (by exact fun _ _ _ _ h => h) (V.fieldAddr fo91_1 rfl nq9) rfl ?_)
          go_step
          apply takeS 5 al9 (by kernel_rfl) (by kernel_rfl) (by kernel_rfl) (by exact fun _ _ _ _ h => h) [8, 11] (by kernel_rfl) (hS.sub sb9)
          case hfr => intro w hS; ((refine wpl (by kernel_rfl) ?_; apply wp_load1 hS 3 _ rfl _ _ rfl (one_of rfl) _; (case hp => exact pl9); (case hc => rfl); refine put_move ?_; go_step)); refine wpList_nil ?_; exact ⟨rfl, rfl⟩
          case hd => rfl
          (refine takeV 6 _ al9 (by kernel_rfl) (by kernel_rfl) (by kernel_rfl) (by exact fun _ _ _ _ h => h) (V.fieldAddr fo91_2 rfl nq9) rfl ?_)
          go_step
          apply takeS 7 al9 (by kernel_rfl) (by kernel_rfl) (by kernel_rfl) (by exact fun _ _ _ _ h => h) [8, 11] (by kernel_rfl) (hS.sub sb9)
          case hfr => intro w hS; ((refine wpl (by kernel_rfl) ?_; apply wp_load1 hS 3 _ rfl _ _ rfl (one_of rfl) _; (case hp => exact pl9); (case hc => rfl); refine put_move ?_; go_step)); refine wpList_nil ?_; exact ⟨rfl, rfl⟩
          case hd => rfl
          (refine takeV 8 _ al9 (by kernel_rfl) (by kernel_rfl) (by kernel_rfl) (by exact fun _ _ _ _ h => h) (V.build (vs := [(0, _), (1, _)]) rfl (bl154_0_1 _ _)) rfl ?_)
          go_step
          (refine takeV 9 _ al9 (by kernel_rfl) (by kernel_rfl) (by kernel_rfl) (by exact fun _ _ _ _ h => h) (V.fieldAddr fo91_0 rfl nq9) rfl ?_)
          go_step
          apply takeS 10 al9 (by kernel_rfl) (by kernel_rfl) (by kernel_rfl) (by exact fun _ _ _ _ h => h) [11] (by kernel_rfl) (hS.sub sb9)
          case hfr => intro w hS; ((refine wpl (by kernel_rfl) ?_; apply wp_load1 hS 3 _ rfl _ _ rfl (one_of rfl) _; (case hp => exact pl9); (case hc => rfl); refine put_move ?_; go_step)); refine wpList_nil ?_; exact ⟨rfl, rfl⟩
          case hd => rfl
          refine branch1 11 al9 rfl (by kernel_rfl) ?_
          (refine wp_mapUpdate (enc := pk) hS 123 _ _ _ rfl _ rfl (_, _) rfl Tryd.underlying123 (keyLaw_pair Tryd.underlying154 Tryd.underlying3 isz3) _ pl9 _ (by (first | exact IsV.int rfl | exact IsV.bool rfl | exact IsV.slice rfl | exact IsV.pointer rfl | exact IsV.string rfl | exact IsV.map rfl | exact IsV.func rfl | exact IsV.agg rfl)) rfl ?_; clear hS; intro w hS)
          refine ⟨fun h => absurd (by decide) h, ?_⟩
          refine drawn_done (by kernel_rfl) ?_ _
        all_goals
          repeat' (first
            | ((with_reducible apply gt9 _ (.move _)); (first | go_big_want | go_step); go_step) | ((with_reducible apply gt9 _ (.binOp .add _ _ _ _)); (refine wvv9 (V.addI rfl rfl (by omega)) ?_; go_step)) | ((fail_if_success with_reducible apply ga9); go_step))
          go_roundg (gk - 1)
          case measure => omega
          case rel =>
            refine ⟨i + 1, by omega, by go_num, ?_⟩
            rw [← H1.out, ← H2.out]
            exact hS.sub sb9
    · obtain rfl : i = n := by omega
      rw [show L.take i = L by rw [← HLl.out]; exact List.take_length] at hS
      repeat' (first
        | ((with_reducible apply gt9 _ (.move _)); (first | go_big_want | go_step); go_step) | ((with_reducible apply gt9 _ (.assign _)); (first | go_big_want | go_step); go_step) | ((with_reducible apply gt9 _ (.binOp .lss _ _ _ _)); (refine wvv9 (V.lss rfl rfl) ?_; go_step)) | ((fail_if_success with_reducible apply ga9); go_step))
      go_ret
      refine ⟨g9, rfl, St.close (g6, g7) ?_⟩
      rw [HL.out]
      exact hS.sub sb9
/-- The bits of a symbol's word. -/
def wb (L : List (Int × Nat × Nat)) (s : Int) : List Bool := match symW L s with
  | some y => bitsOf y.1 y.2
  | none => []
set_option maxRecDepth 100000 in
set_option maxHeartbeats 4000000 in
theorem codPut_any (W w0 : World) (rs rs' rs2 : List Res) (g g2 : Nat) (L : List (Int × Nat × Nat)) (bs : List Bool) (s : Int) (hL : Good L) (hS : St W w0 rs) (hp : Pull (cod g L) rs rs') (hp2 : Pull (wr g2 bs) rs' rs2) (hb : bs.length ≤ 1000000000000) :
    Calls Tryd.prog 40 #[.pointer (some ⟨g, 0, none⟩), .pointer (some ⟨g2, 0, none⟩), .int .i64 s] w0 fun e w => e = .returned (.bool (symW L s).isSome) ∧ St W w (cod g L :: wr g2 (bs ++ wb L s) :: rs2) := by
  obtain ⟨⟨m1, m2⟩, hS⟩ := (hS.pull hp).open
  dsimp only [List.cons_append, List.nil_append] at hS
  have HG := hid hL
  clear hL
  have hp3 : Pull (wr g2 bs) (blk g [.map (some m1), .map (some m2)] :: mp ik m1 (symF L) :: mp pk m2 (codF L) :: rs') (blk g [.map (some m1), .map (some m2)] :: mp ik m1 (symF L) :: mp pk m2 (codF L) :: rs2) := .tail (.tail (.tail hp2))
  cases hs : symW L s with
  | none =>
    have hf : symF L s = none := by unfold symF; rw [hs]; rfl
    have HB := hid (show wb L s = [] by unfold wb; rw [hs])
    clear hs
    go_enter Tryd.func40, Tryd.ntmps40
    repeat' (first
      | ((with_reducible apply gt9 _ (.move _)); (first | go_big_want | go_step); go_step) | ((with_reducible apply gt9 _ (.assign _)); (first | go_big_want | go_step); go_step) | ((with_reducible apply gt9 _ (.nilCheck _)); (refine wvv9 (V.nilCheck rfl) ?_; go_step)) | ((with_reducible apply gt9 _ (.fieldAddr 125 _ 0)); (refine wvv9 (V.fieldAddr fo125_0 rfl nq9) ?_; go_step)) | ((with_reducible apply gt9 _ (.extract _ _)); (refine wvv9 (V.extract rfl rfl) ?_; go_step)) | ((with_reducible apply gt9 _ (.load 122 _)); (refine wpl (by kernel_rfl) ?_; apply wp_load1 hS 122 _ rfl _ _ rfl (one_of rfl) _; (case hp => exact pl9); (case hc => rfl); refine put_move ?_; go_step)) | ((with_reducible apply gt9 (some 15) (.lookup 122 _ _ _)); (refine wpl (by kernel_rfl) ?_; apply wp_lookupN2 (enc := ik) hS 122 _ _ rfl _ rfl _ rfl Tryd.underlying122 (keyLaw_int Tryd.underlying3) (.agg #[.int .i64 0, .int .i64 0, .int .i64 0]) (fun w => Tryd.zeroValue91 w) _; (case hp => exact pl9); (case hf => with_reducible assumption); refine put_move ?_; go_step)) | ((with_reducible apply gt9 (some 7) (.alloc 91)); (refine wpl (by kernel_rfl) ?_; apply wp_alloc (o := ⟨some 7, _, _, _, _, _⟩) hS 91 rfl (.agg #[.int .i64 0, .int .i64 0, .int .i64 0]) [.int .i64 0, .int .i64 0, .int .i64 0] (fun w => Tryd.zeroValue91 w) rfl; clear hS; intro g7 w hS; refine put_move ?_; go_step)) | ((with_reducible apply gt9 _ (.store 91 _ _)); (refine wpl (by kernel_rfl) ?_; apply wp_storeG hS 91 _ _ rfl _ rfl 3 (row_of rfl) _ _; (case hp => exact pl9); (case hy => rfl); (case hn => rfl); (case hn' => rfl); (case hv => rfl); (case hd => exact rfl); clear hS; intro w hS)) | ((fail_if_success with_reducible apply ga9); go_step))
    go_ret
    refine ⟨rfl, St.close (m1, m2) ?_⟩
    rw [HB.out, List.append_nil]
    exact (hS.pull (.tail hp3)).sub sb9
  | some y =>
    obtain ⟨l, k⟩ := y
    have hm := symW_mem hs
    obtain ⟨g1, g2', g3⟩ := HG.out.long _ hm
    dsimp only at g1 g2' g3
    have hf : symF L s = some (.agg #[.int .i64 s, .int .i64 (l : Int), .int .i64 (k : Int)]) := by unfold symF; rw [hs]; rfl
    have HB := hid (show wb L s = bitsOf l k by unfold wb; rw [hs])
    have HK := hid (show k < 2 ^ l by omega)
    clear hs hm g3
    go_enter Tryd.func40, Tryd.ntmps40
    repeat' (first
      | ((with_reducible apply gt9 _ (.call ⟨.value (.func 41), _, _⟩)); refine wpl_call (f := 41) Tryd.call41 (by kernel_rfl) ?_; refine ⟨_, (put_any W _ _ _ g2 bs l k hS (.tail hp3) (by omega) HK.out (by omega)), ?_⟩; clear hS; rintro e w ⟨rfl, hS⟩; refine ⟨_, rfl, ?_⟩; refine put_move ?_; go_step) | ((with_reducible apply gt9 _ (.move _)); (first | go_big_want | go_step); go_step) | ((with_reducible apply gt9 _ (.assign _)); (first | go_big_want | go_step); go_step) | ((with_reducible apply gt9 _ (.nilCheck _)); (refine wvv9 (V.nilCheck rfl) ?_; go_step)) | ((with_reducible apply gt9 _ (.fieldAddr 125 _ 0)); (refine wvv9 (V.fieldAddr fo125_0 rfl nq9) ?_; go_step)) | ((with_reducible apply gt9 _ (.extract _ _)); (refine wvv9 (V.extract rfl rfl) ?_; go_step)) | ((with_reducible apply gt9 _ (.fieldAddr 91 _ 1)); (refine wvv9 (V.fieldAddr fo91_1 rfl nq9) ?_; go_step)) | ((with_reducible apply gt9 _ (.fieldAddr 91 _ 2)); (refine wvv9 (V.fieldAddr fo91_2 rfl nq9) ?_; go_step)) | ((with_reducible apply gt9 _ (.load 122 _)); (refine wpl (by kernel_rfl) ?_; apply wp_load1 hS 122 _ rfl _ _ rfl (one_of rfl) _; (case hp => exact pl9); (case hc => rfl); refine put_move ?_; go_step)) | ((with_reducible apply gt9 (some 15) (.lookup 122 _ _ _)); (refine wpl (by kernel_rfl) ?_; apply wp_lookupS2 (enc := ik) hS 122 _ _ rfl _ rfl _ rfl Tryd.underlying122 (keyLaw_int Tryd.underlying3) (.agg #[.int .i64 0, .int .i64 0, .int .i64 0]) (fun w => Tryd.zeroValue91 w) _; (case hp => exact pl9); (case hf => with_reducible assumption); refine put_move ?_; go_step)) | ((with_reducible apply gt9 (some 7) (.alloc 91)); (refine wpl (by kernel_rfl) ?_; apply wp_alloc (o := ⟨some 7, _, _, _, _, _⟩) hS 91 rfl (.agg #[.int .i64 0, .int .i64 0, .int .i64 0]) [.int .i64 0, .int .i64 0, .int .i64 0] (fun w => Tryd.zeroValue91 w) rfl; clear hS; intro g7 w hS; refine put_move ?_; go_step)) | ((with_reducible apply gt9 _ (.store 91 _ _)); (refine wpl (by kernel_rfl) ?_; apply wp_storeG hS 91 _ _ rfl _ rfl 3 (row_of rfl) _ _; (case hp => exact pl9); (case hy => rfl); (case hn => rfl); (case hn' => rfl); (case hv => rfl); (case hd => exact rfl); clear hS; intro w hS)) | ((with_reducible apply gt9 _ (.load 3 _)); (refine wpl (by kernel_rfl) ?_; apply wp_load1 hS 3 _ rfl _ _ rfl (one_of rfl) _; (case hp => exact pl9); (case hc => rfl); refine put_move ?_; go_step)) | ((fail_if_success with_reducible apply ga9); go_step))
    go_ret
    refine ⟨rfl, St.close (m1, m2) ?_⟩
    rw [HB.out]
    exact hS.sub sb9
/-- What Get gives from bit i on, if the first d bits are no word. -/
def gtW (L : List (Int × Nat × Nat)) (l : List Nat) (i : Nat) : Nat → Nat → Int × Int × Nat
  | 0, d => (0, 4, i + d)
  | f + 1, d => if 8 * l.length < i + (d + 1) then (0, 3, i + d) else match codW L (((d + 1 : Nat) : Int), (numAt l i (d + 1) : Int)) with
    | some s => (s, 0, i + (d + 1))
    | none => gtW L l i f (d + 1)
theorem numAt_cat (l : List Nat) (i d : Nat) (h : i + d < 8 * l.length) : numAt l i (d + 1) = 2 * numAt l i d + numAt l (i + d) 1 := by
  rw [numAt_succ l i d h]
  congr 1
  have := numAt_succ l (i + d) 0 (by omega)
  rw [Nat.zero_add] at this
  rw [this, show numAt l (i + d) 0 = 0 by unfold numAt; rw [List.take_zero]; rfl]; simp
set_option maxRecDepth 100000 in
set_option maxHeartbeats 4000000 in
theorem codGet_any (W w0 : World) (rs rs' rs2 : List Res) (g g2 n c i : Nat) (ad : Option Addr) (L : List (Int × Nat × Nat)) (l : List Nat) (hS : St W w0 rs) (hp : Pull (cod g L) rs rs') (hp2 : Pull (rd g2 ad n c i) rs' rs2)
    (hv : Sl W 1 (.slice ad n c) n (l.map fun (x : Nat) => Value.int .u8 (x : Int))) (hl : ∀ x ∈ l, x < 256) (hn : n ≤ 1000000000000000000) (hi : i ≤ 8 * n) :
    Calls Tryd.prog 131 #[.pointer (some ⟨g, 0, none⟩), .pointer (some ⟨g2, 0, none⟩)] w0 fun e w => e = .returned (.tuple #[.int .i64 (gtW L l i 16 0).1, .int .i64 (gtW L l i 16 0).2.1]) ∧ (gtW L l i 16 0).2.2 ≤ 8 * n ∧ St W w (cod g L :: rd g2 ad n c (gtW L l i 16 0).2.2 :: rs2) := by
  have hll : l.length = n := by have := hv.1; simpa using this
  obtain ⟨⟨m1, m2⟩, hS⟩ := (hS.pull hp).open
  dsimp only [List.cons_append, List.nil_append] at hS
  have hp3 : Pull (rd g2 ad n c i) (blk g [.map (some m1), .map (some m2)] :: mp ik m1 (symF L) :: mp pk m2 (codF L) :: rs') (blk g [.map (some m1), .map (some m2)] :: mp ik m1 (symF L) :: mp pk m2 (codF L) :: rs2) := .tail (.tail (.tail hp2))
  replace hS := hS.pull hp3
  have HLt := hid hl
  have HLl := hid hll
  clear hl hll hp hp2 hp3
  obtain ⟨R, hR⟩ : ∃ R, gtW L l i 16 0 = R := ⟨_, rfl⟩
  rw [hR]
  have HR := hid hR
  clear hR
  go_enter Tryd.func131, Tryd.ntmps131
  repeat' (first
    | ((with_reducible apply gt9 _ (.assign _)); (first | go_big_want | go_step); go_step) | ((fail_if_success with_reducible apply ga9); go_step))
  go_loopg [6, 7] 16 (fun gk cv kv w => ∃ d : Nat, gk + d = 16 ∧ kv = .int .i64 ((d : Int) + 1) ∧ cv = .int .i64 (numAt l i d : Nat) ∧ i + d ≤ 8 * n ∧ Hid (gtW L l i gk d = R) ∧ St W w (rd g2 ad n c (i + d) :: blk g [.map (some m1), .map (some m2)] :: mp ik m1 (symF L) :: mp pk m2 (codF L) :: rs2))
  case atStart => exact ⟨0, rfl, rfl, by rw [show numAt l i 0 = 0 by unfold numAt; rw [List.take_zero]; rfl]; rfl, hi, HR, hS⟩
  case round =>
    clear hS
    obtain ⟨d, hd, rfl, rfl, hid2, HG, hS⟩ := hrel
    by_cases hlt : d < 16
    · obtain ⟨gk', rfl⟩ : ∃ k, gk = k + 1 := ⟨gk - 1, by omega⟩
      have hg := HG.out
      rw [gtW, HLl.out] at hg
      by_cases hsh : 8 * n < i + d + 1
      · rw [if_pos (by omega)] at hg
        have HG2 := hid hg
        clear hg HG
        repeat' (first
          | ((with_reducible apply gt9 (some 18) _); refine wpl_call (f := 51) Tryd.call51 (by kernel_rfl) ?_; refine ⟨_, (get_any W _ _ _ g2 n c (i + d) 1 ad l hS pl9 hv HLt.out hn hid2 (by omega)), ?_⟩; rintro e w ⟨hG, _⟩; obtain ⟨rfl, hS2⟩ := hG (by omega); clear hG hS; have hS := hS2; clear hS2; refine ⟨_, rfl, ?_⟩; refine put_move ?_; go_step) | ((with_reducible apply gt9 _ (.move _)); (first | go_big_want | go_step); go_step) | ((with_reducible apply gt9 _ (.assign _)); (first | go_big_want | go_step); go_step) | ((with_reducible apply gt9 _ (.binOp .leq _ _ _ _)); (refine wvv9 (V.leq rfl rfl) ?_; go_step)) | ((with_reducible apply gt9 _ (.extract _ _)); (refine wvv9 (V.extract rfl rfl) ?_; go_step)) | ((with_reducible apply gt9 _ (.unOp .not _ _)); (refine wvv9 (V.not rfl) ?_; go_step)) | ((fail_if_success with_reducible apply ga9); go_step))
        refine ret_all (xs := [_, _]) rfl (.cons (OneRes.tmp rfl) (.cons (OneRes.tmp rfl) (.nil))) (by simp) rfl ?_
        rw [← HG2.out]
        refine ⟨rfl, hid2, St.close (m1, m2) ?_⟩
        exact hS.sub sb9
      · rw [if_neg (by omega)] at hg
        have HCat := hid (numAt_cat l i d (by rw [HLl.out]; omega))
        have hb1 : numAt l (i + d) 1 < 2 := numAt_lt l (i + d) 1
        have hN : numAt l i d < 65536 := Nat.lt_of_lt_of_le (numAt_lt l i d) (Nat.pow_le_pow_right (n := 2) (j := 16) (by omega) (by omega))
        obtain ⟨N1, hN1⟩ : ∃ x, numAt l i (d + 1) = x := ⟨_, rfl⟩
        rw [hN1] at hg HCat
        have HN1 := hid hN1
        clear hN1
        have HOr := hid (or_bit2 (numAt l i d) (numAt l (i + d) 1) (by omega) hb1)
        rw [← HCat.out] at HOr
        cases hc : codW L (((d + 1 : Nat) : Int), (N1 : Int)) with
        | some s =>
          rw [hc] at hg
          dsimp only at hg
          have HG2 := hid hg
          have hf : codF L ((d : Int) + 1, (N1 : Int)) = some (.int .i64 s) := by
            unfold codF; rw [show (d : Int) + 1 = ((d + 1 : Nat) : Int) by omega, hc]; rfl
          clear hg HG hc
          repeat' (first
            | ((with_reducible apply gt9 (some 18) _); refine wpl_call (f := 51) Tryd.call51 (by kernel_rfl) ?_; refine ⟨_, (get_any W _ _ _ g2 n c (i + d) 1 ad l hS pl9 hv HLt.out hn hid2 (by omega)), ?_⟩; rintro e w ⟨_, hG⟩; obtain ⟨rfl, hS2⟩ := hG (by omega); clear hG hS; have hS := hS2; clear hS2; refine ⟨_, rfl, ?_⟩; refine put_move ?_; go_step) | ((with_reducible apply gt9 (some 26) (.binOp .or _ _ _ _)); (refine wplV (.int _ (((N1 : Nat) : Int))) (V.as (V.or rfl rfl) (by exact HOr.out)) rfl ?_; go_step)) | ((with_reducible apply gt9 _ (.move _)); (first | go_big_want | go_step); go_step) | ((with_reducible apply gt9 _ (.assign _)); (first | go_big_want | go_step); go_step) | ((with_reducible apply gt9 _ (.binOp .leq _ _ _ _)); (refine wvv9 (V.leq rfl rfl) ?_; go_step)) | ((with_reducible apply gt9 _ (.extract _ _)); (refine wvv9 (V.extract rfl rfl) ?_; go_step)) | ((with_reducible apply gt9 _ (.unOp .not _ _)); (refine wvv9 (V.not rfl) ?_; go_step)) | ((with_reducible apply gt9 _ (.binOp .shl _ _ _ _)); (refine wvv9 (V.shlI rfl rfl isn9 (by omega) (by omega)) ?_; go_step)) | ((with_reducible apply gt9 _ (.nilCheck _)); (refine wvv9 (V.nilCheck rfl) ?_; go_step)) | ((with_reducible apply gt9 _ (.fieldAddr 125 _ 1)); (refine wvv9 (V.fieldAddr fo125_1 rfl nq9) ?_; go_step)) | ((with_reducible apply gt9 (some 34) (.build 154 _)); (refine wvv9 (V.build (vs := [(0, _), (1, _)]) rfl (bl154_0_1 _ _)) ?_; go_step)) | ((with_reducible apply gt9 _ (.load 123 _)); (refine wpl (by kernel_rfl) ?_; apply wp_load1 hS 123 _ rfl _ _ rfl (one_of rfl) _; (case hp => exact pl9); (case hc => rfl); refine put_move ?_; go_step)) | ((with_reducible apply gt9 (some 35) (.lookup 123 _ _ _)); (refine wpl (by kernel_rfl) ?_; apply wp_lookupS2 (enc := pk) hS 123 _ _ rfl _ rfl (_, _) rfl Tryd.underlying123 (keyLaw_pair Tryd.underlying154 Tryd.underlying3 isz3) (.int .i64 0) (fun w => Tryd.zeroValue3 w) _; (case hp => exact pl9); (case hf => with_reducible assumption); refine put_move ?_; go_step)) | ((fail_if_success with_reducible apply ga9); go_step))
          refine ret_all (xs := [_, _]) rfl (.cons (OneRes.tmp rfl) (.cons (OneRes.tmp rfl) (.nil))) (by simp) rfl ?_
          rw [← HG2.out]
          refine ⟨rfl, by show i + (d + 1) ≤ 8 * n; omega, St.close (m1, m2) ?_⟩
          dsimp only
          rw [show i + d + 1 = i + (d + 1) by omega] at hS
          exact hS.sub sb9
        | none =>
          rw [hc] at hg
          dsimp only at hg
          have HG2 := hid hg
          have hf : codF L ((d : Int) + 1, (N1 : Int)) = none := by
            unfold codF; rw [show (d : Int) + 1 = ((d + 1 : Nat) : Int) by omega, hc]; rfl
          clear hg HG hc
          repeat' (first
            | ((with_reducible apply gt9 (some 18) _); refine wpl_call (f := 51) Tryd.call51 (by kernel_rfl) ?_; refine ⟨_, (get_any W _ _ _ g2 n c (i + d) 1 ad l hS pl9 hv HLt.out hn hid2 (by omega)), ?_⟩; rintro e w ⟨_, hG⟩; obtain ⟨rfl, hS2⟩ := hG (by omega); clear hG hS; have hS := hS2; clear hS2; refine ⟨_, rfl, ?_⟩; refine put_move ?_; go_step) | ((with_reducible apply gt9 (some 26) (.binOp .or _ _ _ _)); (refine wplV (.int _ (((N1 : Nat) : Int))) (V.as (V.or rfl rfl) (by exact HOr.out)) rfl ?_; go_step)) | ((with_reducible apply gt9 _ (.move _)); (first | go_big_want | go_step); go_step) | ((with_reducible apply gt9 _ (.assign _)); (first | go_big_want | go_step); go_step) | ((with_reducible apply gt9 _ (.binOp .leq _ _ _ _)); (refine wvv9 (V.leq rfl rfl) ?_; go_step)) | ((with_reducible apply gt9 _ (.binOp .add _ _ _ _)); (refine wvv9 (V.addI rfl rfl (by omega)) ?_; go_step)) | ((with_reducible apply gt9 _ (.extract _ _)); (refine wvv9 (V.extract rfl rfl) ?_; go_step)) | ((with_reducible apply gt9 _ (.unOp .not _ _)); (refine wvv9 (V.not rfl) ?_; go_step)) | ((with_reducible apply gt9 _ (.binOp .shl _ _ _ _)); (refine wvv9 (V.shlI rfl rfl isn9 (by omega) (by omega)) ?_; go_step)) | ((with_reducible apply gt9 _ (.nilCheck _)); (refine wvv9 (V.nilCheck rfl) ?_; go_step)) | ((with_reducible apply gt9 _ (.fieldAddr 125 _ 1)); (refine wvv9 (V.fieldAddr fo125_1 rfl nq9) ?_; go_step)) | ((with_reducible apply gt9 (some 34) (.build 154 _)); (refine wvv9 (V.build (vs := [(0, _), (1, _)]) rfl (bl154_0_1 _ _)) ?_; go_step)) | ((with_reducible apply gt9 _ (.load 123 _)); (refine wpl (by kernel_rfl) ?_; apply wp_load1 hS 123 _ rfl _ _ rfl (one_of rfl) _; (case hp => exact pl9); (case hc => rfl); refine put_move ?_; go_step)) | ((with_reducible apply gt9 (some 35) (.lookup 123 _ _ _)); (refine wpl (by kernel_rfl) ?_; apply wp_lookupN2 (enc := pk) hS 123 _ _ rfl _ rfl (_, _) rfl Tryd.underlying123 (keyLaw_pair Tryd.underlying154 Tryd.underlying3 isz3) (.int .i64 0) (fun w => Tryd.zeroValue3 w) _; (case hp => exact pl9); (case hf => with_reducible assumption); refine put_move ?_; go_step)) | ((fail_if_success with_reducible apply ga9); go_step))
          go_roundg gk'
          case measure => omega
          case rel => exact ⟨d + 1, by omega, by go_num, by rw [HN1.out], by omega, HG2, (by rw [show i + d + 1 = i + (d + 1) by omega] at hS; exact hS.sub sb9)⟩
    · obtain rfl : d = 16 := by omega
      obtain rfl : gk = 0 := by omega
      have hg := HG.out
      rw [gtW] at hg
      have HG2 := hid hg
      clear hg HG
      repeat' (first
        | ((with_reducible apply gt9 _ (.move _)); (first | go_big_want | go_step); go_step) | ((with_reducible apply gt9 _ (.assign _)); (first | go_big_want | go_step); go_step) | ((with_reducible apply gt9 _ (.binOp .leq _ _ _ _)); (refine wvv9 (V.leq rfl rfl) ?_; go_step)) | ((fail_if_success with_reducible apply ga9); go_step))
      refine ret_all (xs := [_, _]) rfl (.cons (OneRes.tmp rfl) (.cons (OneRes.tmp rfl) (.nil))) (by simp) rfl ?_
      rw [← HG2.out]
      refine ⟨rfl, hid2, St.close (m1, m2) ?_⟩
      exact hS.sub sb9
end Go.Proofs.YtehbjhocgnfpmaaDoor
