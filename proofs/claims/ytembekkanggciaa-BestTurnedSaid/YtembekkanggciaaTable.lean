/- The walks of tables: total, Check, words, Words. -/
import Derived.Test.YtembekkanggciaaTableMath
import Derived.Test.YtembekkanggciaaMap2
import Derived.Test.YtembekkanggciaaTy4
namespace Go.Proofs.Ytembekkanggciaa
open Go.RowKit
set_option linter.unusedVariables false
theorem bl37_0_1_2 (m0 : Int) (m1 : Int) (m2 : Int) (w : World) : (Instr.build 37 #[(0, .int .i64 m0), (1, .int .i64 m1), (2, .int .i64 m2)]).run Try.prog w = .ok (.agg #[.int .i64 m0, .int .i64 m1, .int .i64 m2]) w := by kernel_rfl
/-- A table, as a value. -/
abbrev tv (C : List Int) (v : Value) : Value := .agg (pcells [.ints C, .val v]).toArray
theorem cc_int (C : List Int) (k : Nat) (h : 0 ≤ nth C k) : nth C k = ((cc C k : Nat) : Int) := by unfold cc; omega
theorem ret2_bool {a : Value} {x y : Bool} (h : x = y) : Ending.returned (.tuple #[a, .bool x]) = .returned (.tuple #[a, .bool y]) := by rw [h]
set_option maxRecDepth 100000 in
theorem total_yes (w0 : World) (C : List Int) (v : Value) (hC : Len C 16) (h : totOk C = true) : Calls Try.prog 30 #[tv C v] w0 fun e w => e = .returned (.tuple #[.int .i64 (sm (cc C) 16 : Nat), .bool true]) ∧ Ext w0 w := by
  obtain ⟨hb, h16⟩ := (totOk_iff C).1 h
  have HB := hid hb
  clear hb h
  have hS := St.start w0
  go_enter Try.func30, Try.ntmps30
  repeat' (first
    | ((with_reducible show wpList _ _ _ (⟨_, .move _, _, _, _, _⟩ :: _) _ _); (first | go_big_want | go_step); go_step)
    | ((with_reducible show wpList _ _ _ (⟨_, .assign _, _, _, _, _⟩ :: _) _ _); (first | go_big_want | go_step); go_step)
    | ((with_reducible show wpList _ _ _ (⟨_, .fieldAddr 25 _ 0, _, _, _, _⟩ :: _) _ _); (refine wplV _ (V.fieldAddr fo25_0 rfl (by first | with_reducible exact Nat.zero_add _ | with_reducible exact Nat.add_zero _ | exact rfl)) (by kernel_rfl) ?_; go_step))
    | ((with_reducible show wpList _ _ _ (⟨some 1, .box 25 _, _, _, _, _⟩ :: _) _ _); (refine wpl (by kernel_rfl) ?_; apply wp_boxP (o := ⟨some 1, _, _, _, _, _⟩) hS 25 _ rfl _ rfl; clear hS; intro g1 w hS; refine put_move ?_; go_step))
    | ((with_reducible show wpList _ _ _ (⟨_, .load 22 _, _, _, _, _⟩ :: _) _ _); (refine wpl (by kernel_rfl) ?_; apply wp_loadRP hS 22 _ rfl _ _ rfl 16 (row_of rfl) _; (case hp => (repeat (first | with_reducible exact Pull.head | apply Pull.tail))); (case hi => (repeat (first | (apply AtR.head; (first | (with_reducible assumption) | exact Len.rep | exact Len.set (by with_reducible assumption) | exact Len.set Len.rep | exact Len.set (Len.set Len.rep))) | (apply AtR.skipI; (case hn => (first | (with_reducible assumption) | exact Len.rep | exact Len.set (by with_reducible assumption) | exact Len.set Len.rep | exact Len.set (Len.set Len.rep))); (case h => omega); (case ho => rfl)) | apply AtR.skipV))); refine put_move ?_; go_step))
    | ((fail_if_success (with_reducible show wpList _ _ _ (_ :: _) _ _)); go_step))
  go_loopg [4, 9] 16 (fun gk av kv w => ∃ k : Nat, gk + k = 16 ∧ kv = .int .i64 k ∧ av = .int .i64 (sm (cc C) k : Nat) ∧ sm (cc C) k ≤ 256 * k ∧ St w0 w [])
  case atStart => exact ⟨0, rfl, rfl, rfl, by simp [sm], hS.sub (by (repeat (first | exact Sub.nil | with_reducible exact Sub.refl | (apply Sub.cons; (case p => (repeat (first | with_reducible exact Pull.head | apply Pull.tail)))) | apply Sub.skip)))⟩
  case round =>
    clear hS
    obtain ⟨k, hk, rfl, rfl, hs, hS⟩ := hrel
    by_cases hlt : k < 16
    · have hx := HB.out k hlt
      have hsm := hid (show sm (cc C) (k + 1) = sm (cc C) k + cc C k from rfl)
      have hci := cc_int C k hx.1
      obtain ⟨y, hy⟩ : ∃ y, cc C k = y := ⟨_, rfl⟩
      rw [hy] at hci hsm
      obtain ⟨x, hxe⟩ : ∃ x, nth C k = x := ⟨_, rfl⟩
      have HX := hid hxe
      rw [hxe] at hci hx
      subst hci
      clear hxe hy
      repeat' (first
        | ((with_reducible show wpList _ _ _ (⟨some 11, _, _, _, _, _⟩ :: _) _ _); refine wplV (.int .i64 ((y : Nat) : Int)) (V.as (V.indexIv Try.underlying22 Try.underlying3 isz3 rfl rfl hC IsN.cast (by omega)) HX.out) (by kernel_rfl) ?_; go_step)
        | ((with_reducible show wpList _ _ _ (⟨_, .move _, _, _, _, _⟩ :: _) _ _); (first | go_big_want | go_step); go_step)
        | ((with_reducible show wpList _ _ _ (⟨_, .assign _, _, _, _, _⟩ :: _) _ _); (first | go_big_want | go_step); go_step)
        | ((with_reducible show wpList _ _ _ (⟨_, .pick _ _ _, _, _, _, _⟩ :: _) _ _); (refine wplPickF rfl (by kernel_rfl) ?_; go_step))
        | ((with_reducible show wpList _ _ _ (⟨some 13, .binOp .lss _ _ _ _, _, _, _, _⟩ :: _) _ _); (refine wplD _ (V.lss rfl rfl) (by kernel_rfl) (fun hB => ?_) (fun hB => ?_) <;> (try (have hF : False := (by omega); cases hF)) <;> go_step))
        | ((with_reducible show wpList _ _ _ (⟨_, .binOp .lss _ _ _ _, _, _, _, _⟩ :: _) _ _); (refine wplV _ (V.lss rfl rfl) (by kernel_rfl) ?_; go_step))
        | ((with_reducible show wpList _ _ _ (⟨_, .binOp .gtr _ _ _ _, _, _, _, _⟩ :: _) _ _); (refine wplV _ (V.gtr rfl rfl) (by kernel_rfl) ?_; go_step))
        | ((with_reducible show wpList _ _ _ (⟨_, .binOp .add _ _ _ _, _, _, _, _⟩ :: _) _ _); (refine wplV _ (V.addI rfl rfl (by omega)) (by kernel_rfl) ?_; go_step))
        | ((fail_if_success (with_reducible show wpList _ _ _ (_ :: _) _ _)); go_step))
      go_roundg (gk - 1)
      case measure => omega
      case rel => exact ⟨k + 1, by omega, by go_num, by rw [hsm.out]; go_num, by rw [hsm.out]; omega, hS⟩
    · obtain rfl : k = 16 := by omega
      repeat' (first
        | ((with_reducible show wpList _ _ _ (⟨_, .move _, _, _, _, _⟩ :: _) _ _); (first | go_big_want | go_step); go_step)
        | ((with_reducible show wpList _ _ _ (⟨_, .assign _, _, _, _, _⟩ :: _) _ _); (first | go_big_want | go_step); go_step)
        | ((with_reducible show wpList _ _ _ (⟨_, .binOp .lss _ _ _ _, _, _, _, _⟩ :: _) _ _); (refine wplV _ (V.lss rfl rfl) (by kernel_rfl) ?_; go_step))
        | ((with_reducible show wpList _ _ _ (⟨_, .binOp .leq _ _ _ _, _, _, _, _⟩ :: _) _ _); (refine wplV _ (V.leq rfl rfl) (by kernel_rfl) ?_; go_step))
        | ((fail_if_success (with_reducible show wpList _ _ _ (_ :: _) _ _)); go_step))
      refine ret_all (xs := [_, _]) rfl (.cons (OneRes.tmp rfl) (.cons (OneRes.tmp rfl) (.nil))) (by simp) rfl ?_
      exact ⟨ret2_bool (decide_eq_true (by omega)), hS.1⟩
set_option maxRecDepth 100000 in
theorem total_no (w0 : World) (C : List Int) (v : Value) (hC : Len C 16) (h : totOk C = false) : Calls Try.prog 30 #[tv C v] w0 fun e w => ∃ z, e = .returned (.tuple #[.int .i64 z, .bool false]) ∧ Ext w0 w := by
  have hb : ¬ ((∀ k, k < 16 → 0 ≤ nth C k ∧ nth C k ≤ 256) ∧ sm (cc C) 16 ≤ 256) := by rw [← totOk_iff, h]; simp
  have HB := hid hb
  clear hb h
  have hS := St.start w0
  go_enter Try.func30, Try.ntmps30
  repeat' (first
    | ((with_reducible show wpList _ _ _ (⟨_, .move _, _, _, _, _⟩ :: _) _ _); (first | go_big_want | go_step); go_step)
    | ((with_reducible show wpList _ _ _ (⟨_, .assign _, _, _, _, _⟩ :: _) _ _); (first | go_big_want | go_step); go_step)
    | ((with_reducible show wpList _ _ _ (⟨_, .fieldAddr 25 _ 0, _, _, _, _⟩ :: _) _ _); (refine wplV _ (V.fieldAddr fo25_0 rfl (by first | with_reducible exact Nat.zero_add _ | with_reducible exact Nat.add_zero _ | exact rfl)) (by kernel_rfl) ?_; go_step))
    | ((with_reducible show wpList _ _ _ (⟨some 1, .box 25 _, _, _, _, _⟩ :: _) _ _); (refine wpl (by kernel_rfl) ?_; apply wp_boxP (o := ⟨some 1, _, _, _, _, _⟩) hS 25 _ rfl _ rfl; clear hS; intro g1 w hS; refine put_move ?_; go_step))
    | ((with_reducible show wpList _ _ _ (⟨_, .load 22 _, _, _, _, _⟩ :: _) _ _); (refine wpl (by kernel_rfl) ?_; apply wp_loadRP hS 22 _ rfl _ _ rfl 16 (row_of rfl) _; (case hp => (repeat (first | with_reducible exact Pull.head | apply Pull.tail))); (case hi => (repeat (first | (apply AtR.head; (first | (with_reducible assumption) | exact Len.rep | exact Len.set (by with_reducible assumption) | exact Len.set Len.rep | exact Len.set (Len.set Len.rep))) | (apply AtR.skipI; (case hn => (first | (with_reducible assumption) | exact Len.rep | exact Len.set (by with_reducible assumption) | exact Len.set Len.rep | exact Len.set (Len.set Len.rep))); (case h => omega); (case ho => rfl)) | apply AtR.skipV))); refine put_move ?_; go_step))
    | ((fail_if_success (with_reducible show wpList _ _ _ (_ :: _) _ _)); go_step))
  go_loopg [4, 9] 16 (fun gk av kv w => ∃ k : Nat, gk + k = 16 ∧ kv = .int .i64 k ∧ av = .int .i64 (sm (cc C) k : Nat) ∧ Hid (∀ j, j < k → 0 ≤ nth C j ∧ nth C j ≤ 256) ∧ sm (cc C) k ≤ 256 * k ∧ St w0 w [])
  case atStart => exact ⟨0, rfl, rfl, rfl, hid (fun j hj => absurd hj (by omega)), by simp [sm], hS.sub (by (repeat (first | exact Sub.nil | with_reducible exact Sub.refl | (apply Sub.cons; (case p => (repeat (first | with_reducible exact Pull.head | apply Pull.tail)))) | apply Sub.skip)))⟩
  case round =>
    clear hS
    obtain ⟨k, hk, rfl, rfl, HA, hs, hS⟩ := hrel
    by_cases hlt : k < 16
    · have hsm := hid (show sm (cc C) (k + 1) = sm (cc C) k + cc C k from rfl)
      by_cases hx : 0 ≤ nth C k ∧ nth C k ≤ 256
      · have hci := cc_int C k hx.1
        have HA2 : Hid (∀ j, j < k + 1 → 0 ≤ nth C j ∧ nth C j ≤ 256) := hid fun j hj => by
          by_cases hjk : j < k
          · exact HA.out j hjk
          · obtain rfl : j = k := by omega
            exact hx
        obtain ⟨y, hy⟩ : ∃ y, cc C k = y := ⟨_, rfl⟩
        rw [hy] at hci hsm
        obtain ⟨x, hxe⟩ : ∃ x, nth C k = x := ⟨_, rfl⟩
        have HX := hid hxe
        rw [hxe] at hci hx
        subst hci
        clear hxe hy
        repeat' (first
          | ((with_reducible show wpList _ _ _ (⟨some 11, _, _, _, _, _⟩ :: _) _ _); refine wplV (.int .i64 ((y : Nat) : Int)) (V.as (V.indexIv Try.underlying22 Try.underlying3 isz3 rfl rfl hC IsN.cast (by omega)) HX.out) (by kernel_rfl) ?_; go_step)
          | ((with_reducible show wpList _ _ _ (⟨_, .move _, _, _, _, _⟩ :: _) _ _); (first | go_big_want | go_step); go_step)
          | ((with_reducible show wpList _ _ _ (⟨_, .assign _, _, _, _, _⟩ :: _) _ _); (first | go_big_want | go_step); go_step)
          | ((with_reducible show wpList _ _ _ (⟨_, .pick _ _ _, _, _, _, _⟩ :: _) _ _); (refine wplPickF rfl (by kernel_rfl) ?_; go_step))
          | ((with_reducible show wpList _ _ _ (⟨some 13, .binOp .lss _ _ _ _, _, _, _, _⟩ :: _) _ _); (refine wplD _ (V.lss rfl rfl) (by kernel_rfl) (fun hB => ?_) (fun hB => ?_) <;> (try (have hF : False := (by omega); cases hF)) <;> go_step))
          | ((with_reducible show wpList _ _ _ (⟨_, .binOp .lss _ _ _ _, _, _, _, _⟩ :: _) _ _); (refine wplV _ (V.lss rfl rfl) (by kernel_rfl) ?_; go_step))
          | ((with_reducible show wpList _ _ _ (⟨_, .binOp .gtr _ _ _ _, _, _, _, _⟩ :: _) _ _); (refine wplV _ (V.gtr rfl rfl) (by kernel_rfl) ?_; go_step))
          | ((with_reducible show wpList _ _ _ (⟨_, .binOp .add _ _ _ _, _, _, _, _⟩ :: _) _ _); (refine wplV _ (V.addI rfl rfl (by omega)) (by kernel_rfl) ?_; go_step))
          | ((fail_if_success (with_reducible show wpList _ _ _ (_ :: _) _ _)); go_step))
        go_roundg (gk - 1)
        case measure => omega
        case rel => exact ⟨k + 1, by omega, by go_num, by rw [hsm.out]; go_num, HA2, by rw [hsm.out]; omega, hS⟩
      · obtain ⟨x, hxe⟩ : ∃ x, nth C k = x := ⟨_, rfl⟩
        have HX := hid hxe
        rw [hxe] at hx
        have hx2 : x < 0 ∨ 256 < x := by omega
        clear hxe hx
        repeat' (first
          | ((with_reducible show wpList _ _ _ (⟨some 11, _, _, _, _, _⟩ :: _) _ _); refine wplV (.int .i64 x) (V.as (V.indexIv Try.underlying22 Try.underlying3 isz3 rfl rfl hC IsN.cast (by omega)) HX.out) (by kernel_rfl) ?_; go_step)
          | go_big_skip
          | ((with_reducible show wpList _ _ _ (⟨_, .move _, _, _, _, _⟩ :: _) _ _); (first | go_big_want | go_step); go_step)
          | ((with_reducible show wpList _ _ _ (⟨_, .assign _, _, _, _, _⟩ :: _) _ _); (first | go_big_want | go_step); go_step)
          | ((with_reducible show wpList _ _ _ (⟨_, .pick _ _ _, _, _, _, _⟩ :: _) _ _); first | (refine wplPickT rfl (by kernel_rfl) ?_; go_step) | (refine wplPickF rfl (by kernel_rfl) ?_; go_step))
          | ((with_reducible show wpList _ _ _ (⟨some 13, .binOp .lss _ _ _ _, _, _, _, _⟩ :: _) _ _); (refine wplD _ (V.lss rfl rfl) (by kernel_rfl) (fun hB => ?_) (fun hB => ?_) <;> (try (have hF : False := (by omega); cases hF)) <;> go_step))
          | ((with_reducible show wpList _ _ _ (⟨_, .binOp .lss _ _ _ _, _, _, _, _⟩ :: _) _ _); (refine wplV _ (V.lss rfl rfl) (by kernel_rfl) ?_; go_step))
          | ((with_reducible show wpList _ _ _ (⟨_, .binOp .gtr _ _ _ _, _, _, _, _⟩ :: _) _ _); (refine wplV _ (V.gtr rfl rfl) (by kernel_rfl) ?_; go_step))
          | ((fail_if_success (with_reducible show wpList _ _ _ (_ :: _) _ _)); go_step))
        all_goals
          refine ret_all (xs := [_, _]) rfl (.cons (OneRes.tmp rfl) (.cons (OneRes.tmp rfl) (.nil))) (by simp) rfl ?_
          exact ⟨_, rfl, hS.1⟩
    · obtain rfl : k = 16 := by omega
      have hgt : 256 < sm (cc C) 16 := by
        have := HB.out
        have h2 := HA.out
        by_cases h3 : sm (cc C) 16 ≤ 256
        · exact absurd ⟨h2, h3⟩ this
        · omega
      repeat' (first
        | ((with_reducible show wpList _ _ _ (⟨_, .move _, _, _, _, _⟩ :: _) _ _); (first | go_big_want | go_step); go_step)
        | ((with_reducible show wpList _ _ _ (⟨_, .assign _, _, _, _, _⟩ :: _) _ _); (first | go_big_want | go_step); go_step)
        | ((with_reducible show wpList _ _ _ (⟨_, .binOp .lss _ _ _ _, _, _, _, _⟩ :: _) _ _); (refine wplV _ (V.lss rfl rfl) (by kernel_rfl) ?_; go_step))
        | ((with_reducible show wpList _ _ _ (⟨_, .binOp .leq _ _ _ _, _, _, _, _⟩ :: _) _ _); (refine wplV _ (V.leq rfl rfl) (by kernel_rfl) ?_; go_step))
        | ((fail_if_success (with_reducible show wpList _ _ _ (_ :: _) _ _)); go_step))
      refine ret_all (xs := [_, _]) rfl (.cons (OneRes.tmp rfl) (.cons (OneRes.tmp rfl) (.nil))) (by simp) rfl ?_
      exact ⟨_, ret2_bool (decide_eq_false (by omega)), hS.1⟩
/-- The symbols that have come, as a map. -/
def hasF (l : List Int) (s : Int) : Option Value := if s ∈ l then some (.bool true) else none
theorem hasF_snoc (S : List Int) (k : Nat) (hk : k < S.length) : (fun j => if j = nth S k then some (Value.bool true) else hasF (S.take k) j) = hasF (S.take (k + 1)) := by
  funext j
  have e : S.take (k + 1) = S.take k ++ [nth S k] := by rw [List.take_add_one, get_nth S k hk]; rfl
  unfold hasF
  rw [e]
  by_cases h : j = nth S k
  · simp [h]
  · simp [h]
theorem nth_mem (S : List Int) (k : Nat) (h : k < S.length) : nth S k ∈ S := List.mem_of_getElem? (get_nth S k h)
theorem nodup_snoc (S : List Int) (k : Nat) (hk : k < S.length) : (S.take (k + 1)).Nodup ↔ (S.take k).Nodup ∧ nth S k ∉ S.take k := by
  have e : S.take (k + 1) = S.take k ++ [nth S k] := by rw [List.take_add_one, get_nth S k hk]; rfl
  rw [e, List.nodup_append]
  constructor
  · intro h; exact ⟨h.1, fun hm => h.2.2 _ hm _ (by simp) rfl⟩
  · intro h; refine ⟨h.1, by simp, fun a ha b hb => ?_⟩
    simp only [List.mem_singleton] at hb
    subst hb
    intro e; subst e; exact h.2 ha
set_option maxRecDepth 100000 in
set_option maxHeartbeats 4000000 in
theorem check_any (w0 : World) (C S : List Int) (ad : Option Addr) (n c : Nat) (hC : Len C 16) (hv : Sl w0 1 (.slice ad n c) n (S.map (Value.int .i64))) (hn : n ≤ 9223372036854775807) :
    Calls Try.prog 23 #[tv C (.slice ad n c)] w0 fun e w => e = .returned (.int .i64 (tabE C S)) ∧ Ext w0 w := by
  have hSl : S.length = n := by have := hv.1; simpa using this
  have HSl := hid hSl
  clear hSl
  have hS := St.start w0
  by_cases ht : totOk C = true
  case neg =>
    have hE := hid (show tabE C S = 4 by unfold tabE; rw [if_neg (fun h => ht h.1)])
    have ht2 := hid (show totOk C = false by simpa using ht)
    clear ht
    go_enter Try.func23, Try.ntmps23
    repeat' (first
      | ((with_reducible show wpList _ _ _ (⟨_, .call ⟨.value (.func 30), _, _⟩, _, _, _, _⟩ :: _) _ _); refine wpl_call (f := 30) Try.call30 (by kernel_rfl) ?_; refine ⟨_, (total_no _ C _ hC ht2.out), ?_⟩; rintro e w ⟨z, rfl, hE2⟩; replace hS := hS.ext hE2; clear hE2; refine ⟨_, rfl, ?_⟩; refine put_move ?_; go_step)
      | go_skip
      | ((with_reducible show wpList _ _ _ (⟨_, .move _, _, _, _, _⟩ :: _) _ _); (first | go_big_want | go_step); go_step)
      | ((with_reducible show wpList _ _ _ (⟨_, .assign _, _, _, _, _⟩ :: _) _ _); (first | go_big_want | go_step); go_step)
      | ((with_reducible show wpList _ _ _ (⟨_, .pick _ _ _, _, _, _, _⟩ :: _) _ _); (refine wplPickT rfl (by kernel_rfl) ?_; go_step))
      | ((with_reducible show wpList _ _ _ (⟨some 18, .unOp .not _ _, _, _, _, _⟩ :: _) _ _); (refine wplB _ (V.not rfl) (by kernel_rfl) (fun hB => ?_) (fun hB => ?_) <;> (try (have hF : False := (absurd hB (by decide)); cases hF)) <;> go_step))
      | ((with_reducible show wpList _ _ _ (⟨_, .extract _ _, _, _, _, _⟩ :: _) _ _); (refine wplV _ (V.extract rfl rfl) (by kernel_rfl) ?_; go_step))
      | ((with_reducible show wpList _ _ _ (⟨some 1, .box 25 _, _, _, _, _⟩ :: _) _ _); (refine wpl (by kernel_rfl) ?_; apply wp_boxP (o := ⟨some 1, _, _, _, _, _⟩) hS 25 _ rfl _ rfl; clear hS; intro g1 w hS; refine put_move ?_; go_step))
      | ((with_reducible show wpList _ _ _ (⟨_, .load 25 _, _, _, _, _⟩ :: _) _ _); (refine wpl (by kernel_rfl) ?_; apply wp_loadPP hS 25 _ rfl _ _ rfl 17 (row_of rfl) _; (case hp => (repeat (first | with_reducible exact Pull.head | apply Pull.tail))); (case hi => (repeat (first | (apply AtP.head; (repeat (first | exact Pre.nil | (apply Pre.ints; (case hn => (first | (with_reducible assumption) | exact Len.rep | exact Len.set (by with_reducible assumption) | exact Len.set Len.rep | exact Len.set (Len.set Len.rep))); (case h => omega); (case hm => rfl)) | apply Pre.val))) | (apply AtP.skipI; (case hn => (first | (with_reducible assumption) | exact Len.rep | exact Len.set (by with_reducible assumption) | exact Len.set Len.rep | exact Len.set (Len.set Len.rep))); (case h => omega); (case ho => rfl)) | apply AtP.skipV))); refine put_move ?_; go_step))
      | ((fail_if_success (with_reducible show wpList _ _ _ (_ :: _) _ _)); go_step))
    refine ret_one rfl (OneRes.tmp rfl) rfl ?_
    exact ⟨(by rw [hE.out]; first | done | rfl), hS.1⟩
  have HT := hid ht
  clear ht
  by_cases hs : sm (cc C) 16 = n
  case neg =>
    have hE := hid (show tabE C S = 4 by unfold tabE; rw [if_neg (fun h => hs (h.2.trans HSl.out))])
    obtain ⟨t, ht⟩ : ∃ t, sm (cc C) 16 = t := ⟨_, rfl⟩
    rw [ht] at hs
    have HT2 := hid ht
    clear ht
    go_enter Try.func23, Try.ntmps23
    repeat' (first
      | ((with_reducible show wpList _ _ _ (⟨_, .call ⟨.value (.func 30), _, _⟩, _, _, _, _⟩ :: _) _ _); refine wpl_call (f := 30) Try.call30 (by kernel_rfl) ?_; refine ⟨_, (total_yes _ C _ hC HT.out), ?_⟩; rintro e w ⟨rfl, hE2⟩; rw [HT2.out]; replace hS := hS.ext hE2; clear hE2; refine ⟨_, rfl, ?_⟩; refine put_move ?_; go_step)
      | ((with_reducible show wpList _ _ _ (⟨_, .move _, _, _, _, _⟩ :: _) _ _); (first | go_big_want | go_step); go_step)
      | ((with_reducible show wpList _ _ _ (⟨_, .assign _, _, _, _, _⟩ :: _) _ _); (first | go_big_want | go_step); go_step)
      | ((with_reducible show wpList _ _ _ (⟨_, .pick _ _ _, _, _, _, _⟩ :: _) _ _); (refine wplPickF rfl (by kernel_rfl) ?_; go_step))
      | ((with_reducible show wpList _ _ _ (⟨some 18, .unOp .not _ _, _, _, _, _⟩ :: _) _ _); (refine wplB _ (V.not rfl) (by kernel_rfl) (fun hB => ?_) (fun hB => ?_) <;> (try (have hF : False := (absurd hB (by decide)); cases hF)) <;> go_step))
      | ((with_reducible show wpList _ _ _ (⟨_, .extract _ _, _, _, _, _⟩ :: _) _ _); (refine wplV _ (V.extract rfl rfl) (by kernel_rfl) ?_; go_step))
      | ((with_reducible show wpList _ _ _ (⟨_, .fieldAddr 25 _ 1, _, _, _, _⟩ :: _) _ _); (refine wplV _ (V.fieldAddr fo25_1 rfl (by first | with_reducible exact Nat.zero_add _ | with_reducible exact Nat.add_zero _ | exact rfl)) (by kernel_rfl) ?_; go_step))
      | ((with_reducible show wpList _ _ _ (⟨_, .call ⟨.builtin .len, _, _⟩, _, _, _, _⟩ :: _) _ _); (refine wplV _ (V.len Try.underlying23 rfl) (by kernel_rfl) ?_; go_step))
      | ((with_reducible show wpList _ _ _ (⟨_, .binOp .neq 3 _ _ _, _, _, _, _⟩ :: _) _ _); (refine wplV _ (V.neq rfl rfl) (by kernel_rfl) ?_; go_step))
      | ((with_reducible show wpList _ _ _ (⟨some 1, .box 25 _, _, _, _, _⟩ :: _) _ _); (refine wpl (by kernel_rfl) ?_; apply wp_boxP (o := ⟨some 1, _, _, _, _, _⟩) hS 25 _ rfl _ rfl; clear hS; intro g1 w hS; refine put_move ?_; go_step))
      | ((with_reducible show wpList _ _ _ (⟨_, .load 25 _, _, _, _, _⟩ :: _) _ _); (refine wpl (by kernel_rfl) ?_; apply wp_loadPP hS 25 _ rfl _ _ rfl 17 (row_of rfl) _; (case hp => (repeat (first | with_reducible exact Pull.head | apply Pull.tail))); (case hi => (repeat (first | (apply AtP.head; (repeat (first | exact Pre.nil | (apply Pre.ints; (case hn => (first | (with_reducible assumption) | exact Len.rep | exact Len.set (by with_reducible assumption) | exact Len.set Len.rep | exact Len.set (Len.set Len.rep))); (case h => omega); (case hm => rfl)) | apply Pre.val))) | (apply AtP.skipI; (case hn => (first | (with_reducible assumption) | exact Len.rep | exact Len.set (by with_reducible assumption) | exact Len.set Len.rep | exact Len.set (Len.set Len.rep))); (case h => omega); (case ho => rfl)) | apply AtP.skipV))); refine put_move ?_; go_step))
      | ((with_reducible show wpList _ _ _ (⟨_, .load 23 _, _, _, _, _⟩ :: _) _ _); (refine wpl (by kernel_rfl) ?_; apply wp_loadVP hS 23 _ rfl _ _ rfl (one_of rfl) _; (case hp => (repeat (first | with_reducible exact Pull.head | apply Pull.tail))); (case hi => (repeat (first | exact AtV.head | (apply AtV.skipI; (case hn => (first | (with_reducible assumption) | exact Len.rep | exact Len.set (by with_reducible assumption) | exact Len.set Len.rep | exact Len.set (Len.set Len.rep))); (case h => omega); (case ho => rfl)) | apply AtV.skipV))); refine put_move ?_; go_step))
      | ((fail_if_success (with_reducible show wpList _ _ _ (_ :: _) _ _)); go_step))
    refine ret_one rfl (OneRes.tmp rfl) rfl ?_
    exact ⟨(by rw [hE.out]; first | done | rfl), hS.1⟩
  have h256 : n ≤ 256 := by
    have := (totOk_iff C).1 HT.out
    omega
  have HS2 := hid hs
  have HE := hid (show tabE C S = if symsB S then if S.Nodup ∧ roomB (cc C) = true then 0 else 4 else 1 by unfold tabE; rw [if_pos ⟨HT.out, hs.trans HSl.out.symm⟩])
  clear hs
  go_enter Try.func23, Try.ntmps23
  repeat' (first
    | ((with_reducible show wpList _ _ _ (⟨_, .call ⟨.value (.func 30), _, _⟩, _, _, _, _⟩ :: _) _ _); refine wpl_call (f := 30) Try.call30 (by kernel_rfl) ?_; refine ⟨_, (total_yes _ C _ hC HT.out), ?_⟩; rintro e w ⟨rfl, hE2⟩; rw [HS2.out]; replace hS := hS.ext hE2; clear hE2; refine ⟨_, rfl, ?_⟩; refine put_move ?_; go_step)
    | ((with_reducible show wpList _ _ _ (⟨_, .move _, _, _, _, _⟩ :: _) _ _); (first | go_big_want | go_step); go_step)
    | ((with_reducible show wpList _ _ _ (⟨_, .assign _, _, _, _, _⟩ :: _) _ _); (first | go_big_want | go_step); go_step)
    | ((with_reducible show wpList _ _ _ (⟨_, .pick _ _ _, _, _, _, _⟩ :: _) _ _); (refine wplPickF rfl (by kernel_rfl) ?_; go_step))
    | ((with_reducible show wpList _ _ _ (⟨some 18, .unOp .not _ _, _, _, _, _⟩ :: _) _ _); (refine wplB _ (V.not rfl) (by kernel_rfl) (fun hB => ?_) (fun hB => ?_) <;> (try (have hF : False := (absurd hB (by decide)); cases hF)) <;> go_step))
    | ((with_reducible show wpList _ _ _ (⟨_, .extract _ _, _, _, _, _⟩ :: _) _ _); (refine wplV _ (V.extract rfl rfl) (by kernel_rfl) ?_; go_step))
    | ((with_reducible show wpList _ _ _ (⟨_, .fieldAddr 25 _ 1, _, _, _, _⟩ :: _) _ _); (refine wplV _ (V.fieldAddr fo25_1 rfl (by first | with_reducible exact Nat.zero_add _ | with_reducible exact Nat.add_zero _ | exact rfl)) (by kernel_rfl) ?_; go_step))
    | ((with_reducible show wpList _ _ _ (⟨_, .call ⟨.builtin .len, _, _⟩, _, _, _, _⟩ :: _) _ _); (refine wplV _ (V.len Try.underlying23 rfl) (by kernel_rfl) ?_; go_step))
    | ((with_reducible show wpList _ _ _ (⟨_, .binOp .neq 3 _ _ _, _, _, _, _⟩ :: _) _ _); (refine wplV _ (V.neq rfl rfl) (by kernel_rfl) ?_; go_step))
    | ((with_reducible show wpList _ _ _ (⟨some 1, .box 25 _, _, _, _, _⟩ :: _) _ _); (refine wpl (by kernel_rfl) ?_; apply wp_boxP (o := ⟨some 1, _, _, _, _, _⟩) hS 25 _ rfl _ rfl; clear hS; intro g1 w hS; refine put_move ?_; go_step))
    | ((with_reducible show wpList _ _ _ (⟨_, .load 25 _, _, _, _, _⟩ :: _) _ _); (refine wpl (by kernel_rfl) ?_; apply wp_loadPP hS 25 _ rfl _ _ rfl 17 (row_of rfl) _; (case hp => (repeat (first | with_reducible exact Pull.head | apply Pull.tail))); (case hi => (repeat (first | (apply AtP.head; (repeat (first | exact Pre.nil | (apply Pre.ints; (case hn => (first | (with_reducible assumption) | exact Len.rep | exact Len.set (by with_reducible assumption) | exact Len.set Len.rep | exact Len.set (Len.set Len.rep))); (case h => omega); (case hm => rfl)) | apply Pre.val))) | (apply AtP.skipI; (case hn => (first | (with_reducible assumption) | exact Len.rep | exact Len.set (by with_reducible assumption) | exact Len.set Len.rep | exact Len.set (Len.set Len.rep))); (case h => omega); (case ho => rfl)) | apply AtP.skipV))); refine put_move ?_; go_step))
    | ((with_reducible show wpList _ _ _ (⟨_, .load 23 _, _, _, _, _⟩ :: _) _ _); (refine wpl (by kernel_rfl) ?_; apply wp_loadVP hS 23 _ rfl _ _ rfl (one_of rfl) _; (case hp => (repeat (first | with_reducible exact Pull.head | apply Pull.tail))); (case hi => (repeat (first | exact AtV.head | (apply AtV.skipI; (case hn => (first | (with_reducible assumption) | exact Len.rep | exact Len.set (by with_reducible assumption) | exact Len.set Len.rep | exact Len.set (Len.set Len.rep))); (case h => omega); (case ho => rfl)) | apply AtV.skipV))); refine put_move ?_; go_step))
    | ((with_reducible show wpList _ _ _ (⟨some 26, .makeMap 63 _, _, _, _, _⟩ :: _) _ _); (refine wpl (by kernel_rfl) ?_; apply wp_makeMap (o := ⟨some 26, _, _, _, _, _⟩) ik hS 63 rfl; clear hS; intro g26 w hS; refine put_move ?_; go_step))
    | ((fail_if_success (with_reducible show wpList _ _ _ (_ :: _) _ _)); go_step))
  go_loopg [6, 30] n (fun gk bv kv w => ∃ (k : Nat) (b : Bool), gk + k = n ∧ kv = .int .i64 k ∧ bv = .bool b ∧ Hid (b = true ↔ ¬ (S.take k).Nodup) ∧ Hid (∀ j, j < k → 0 ≤ nth S j ∧ nth S j < 256) ∧ St w0 w [mp ik g26 (hasF (S.take k)), prt g1 [.ints C, .val (.slice ad n c)]])
  case atStart => exact ⟨0, false, rfl, rfl, rfl, hid (by simp), hid (fun j hj => absurd hj (by omega)), (by rw [show hasF (S.take 0) = fun _ => none from (by funext s; simp [hasF])]; exact hS)⟩
  case round =>
    clear hS
    obtain ⟨k, b, hk, rfl, rfl, HB, HR, hS⟩ := hrel
    by_cases hlt : k < n
    · have hk2 := hid (show k < S.length by rw [HSl.out]; exact hlt)
      have HF := hid (hasF_snoc S k hk2.out)
      have HN := hid (nodup_snoc S k hk2.out)
      obtain ⟨x, hx⟩ : ∃ x, nth S k = x := ⟨_, rfl⟩
      have HX := hid hx
      rw [hx] at HF HN
      clear hx
      by_cases hr : 0 ≤ x ∧ x < 256
      · have HR2 : Hid (∀ j, j < k + 1 → 0 ≤ nth S j ∧ nth S j < 256) := hid fun j hj => by
          by_cases hjk : j < k
          · exact HR.out j hjk
          · obtain rfl : j = k := by omega
            rw [HX.out]; exact hr
        by_cases hm : x ∈ S.take k
        · have hf : hasF (S.take k) x = some (.bool true) := by rw [hasF, if_pos hm]
          have HB2 : Hid (true = true ↔ ¬ (S.take (k + 1)).Nodup) := hid (by rw [HN.out]; simp [hm])
          clear HN hm
          cases b
          all_goals
            repeat' (first
              | ((with_reducible show wpList _ _ _ (⟨some 32, _, _, _, _, _⟩ :: _) _ _); refine wpl_indexI hv Try.underlying23 isz3 rfl rfl IsN.cast (by omega) rfl ?_; rw [HX.out]; intro b32 o32 hc32; go_step)
              | go_big_skip
              | ((with_reducible show wpList _ _ _ (⟨_, .move _, _, _, _, _⟩ :: _) _ _); (first | go_big_want | go_step); go_step)
              | ((with_reducible show wpList _ _ _ (⟨_, .assign _, _, _, _, _⟩ :: _) _ _); (first | go_big_want | go_step); go_step)
              | ((with_reducible show wpList _ _ _ (⟨_, .pick _ _ _, _, _, _, _⟩ :: _) _ _); first | (refine wplPickT rfl (by kernel_rfl) ?_; go_step) | (refine wplPickF rfl (by kernel_rfl) ?_; go_step))
              | ((with_reducible show wpList _ _ _ (⟨some 35, .binOp .lss _ _ _ _, _, _, _, _⟩ :: _) _ _); (refine wplD _ (V.lss rfl rfl) (by kernel_rfl) (fun hB => ?_) (fun hB => ?_) <;> (try (have hF : False := (by omega); cases hF)) <;> go_step))
              | ((with_reducible show wpList _ _ _ (⟨_, .binOp .lss _ _ _ _, _, _, _, _⟩ :: _) _ _); (refine wplV _ (V.lss rfl rfl) (by kernel_rfl) ?_; go_step))
              | ((with_reducible show wpList _ _ _ (⟨_, .binOp .geq _ _ _ _, _, _, _, _⟩ :: _) _ _); (refine wplV _ (V.geq rfl rfl) (by kernel_rfl) ?_; go_step))
              | ((with_reducible show wpList _ _ _ (⟨_, .binOp .add _ _ _ _, _, _, _, _⟩ :: _) _ _); (refine wplV _ (V.addI rfl rfl (by omega)) (by kernel_rfl) ?_; go_step))
              | ((with_reducible show wpList _ _ _ (⟨_, .load 3 _, _, _, _, _⟩ :: _) _ _); (refine wpl (by kernel_rfl) ?_; apply wp_loadW hS 3 _ rfl _ rfl (one_of rfl) _; (case hc => with_reducible assumption); refine put_move ?_; go_step))
              | ((with_reducible show wpList _ _ _ (⟨some 44, .lookup 63 _ _ _, _, _, _, _⟩ :: _) _ _); (refine wpl (by kernel_rfl) ?_; apply wp_lookupS (enc := ik) hS 63 _ _ rfl _ rfl _ rfl Try.underlying63 (keyLaw_int Try.underlying3) (.bool false) (fun w => Try.zeroValue4 w) _; (case hp => (repeat (first | with_reducible exact Pull.head | apply Pull.tail))); (case hf => with_reducible assumption); refine put_move ?_; go_step))
              | ((with_reducible show wpList _ _ _ (⟨_, .mapUpdate 63 _ _ _, _, _, _, _⟩ :: _) _ _); (refine wpl (by kernel_rfl) ?_; apply wp_mapUpdate (enc := ik) hS 63 _ _ _ rfl _ rfl _ rfl Try.underlying63 (keyLaw_int Try.underlying3) _; (case hp => (repeat (first | with_reducible exact Pull.head | apply Pull.tail))); (case hv => (first | exact IsV.int rfl | exact IsV.bool rfl | exact IsV.slice rfl | exact IsV.pointer rfl | exact IsV.string rfl | exact IsV.map rfl | exact IsV.func rfl | exact IsV.agg rfl)); (case hd => exact rfl); clear hS; intro w hS))
              | ((fail_if_success (with_reducible show wpList _ _ _ (_ :: _) _ _)); go_step))
            go_roundg (gk - 1)
            case measure => omega
            case rel => exact ⟨k + 1, true, by omega, by go_num, rfl, HB2, HR2, by rw [← HF.out]; exact hS.sub (by (repeat (first | exact Sub.nil | with_reducible exact Sub.refl | (apply Sub.cons; (case p => (repeat (first | with_reducible exact Pull.head | apply Pull.tail)))) | apply Sub.skip)))⟩
        · have hf : hasF (S.take k) x = none := by rw [hasF, if_neg hm]
          have HB2 : Hid (b = true ↔ ¬ (S.take (k + 1)).Nodup) := hid (by rw [HN.out, HB.out]; simp [hm])
          clear HN hm
          cases b
          all_goals
            repeat' (first
              | ((with_reducible show wpList _ _ _ (⟨some 32, _, _, _, _, _⟩ :: _) _ _); refine wpl_indexI hv Try.underlying23 isz3 rfl rfl IsN.cast (by omega) rfl ?_; rw [HX.out]; intro b32 o32 hc32; go_step)
              | go_big_skip
              | ((with_reducible show wpList _ _ _ (⟨_, .move _, _, _, _, _⟩ :: _) _ _); (first | go_big_want | go_step); go_step)
              | ((with_reducible show wpList _ _ _ (⟨_, .assign _, _, _, _, _⟩ :: _) _ _); (first | go_big_want | go_step); go_step)
              | ((with_reducible show wpList _ _ _ (⟨_, .pick _ _ _, _, _, _, _⟩ :: _) _ _); first | (refine wplPickT rfl (by kernel_rfl) ?_; go_step) | (refine wplPickF rfl (by kernel_rfl) ?_; go_step))
              | ((with_reducible show wpList _ _ _ (⟨some 35, .binOp .lss _ _ _ _, _, _, _, _⟩ :: _) _ _); (refine wplD _ (V.lss rfl rfl) (by kernel_rfl) (fun hB => ?_) (fun hB => ?_) <;> (try (have hF : False := (by omega); cases hF)) <;> go_step))
              | ((with_reducible show wpList _ _ _ (⟨_, .binOp .lss _ _ _ _, _, _, _, _⟩ :: _) _ _); (refine wplV _ (V.lss rfl rfl) (by kernel_rfl) ?_; go_step))
              | ((with_reducible show wpList _ _ _ (⟨_, .binOp .geq _ _ _ _, _, _, _, _⟩ :: _) _ _); (refine wplV _ (V.geq rfl rfl) (by kernel_rfl) ?_; go_step))
              | ((with_reducible show wpList _ _ _ (⟨_, .binOp .add _ _ _ _, _, _, _, _⟩ :: _) _ _); (refine wplV _ (V.addI rfl rfl (by omega)) (by kernel_rfl) ?_; go_step))
              | ((with_reducible show wpList _ _ _ (⟨_, .load 3 _, _, _, _, _⟩ :: _) _ _); (refine wpl (by kernel_rfl) ?_; apply wp_loadW hS 3 _ rfl _ rfl (one_of rfl) _; (case hc => with_reducible assumption); refine put_move ?_; go_step))
              | ((with_reducible show wpList _ _ _ (⟨some 44, .lookup 63 _ _ _, _, _, _, _⟩ :: _) _ _); (refine wpl (by kernel_rfl) ?_; apply wp_lookupN (enc := ik) hS 63 _ _ rfl _ rfl _ rfl Try.underlying63 (keyLaw_int Try.underlying3) (.bool false) (fun w => Try.zeroValue4 w) _; (case hp => (repeat (first | with_reducible exact Pull.head | apply Pull.tail))); (case hf => with_reducible assumption); refine put_move ?_; go_step))
              | ((with_reducible show wpList _ _ _ (⟨_, .mapUpdate 63 _ _ _, _, _, _, _⟩ :: _) _ _); (refine wpl (by kernel_rfl) ?_; apply wp_mapUpdate (enc := ik) hS 63 _ _ _ rfl _ rfl _ rfl Try.underlying63 (keyLaw_int Try.underlying3) _; (case hp => (repeat (first | with_reducible exact Pull.head | apply Pull.tail))); (case hv => (first | exact IsV.int rfl | exact IsV.bool rfl | exact IsV.slice rfl | exact IsV.pointer rfl | exact IsV.string rfl | exact IsV.map rfl | exact IsV.func rfl | exact IsV.agg rfl)); (case hd => exact rfl); clear hS; intro w hS))
              | ((fail_if_success (with_reducible show wpList _ _ _ (_ :: _) _ _)); go_step))
            go_roundg (gk - 1)
            case measure => omega
            case rel => exact ⟨k + 1, _, by omega, by go_num, rfl, HB2, HR2, by rw [← HF.out]; exact hS.sub (by (repeat (first | exact Sub.nil | with_reducible exact Sub.refl | (apply Sub.cons; (case p => (repeat (first | with_reducible exact Pull.head | apply Pull.tail)))) | apply Sub.skip)))⟩
      · have hE4 : Hid (tabE C S = 1) := hid (by
          rw [HE.out, if_neg]
          intro h
          have := List.all_eq_true.1 h x (by rw [← HX.out]; exact nth_mem S k hk2.out)
          simp at this; omega)
        clear HF HN
        have hr2 : x < 0 ∨ 256 ≤ x := by omega
        clear hr
        repeat' (first
          | ((with_reducible show wpList _ _ _ (⟨some 32, _, _, _, _, _⟩ :: _) _ _); refine wpl_indexI hv Try.underlying23 isz3 rfl rfl IsN.cast (by omega) rfl ?_; rw [HX.out]; intro b32 o32 hc32; go_step)
          | go_big_skip
          | ((with_reducible show wpList _ _ _ (⟨_, .move _, _, _, _, _⟩ :: _) _ _); (first | go_big_want | go_step); go_step)
          | ((with_reducible show wpList _ _ _ (⟨_, .assign _, _, _, _, _⟩ :: _) _ _); (first | go_big_want | go_step); go_step)
          | ((with_reducible show wpList _ _ _ (⟨_, .pick _ _ _, _, _, _, _⟩ :: _) _ _); first | (refine wplPickT rfl (by kernel_rfl) ?_; go_step) | (refine wplPickF rfl (by kernel_rfl) ?_; go_step))
          | ((with_reducible show wpList _ _ _ (⟨some 35, .binOp .lss _ _ _ _, _, _, _, _⟩ :: _) _ _); (refine wplD _ (V.lss rfl rfl) (by kernel_rfl) (fun hB => ?_) (fun hB => ?_) <;> (try (have hF : False := (by omega); cases hF)) <;> go_step))
          | ((with_reducible show wpList _ _ _ (⟨_, .binOp .lss _ _ _ _, _, _, _, _⟩ :: _) _ _); (refine wplV _ (V.lss rfl rfl) (by kernel_rfl) ?_; go_step))
          | ((with_reducible show wpList _ _ _ (⟨_, .binOp .geq _ _ _ _, _, _, _, _⟩ :: _) _ _); (refine wplV _ (V.geq rfl rfl) (by kernel_rfl) ?_; go_step))
          | ((with_reducible show wpList _ _ _ (⟨_, .load 3 _, _, _, _, _⟩ :: _) _ _); (refine wpl (by kernel_rfl) ?_; apply wp_loadW hS 3 _ rfl _ rfl (one_of rfl) _; (case hc => with_reducible assumption); refine put_move ?_; go_step))
          | ((fail_if_success (with_reducible show wpList _ _ _ (_ :: _) _ _)); go_step))
        all_goals
          refine ret_one rfl (OneRes.tmp rfl) rfl ?_
          exact ⟨(by rw [hE4.out]; first | done | rfl), hS.1⟩
    · obtain rfl : k = n := by omega
      have hall : symsB S = true := by
        rw [symsB, List.all_eq_true]
        intro s hs
        obtain ⟨j, hj, rfl⟩ := List.getElem_of_mem hs
        have := HR.out j (by rw [← HSl.out]; exact hj)
        simp [nth, List.getD, hj] at this
        simpa using this
      have htk : S.take k = S := by rw [← HSl.out]; exact List.take_length
      have HB3 : Hid (b = true ↔ ¬ S.Nodup) := hid (by have := HB.out; rwa [htk] at this)
      have HE3 : Hid (tabE C S = if S.Nodup ∧ roomB (cc C) = true then 0 else 4) := hid (by rw [HE.out, if_pos hall])
      have HCp := hid ((totOk_iff C).1 HT.out).1
      clear hall htk HB HE HR
      repeat' (first
        | ((with_reducible show wpList _ _ _ (⟨_, .move _, _, _, _, _⟩ :: _) _ _); (first | go_big_want | go_step); go_step)
        | ((with_reducible show wpList _ _ _ (⟨_, .assign _, _, _, _, _⟩ :: _) _ _); (first | go_big_want | go_step); go_step)
        | ((with_reducible show wpList _ _ _ (⟨_, .binOp .lss _ _ _ _, _, _, _, _⟩ :: _) _ _); (refine wplV _ (V.lss rfl rfl) (by kernel_rfl) ?_; go_step))
        | ((with_reducible show wpList _ _ _ (⟨_, .fieldAddr 25 _ 0, _, _, _, _⟩ :: _) _ _); (refine wplV _ (V.fieldAddr fo25_0 rfl (by first | with_reducible exact Nat.zero_add _ | with_reducible exact Nat.add_zero _ | exact rfl)) (by kernel_rfl) ?_; go_step))
        | ((with_reducible show wpList _ _ _ (⟨_, .load 22 _, _, _, _, _⟩ :: _) _ _); (refine wpl (by kernel_rfl) ?_; apply wp_loadRP hS 22 _ rfl _ _ rfl 16 (row_of rfl) _; (case hp => (repeat (first | with_reducible exact Pull.head | apply Pull.tail))); (case hi => (repeat (first | (apply AtR.head; (first | (with_reducible assumption) | exact Len.rep | exact Len.set (by with_reducible assumption) | exact Len.set Len.rep | exact Len.set (Len.set Len.rep))) | (apply AtR.skipI; (case hn => (first | (with_reducible assumption) | exact Len.rep | exact Len.set (by with_reducible assumption) | exact Len.set Len.rep | exact Len.set (Len.set Len.rep))); (case h => omega); (case ho => rfl)) | apply AtR.skipV))); refine put_move ?_; go_step))
        | ((fail_if_success (with_reducible show wpList _ _ _ (_ :: _) _ _)); go_step))
      go_loopg [9, 51] 16 (fun gk nv kv w => ∃ (i : Nat), gk + i = 16 ∧ kv = .int .i64 i ∧ nv = .int .i64 (nx (cc C) i : Nat) ∧ nx (cc C) i < 2 ^ i ∧ Hid (∀ j, j < i → nx (cc C) (j + 1) < 2 ^ (j + 1)) ∧ Hid (0 < i → b = false) ∧ St w0 w [])
      case atStart => exact ⟨0, rfl, rfl, rfl, by simp [nx], hid (fun j hj => absurd hj (by omega)), hid (fun h => absurd h (by omega)), hS.sub (by (repeat (first | exact Sub.nil | with_reducible exact Sub.refl | (apply Sub.cons; (case p => (repeat (first | with_reducible exact Pull.head | apply Pull.tail)))) | apply Sub.skip)))⟩
      case round =>
        clear hS
        obtain ⟨i, hi, rfl, rfl, hlt2, HA, HZ, hS⟩ := hrel
        by_cases hlt : i < 16
        · have hx := HCp.out i hlt
          have hci := cc_int C i hx.1
          have HNx := hid (show nx (cc C) (i + 1) = 2 * nx (cc C) i + cc C i from rfl)
          obtain ⟨y, hy⟩ : ∃ y, cc C i = y := ⟨_, rfl⟩
          rw [hy] at hci HNx
          have HX := hid hci
          have hy2 : y ≤ 256 := by omega
          obtain ⟨p, hp⟩ : ∃ p, p = 2 ^ i := ⟨_, rfl⟩
          have hp2 : p ≤ 32768 := by rw [hp]; exact Nat.pow_le_pow_right (n := 2) (j := 15) (by omega) (by omega)
          obtain ⟨z, hz⟩ : ∃ z, nx (cc C) i = z := ⟨_, rfl⟩
          rw [← hp] at hlt2
          have HP : Hid ((2 : Int) ^ (i + 1) = ((2 * p : Nat) : Int)) := hid (by rw [hp, Int.pow_succ]; push_cast; omega)
          have HP2 : Hid (2 ^ (i + 1) = 2 * p) := hid (by rw [hp, Nat.pow_succ]; omega)
          rw [hz] at hlt2 HNx ⊢
          clear hci hy hp hz hx
          by_cases hbad : b = true ∨ 2 * p ≤ 2 * z + y
          · have hE4 : Hid (tabE C S = 4) := hid (by
              rw [HE3.out, if_neg]
              rintro ⟨h1, h2⟩
              rcases hbad with h | h
              · exact (HB3.out.1 h) h1
              · have := (roomB_iff _).1 h2 i hlt
                rw [HNx.out, HP2.out] at this; omega)
            have hbad2 : b = false → 2 * p ≤ 2 * z + y := fun h => by
              rcases hbad with h' | h'
              · rw [h] at h'; cases h'
              · exact h'
            clear hbad
            cases b
            · replace hbad2 := hbad2 rfl
              repeat' (first
                | ((with_reducible show wpList _ _ _ (⟨some 54, _, _, _, _, _⟩ :: _) _ _); refine wplV (.int .i64 ((y : Nat) : Int)) (V.as (V.indexIv Try.underlying22 Try.underlying3 isz3 rfl rfl hC IsN.cast (by omega)) HX.out) (by kernel_rfl) ?_; go_step)
                | ((with_reducible show wpList _ _ _ (⟨some 56, .binOp .shl _ _ _ _, _, _, _, _⟩ :: _) _ _); (refine wplV (.int _ (((2 * z : Nat) : Int))) (V.as (V.shlI rfl rfl (by (repeat (first | exact IsN.auto | with_reducible apply IsN.add | with_reducible apply IsN.sub | with_reducible apply IsN.mul | with_reducible apply IsN.div | with_reducible apply IsN.mod | with_reducible apply IsN.min | with_reducible apply IsN.max | (with_reducible show (_ : Nat) ≤ _; omega) | exact IsN.toNat (by omega)))) (by omega) (by omega)) (by omega)) rfl ?_; go_step))
                | ((with_reducible show wpList _ _ _ (⟨some 58, .binOp .add _ _ _ _, _, _, _, _⟩ :: _) _ _); (refine wplV (.int _ (((2 * z + y : Nat) : Int))) (V.as (V.addI rfl rfl (by omega)) (by omega)) rfl ?_; go_step))
                | ((with_reducible show wpList _ _ _ (⟨some 64, .binOp .shl _ _ _ _, _, _, _, _⟩ :: _) _ _); (refine wplV (.int _ (((2 * p : Nat) : Int))) (V.as (V.shl1 rfl rfl (by (repeat (first | exact IsN.auto | with_reducible apply IsN.add | with_reducible apply IsN.sub | with_reducible apply IsN.mul | with_reducible apply IsN.div | with_reducible apply IsN.mod | with_reducible apply IsN.min | with_reducible apply IsN.max | (with_reducible show (_ : Nat) ≤ _; omega) | exact IsN.toNat (by omega)))) (by omega)) (by exact HP.out)) rfl ?_; go_step))
                | ((with_reducible show wpList _ _ _ (⟨_, .move _, _, _, _, _⟩ :: _) _ _); (first | go_big_want | go_step); go_step)
                | ((with_reducible show wpList _ _ _ (⟨_, .assign _, _, _, _, _⟩ :: _) _ _); (first | go_big_want | go_step); go_step)
                | ((with_reducible show wpList _ _ _ (⟨_, .pick _ _ _, _, _, _, _⟩ :: _) _ _); (refine wplPickF rfl (by kernel_rfl) ?_; go_step))
                | ((with_reducible show wpList _ _ _ (⟨_, .binOp .lss _ _ _ _, _, _, _, _⟩ :: _) _ _); (refine wplV _ (V.lss rfl rfl) (by kernel_rfl) ?_; go_step))
                | ((with_reducible show wpList _ _ _ (⟨_, .binOp .add _ _ _ _, _, _, _, _⟩ :: _) _ _); (refine wplV _ (V.addI rfl rfl (by omega)) (by kernel_rfl) ?_; go_step))
                | ((with_reducible show wpList _ _ _ (⟨_, .binOp .sub _ _ _ _, _, _, _, _⟩ :: _) _ _); (refine wplV _ (V.subI rfl rfl (by omega)) (by kernel_rfl) ?_; go_step))
                | ((with_reducible show wpList _ _ _ (⟨_, .binOp .gtr _ _ _ _, _, _, _, _⟩ :: _) _ _); (refine wplV _ (V.gtr rfl rfl) (by kernel_rfl) ?_; go_step))
                | ((fail_if_success (with_reducible show wpList _ _ _ (_ :: _) _ _)); go_step))
              refine ret_one rfl (OneRes.tmp rfl) rfl ?_
              exact ⟨(by rw [hE4.out]; first | done | rfl), hS.1⟩
            · clear hbad2
              repeat' (first
                | ((with_reducible show wpList _ _ _ (⟨some 54, _, _, _, _, _⟩ :: _) _ _); refine wplV (.int .i64 ((y : Nat) : Int)) (V.as (V.indexIv Try.underlying22 Try.underlying3 isz3 rfl rfl hC IsN.cast (by omega)) HX.out) (by kernel_rfl) ?_; go_step)
                | ((with_reducible show wpList _ _ _ (⟨some 56, .binOp .shl _ _ _ _, _, _, _, _⟩ :: _) _ _); (refine wplV (.int _ (((2 * z : Nat) : Int))) (V.as (V.shlI rfl rfl (by (repeat (first | exact IsN.auto | with_reducible apply IsN.add | with_reducible apply IsN.sub | with_reducible apply IsN.mul | with_reducible apply IsN.div | with_reducible apply IsN.mod | with_reducible apply IsN.min | with_reducible apply IsN.max | (with_reducible show (_ : Nat) ≤ _; omega) | exact IsN.toNat (by omega)))) (by omega) (by omega)) (by omega)) rfl ?_; go_step))
                | ((with_reducible show wpList _ _ _ (⟨some 58, .binOp .add _ _ _ _, _, _, _, _⟩ :: _) _ _); (refine wplV (.int _ (((2 * z + y : Nat) : Int))) (V.as (V.addI rfl rfl (by omega)) (by omega)) rfl ?_; go_step))
                | go_big_skip
                | ((with_reducible show wpList _ _ _ (⟨_, .move _, _, _, _, _⟩ :: _) _ _); (first | go_big_want | go_step); go_step)
                | ((with_reducible show wpList _ _ _ (⟨_, .assign _, _, _, _, _⟩ :: _) _ _); (first | go_big_want | go_step); go_step)
                | ((with_reducible show wpList _ _ _ (⟨_, .pick _ _ _, _, _, _, _⟩ :: _) _ _); (refine wplPickT rfl (by kernel_rfl) ?_; go_step))
                | ((with_reducible show wpList _ _ _ (⟨_, .binOp .lss _ _ _ _, _, _, _, _⟩ :: _) _ _); (refine wplV _ (V.lss rfl rfl) (by kernel_rfl) ?_; go_step))
                | ((fail_if_success (with_reducible show wpList _ _ _ (_ :: _) _ _)); go_step))
              refine ret_one rfl (OneRes.tmp rfl) rfl ?_
              exact ⟨(by rw [hE4.out]; first | done | rfl), hS.1⟩
          · obtain rfl : b = false := by cases b <;> simp_all
            have hgood : 2 * z + y < 2 * p := by
              by_cases h : 2 * p ≤ 2 * z + y
              · exact absurd (.inr h) hbad
              · omega
            have HA2 : Hid (∀ j, j < i + 1 → nx (cc C) (j + 1) < 2 ^ (j + 1)) := hid fun j hj => by
              by_cases hji : j < i
              · exact HA.out j hji
              · obtain rfl : j = i := by omega
                rw [HNx.out, HP2.out]; exact hgood
            clear hbad
            repeat' (first
              | ((with_reducible show wpList _ _ _ (⟨some 54, _, _, _, _, _⟩ :: _) _ _); refine wplV (.int .i64 ((y : Nat) : Int)) (V.as (V.indexIv Try.underlying22 Try.underlying3 isz3 rfl rfl hC IsN.cast (by omega)) HX.out) (by kernel_rfl) ?_; go_step)
              | ((with_reducible show wpList _ _ _ (⟨some 56, .binOp .shl _ _ _ _, _, _, _, _⟩ :: _) _ _); (refine wplV (.int _ (((2 * z : Nat) : Int))) (V.as (V.shlI rfl rfl (by (repeat (first | exact IsN.auto | with_reducible apply IsN.add | with_reducible apply IsN.sub | with_reducible apply IsN.mul | with_reducible apply IsN.div | with_reducible apply IsN.mod | with_reducible apply IsN.min | with_reducible apply IsN.max | (with_reducible show (_ : Nat) ≤ _; omega) | exact IsN.toNat (by omega)))) (by omega) (by omega)) (by omega)) rfl ?_; go_step))
              | ((with_reducible show wpList _ _ _ (⟨some 58, .binOp .add _ _ _ _, _, _, _, _⟩ :: _) _ _); (refine wplV (.int _ (((2 * z + y : Nat) : Int))) (V.as (V.addI rfl rfl (by omega)) (by omega)) rfl ?_; go_step))
              | ((with_reducible show wpList _ _ _ (⟨some 64, .binOp .shl _ _ _ _, _, _, _, _⟩ :: _) _ _); (refine wplV (.int _ (((2 * p : Nat) : Int))) (V.as (V.shl1 rfl rfl (by (repeat (first | exact IsN.auto | with_reducible apply IsN.add | with_reducible apply IsN.sub | with_reducible apply IsN.mul | with_reducible apply IsN.div | with_reducible apply IsN.mod | with_reducible apply IsN.min | with_reducible apply IsN.max | (with_reducible show (_ : Nat) ≤ _; omega) | exact IsN.toNat (by omega)))) (by omega)) (by exact HP.out)) rfl ?_; go_step))
              | ((with_reducible show wpList _ _ _ (⟨_, .move _, _, _, _, _⟩ :: _) _ _); (first | go_big_want | go_step); go_step)
              | ((with_reducible show wpList _ _ _ (⟨_, .assign _, _, _, _, _⟩ :: _) _ _); (first | go_big_want | go_step); go_step)
              | ((with_reducible show wpList _ _ _ (⟨_, .pick _ _ _, _, _, _, _⟩ :: _) _ _); (refine wplPickF rfl (by kernel_rfl) ?_; go_step))
              | ((with_reducible show wpList _ _ _ (⟨_, .binOp .lss _ _ _ _, _, _, _, _⟩ :: _) _ _); (refine wplV _ (V.lss rfl rfl) (by kernel_rfl) ?_; go_step))
              | ((with_reducible show wpList _ _ _ (⟨_, .binOp .add _ _ _ _, _, _, _, _⟩ :: _) _ _); (refine wplV _ (V.addI rfl rfl (by omega)) (by kernel_rfl) ?_; go_step))
              | ((with_reducible show wpList _ _ _ (⟨_, .binOp .sub _ _ _ _, _, _, _, _⟩ :: _) _ _); (refine wplV _ (V.subI rfl rfl (by omega)) (by kernel_rfl) ?_; go_step))
              | ((with_reducible show wpList _ _ _ (⟨_, .binOp .gtr _ _ _ _, _, _, _, _⟩ :: _) _ _); (refine wplV _ (V.gtr rfl rfl) (by kernel_rfl) ?_; go_step))
              | ((fail_if_success (with_reducible show wpList _ _ _ (_ :: _) _ _)); go_step))
            go_roundg (gk - 1)
            case measure => omega
            case rel => exact ⟨i + 1, by omega, by go_num, by rw [HNx.out], by rw [HNx.out, HP2.out]; exact hgood, HA2, hid (fun _ => rfl), hS⟩
        · obtain rfl : i = 16 := by omega
          have hE0 : Hid (tabE C S = 0) := hid (by
            rw [HE3.out, if_pos]
            refine ⟨?_, (roomB_iff _).2 HA.out⟩
            have h1 := HZ.out (by omega)
            have h2 := HB3.out
            rw [h1] at h2
            simpa using h2)
          repeat' (first
            | ((with_reducible show wpList _ _ _ (⟨_, .assign _, _, _, _, _⟩ :: _) _ _); (first | go_big_want | go_step); go_step)
            | ((with_reducible show wpList _ _ _ (⟨_, .binOp .lss _ _ _ _, _, _, _, _⟩ :: _) _ _); (refine wplV _ (V.lss rfl rfl) (by kernel_rfl) ?_; go_step))
            | ((fail_if_success (with_reducible show wpList _ _ _ (_ :: _) _ _)); go_step))
          refine ret_one rfl (OneRes.tmp rfl) rfl ?_
          exact ⟨(by rw [hE0.out]; first | done | rfl), hS.1⟩
end Go.Proofs.Ytembekkanggciaa
