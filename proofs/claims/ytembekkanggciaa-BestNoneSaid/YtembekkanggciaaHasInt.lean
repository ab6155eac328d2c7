/- The walk of mezzotintref.Has at ints. -/
import Derived.Test.YtembekkanggciaaRet
namespace Go.Proofs.Ytembekkanggciaa
open Go.RowKit
set_option linter.unusedVariables false
set_option maxRecDepth 100000 in
theorem hasInt_any (w0 : World) (ad : Option Addr) (n c : Nat) (l : List Int) (x : Int) (hv : Sl w0 1 (.slice ad n c) n (l.map (Value.int .i64))) (hn : n ≤ 9223372036854775807) :
    Calls Try.prog 17 #[.slice ad n c, .int .i64 x] w0 fun e w => e = .returned (.bool (decide (x ∈ l))) ∧ Ext w0 w := by
  have hll : l.length = n := by have := hv.1; simpa using this
  have HL := hid hll
  clear hll
  have hS := St.start w0
  go_enter Try.func17, Try.ntmps17
  repeat' (first
    | go_skip
    | go_big_skip
    | ((with_reducible show wpList _ _ _ (⟨_, .move _, _, _, _, _⟩ :: _) _ _); (first | go_big_want | go_step); go_step)
    | ((with_reducible show wpList _ _ _ (⟨_, .assign _, _, _, _, _⟩ :: _) _ _); (first | go_big_want | go_step); go_step)
    | ((with_reducible show wpList _ _ _ (⟨_, .pick _ _ _, _, _, _, _⟩ :: _) _ _); first | (refine wplPickT rfl (by kernel_rfl) ?_; go_step) | (refine wplPickF rfl (by kernel_rfl) ?_; go_step))
    | ((with_reducible show wpList _ _ _ (⟨_, .call ⟨.builtin .len, _, _⟩, _, _, _, _⟩ :: _) _ _); first | (refine wplV _ (V.len Try.underlying23 rfl) (by kernel_rfl) ?_; go_step))
    | ((fail_if_success (with_reducible show wpList _ _ _ (_ :: _) _ _)); go_step))
  go_loopg [9] n (fun gk kv w => ∃ k : Nat, gk + k = n ∧ kv = .int .i64 k ∧ Hid (x ∉ l.take k) ∧ St w0 w [])
  case atStart => exact ⟨0, rfl, rfl, hid (by simp), hS⟩
  case round =>
    clear hS
    obtain ⟨k, hk, rfl, HA, hS⟩ := hrel
    by_cases hlt : k < n
    · have hkl : k < l.length := by rw [HL.out]; exact hlt
      have ht : l.take (k + 1) = l.take k ++ [nth l k] := by rw [List.take_add_one, List.getElem?_eq_getElem hkl]; simp [nth, List.getD, hkl]
      have hmem : nth l k ∈ l := by simp [nth, List.getD, hkl]
      obtain ⟨y, hy⟩ : ∃ y, nth l k = y := ⟨_, rfl⟩
      have HY := hid hy
      rw [hy] at ht hmem
      clear hy hkl
      by_cases hxy : x = y
      · have HD := hid (show decide (x ∈ l) = true from decide_eq_true (by rw [hxy]; exact hmem))
        clear hmem ht
        repeat' (first
          | ((with_reducible show wpList _ _ _ (⟨some 11, _, _, _, _, _⟩ :: _) _ _); refine wpl_indexI hv Try.underlying23 isz3 rfl rfl IsN.cast (by omega) rfl ?_; rw [HY.out]; intro b11 o11 hc11; go_step)
          | go_skip
          | go_big_skip
          | ((with_reducible show wpList _ _ _ (⟨_, .move _, _, _, _, _⟩ :: _) _ _); (first | go_big_want | go_step); go_step)
          | ((with_reducible show wpList _ _ _ (⟨_, .assign _, _, _, _, _⟩ :: _) _ _); (first | go_big_want | go_step); go_step)
          | ((with_reducible show wpList _ _ _ (⟨_, .pick _ _ _, _, _, _, _⟩ :: _) _ _); first | (refine wplPickT rfl (by kernel_rfl) ?_; go_step) | (refine wplPickF rfl (by kernel_rfl) ?_; go_step))
          | ((with_reducible show wpList _ _ _ (⟨_, .binOp .lss _ _ _ _, _, _, _, _⟩ :: _) _ _); first | (refine wplV _ (V.lss rfl rfl) (by kernel_rfl) ?_; go_step))
          | ((with_reducible show wpList _ _ _ (⟨some 11, .indexAddr 23 _ _, _, _, _, _⟩ :: _) _ _); first | (refine wplV _ (V.indexSl Try.underlying23 isz3 rfl rfl (by (repeat (first | exact IsN.auto | with_reducible apply IsN.add | with_reducible apply IsN.sub | with_reducible apply IsN.mul | with_reducible apply IsN.div | with_reducible apply IsN.mod | with_reducible apply IsN.min | with_reducible apply IsN.max | (with_reducible show (_ : Nat) ≤ _; omega) | exact IsN.toNat (by omega)))) (by omega) (Nat.mul_one _) (by first | with_reducible exact Nat.zero_add _ | with_reducible exact Nat.add_zero _ | exact rfl)) (by kernel_rfl) ?_; go_step) | (refine wpl_indexI (by with_reducible assumption) Try.underlying23 isz3 rfl rfl (by (repeat (first | exact IsN.auto | with_reducible apply IsN.add | with_reducible apply IsN.sub | with_reducible apply IsN.mul | with_reducible apply IsN.div | with_reducible apply IsN.mod | with_reducible apply IsN.min | with_reducible apply IsN.max | (with_reducible show (_ : Nat) ≤ _; omega) | exact IsN.toNat (by omega)))) (by omega) rfl ?_; intro b11 o11 hc11; go_step) | (refine wpl_indexW (by with_reducible assumption) Try.underlying23 isz3 rfl rfl (by (repeat (first | exact IsN.auto | with_reducible apply IsN.add | with_reducible apply IsN.sub | with_reducible apply IsN.mul | with_reducible apply IsN.div | with_reducible apply IsN.mod | with_reducible apply IsN.min | with_reducible apply IsN.max | (with_reducible show (_ : Nat) ≤ _; omega) | exact IsN.toNat (by omega)))) (by omega) rfl ?_; intro b11 o11 hc11; go_step) | (refine wpl_indexO hS rfl (by (repeat (first | with_reducible exact Pull.head | apply Pull.tail))) Try.underlying23 isz3 rfl (by (repeat (first | exact IsN.auto | with_reducible apply IsN.add | with_reducible apply IsN.sub | with_reducible apply IsN.mul | with_reducible apply IsN.div | with_reducible apply IsN.mod | with_reducible apply IsN.min | with_reducible apply IsN.max | (with_reducible show (_ : Nat) ≤ _; omega) | exact IsN.toNat (by omega)))) (by omega) (Nat.mul_one _) rfl ?_; (first | (rintro b11 rfl) | (intro b11 hb11; cases hb11)); go_step))
          | ((with_reducible show wpList _ _ _ (⟨_, .binOp .eql 3 _ _ _, _, _, _, _⟩ :: _) _ _); first | (refine wplV _ (V.eql rfl rfl) (by kernel_rfl) ?_; go_step))
          | ((with_reducible show wpList _ _ _ (⟨_, .load 3 _, _, _, _, _⟩ :: _) _ _); first | (refine wpl (by kernel_rfl) ?_; apply wp_load1A hS 3 _ rfl _ _ rfl (one_of rfl) _ _; (case hp => (repeat (first | with_reducible exact Pull.head | apply Pull.tail))); (case hi => omega); refine put_move ?_; go_step) | (refine wpl (by kernel_rfl) ?_; apply wp_load1OI hS 3 _ rfl _ _ rfl (one_of rfl) _ _ _ _ _; (case hp => (repeat (first | with_reducible exact Pull.head | apply Pull.tail))); (case hi => omega); refine put_move ?_; go_step) | (refine wpl (by kernel_rfl) ?_; apply wp_load1 hS 3 _ rfl _ _ rfl (one_of rfl) _; (case hp => (repeat (first | with_reducible exact Pull.head | apply Pull.tail))); (case hc => rfl); refine put_move ?_; go_step) | (refine wpl (by kernel_rfl) ?_; apply wp_load1O hS 3 _ rfl _ _ rfl (one_of rfl) _ _ _ _ _; (case hp => (repeat (first | with_reducible exact Pull.head | apply Pull.tail))); (case hv => with_reducible assumption); refine put_move ?_; go_step) | (refine wpl (by kernel_rfl) ?_; apply wp_loadW hS 3 _ rfl _ rfl (one_of rfl) _; (case hc => with_reducible assumption); refine put_move ?_; go_step) | (refine wpl (by kernel_rfl) ?_; apply wp_load1R hS 3 _ rfl _ _ _ rfl (one_of rfl) _ _; (case hl => with_reducible assumption); (case hr => with_reducible assumption); (case hf => omega); refine put_move ?_; go_step) | (refine wpl (by kernel_rfl) ?_; apply wp_load1R0 hS 3 _ rfl _ _ rfl (one_of rfl) _ _; (case hl => with_reducible assumption); (case hr => with_reducible assumption); (case hf => omega); refine put_move ?_; go_step))
          | ((fail_if_success (with_reducible show wpList _ _ _ (_ :: _) _ _)); go_step))
        all_goals (try (have hF : False := (by omega); cases hF))
        go_ret
        exact ⟨(by rw [HD.out]; first | done | rfl), hS.1⟩
      · have HA2 : Hid (x ∉ l.take (k + 1)) := hid (by
          rw [ht]; intro h
          rcases List.mem_append.1 h with h | h
          · exact HA.out h
          · rw [List.mem_singleton] at h; exact hxy h)
        clear hmem ht
        repeat' (first
          | ((with_reducible show wpList _ _ _ (⟨some 11, _, _, _, _, _⟩ :: _) _ _); refine wpl_indexI hv Try.underlying23 isz3 rfl rfl IsN.cast (by omega) rfl ?_; rw [HY.out]; intro b11 o11 hc11; go_step)
          | go_skip
          | go_big_skip
          | ((with_reducible show wpList _ _ _ (⟨_, .move _, _, _, _, _⟩ :: _) _ _); (first | go_big_want | go_step); go_step)
          | ((with_reducible show wpList _ _ _ (⟨_, .assign _, _, _, _, _⟩ :: _) _ _); (first | go_big_want | go_step); go_step)
          | ((with_reducible show wpList _ _ _ (⟨_, .pick _ _ _, _, _, _, _⟩ :: _) _ _); first | (refine wplPickT rfl (by kernel_rfl) ?_; go_step) | (refine wplPickF rfl (by kernel_rfl) ?_; go_step))
          | ((with_reducible show wpList _ _ _ (⟨_, .binOp .lss _ _ _ _, _, _, _, _⟩ :: _) _ _); first | (refine wplV _ (V.lss rfl rfl) (by kernel_rfl) ?_; go_step))
          | ((with_reducible show wpList _ _ _ (⟨some 11, .indexAddr 23 _ _, _, _, _, _⟩ :: _) _ _); first | (refine wplV _ (V.indexSl Try.underlying23 isz3 rfl rfl (by (repeat (first | exact IsN.auto | with_reducible apply IsN.add | with_reducible apply IsN.sub | with_reducible apply IsN.mul | with_reducible apply IsN.div | with_reducible apply IsN.mod | with_reducible apply IsN.min | with_reducible apply IsN.max | (with_reducible show (_ : Nat) ≤ _; omega) | exact IsN.toNat (by omega)))) (by omega) (Nat.mul_one _) (by first | with_reducible exact Nat.zero_add _ | with_reducible exact Nat.add_zero _ | exact rfl)) (by kernel_rfl) ?_; go_step) | (refine wpl_indexI (by with_reducible assumption) Try.underlying23 isz3 rfl rfl (by (repeat (first | exact IsN.auto | with_reducible apply IsN.add | with_reducible apply IsN.sub | with_reducible apply IsN.mul | with_reducible apply IsN.div | with_reducible apply IsN.mod | with_reducible apply IsN.min | with_reducible apply IsN.max | (with_reducible show (_ : Nat) ≤ _; omega) | exact IsN.toNat (by omega)))) (by omega) rfl ?_; intro b11 o11 hc11; go_step) | (refine wpl_indexW (by with_reducible assumption) Try.underlying23 isz3 rfl rfl (by (repeat (first | exact IsN.auto | with_reducible apply IsN.add | with_reducible apply IsN.sub | with_reducible apply IsN.mul | with_reducible apply IsN.div | with_reducible apply IsN.mod | with_reducible apply IsN.min | with_reducible apply IsN.max | (with_reducible show (_ : Nat) ≤ _; omega) | exact IsN.toNat (by omega)))) (by omega) rfl ?_; intro b11 o11 hc11; go_step) | (refine wpl_indexO hS rfl (by (repeat (first | with_reducible exact Pull.head | apply Pull.tail))) Try.underlying23 isz3 rfl (by (repeat (first | exact IsN.auto | with_reducible apply IsN.add | with_reducible apply IsN.sub | with_reducible apply IsN.mul | with_reducible apply IsN.div | with_reducible apply IsN.mod | with_reducible apply IsN.min | with_reducible apply IsN.max | (with_reducible show (_ : Nat) ≤ _; omega) | exact IsN.toNat (by omega)))) (by omega) (Nat.mul_one _) rfl ?_; (first | (rintro b11 rfl) | (intro b11 hb11; cases hb11)); go_step))
          | ((with_reducible show wpList _ _ _ (⟨_, .binOp .eql 3 _ _ _, _, _, _, _⟩ :: _) _ _); first | (refine wplV _ (V.eql rfl rfl) (by kernel_rfl) ?_; go_step))
          | ((with_reducible show wpList _ _ _ (⟨_, .binOp .add _ _ _ _, _, _, _, _⟩ :: _) _ _); first | (refine wplV _ (V.addI rfl rfl (by omega)) (by kernel_rfl) ?_; go_step) | (refine wplV _ (V.addR (by decide) rfl rfl) (by kernel_rfl) ?_; go_step))
          | ((with_reducible show wpList _ _ _ (⟨_, .load 3 _, _, _, _, _⟩ :: _) _ _); first | (refine wpl (by kernel_rfl) ?_; apply wp_load1A hS 3 _ rfl _ _ rfl (one_of rfl) _ _; (case hp => (repeat (first | with_reducible exact Pull.head | apply Pull.tail))); (case hi => omega); refine put_move ?_; go_step) | (refine wpl (by kernel_rfl) ?_; apply wp_load1OI hS 3 _ rfl _ _ rfl (one_of rfl) _ _ _ _ _; (case hp => (repeat (first | with_reducible exact Pull.head | apply Pull.tail))); (case hi => omega); refine put_move ?_; go_step) | (refine wpl (by kernel_rfl) ?_; apply wp_load1 hS 3 _ rfl _ _ rfl (one_of rfl) _; (case hp => (repeat (first | with_reducible exact Pull.head | apply Pull.tail))); (case hc => rfl); refine put_move ?_; go_step) | (refine wpl (by kernel_rfl) ?_; apply wp_load1O hS 3 _ rfl _ _ rfl (one_of rfl) _ _ _ _ _; (case hp => (repeat (first | with_reducible exact Pull.head | apply Pull.tail))); (case hv => with_reducible assumption); refine put_move ?_; go_step) | (refine wpl (by kernel_rfl) ?_; apply wp_loadW hS 3 _ rfl _ rfl (one_of rfl) _; (case hc => with_reducible assumption); refine put_move ?_; go_step) | (refine wpl (by kernel_rfl) ?_; apply wp_load1R hS 3 _ rfl _ _ _ rfl (one_of rfl) _ _; (case hl => with_reducible assumption); (case hr => with_reducible assumption); (case hf => omega); refine put_move ?_; go_step) | (refine wpl (by kernel_rfl) ?_; apply wp_load1R0 hS 3 _ rfl _ _ rfl (one_of rfl) _ _; (case hl => with_reducible assumption); (case hr => with_reducible assumption); (case hf => omega); refine put_move ?_; go_step))
          | ((fail_if_success (with_reducible show wpList _ _ _ (_ :: _) _ _)); go_step))
        all_goals (try (have hF : False := (by omega); cases hF))
        go_roundg (gk - 1)
        case measure => omega
        case rel => exact ⟨k + 1, by omega, by go_num, HA2, hS⟩
    · obtain rfl : k = n := by omega
      have HD := hid (show decide (x ∈ l) = false from decide_eq_false (by
        have := HA.out
        rwa [List.take_of_length_le (by rw [HL.out]; exact Nat.le_refl _)] at this))
      repeat' (first
        | go_skip
        | go_big_skip
        | ((with_reducible show wpList _ _ _ (⟨_, .move _, _, _, _, _⟩ :: _) _ _); (first | go_big_want | go_step); go_step)
        | ((with_reducible show wpList _ _ _ (⟨_, .assign _, _, _, _, _⟩ :: _) _ _); (first | go_big_want | go_step); go_step)
        | ((with_reducible show wpList _ _ _ (⟨_, .pick _ _ _, _, _, _, _⟩ :: _) _ _); first | (refine wplPickT rfl (by kernel_rfl) ?_; go_step) | (refine wplPickF rfl (by kernel_rfl) ?_; go_step))
        | ((with_reducible show wpList _ _ _ (⟨_, .binOp .lss _ _ _ _, _, _, _, _⟩ :: _) _ _); first | (refine wplV _ (V.lss rfl rfl) (by kernel_rfl) ?_; go_step))
        | ((with_reducible show wpList _ _ _ (⟨some 11, .indexAddr 23 _ _, _, _, _, _⟩ :: _) _ _); first | (refine wplV _ (V.indexSl Try.underlying23 isz3 rfl rfl (by (repeat (first | exact IsN.auto | with_reducible apply IsN.add | with_reducible apply IsN.sub | with_reducible apply IsN.mul | with_reducible apply IsN.div | with_reducible apply IsN.mod | with_reducible apply IsN.min | with_reducible apply IsN.max | (with_reducible show (_ : Nat) ≤ _; omega) | exact IsN.toNat (by omega)))) (by omega) (Nat.mul_one _) (by first | with_reducible exact Nat.zero_add _ | with_reducible exact Nat.add_zero _ | exact rfl)) (by kernel_rfl) ?_; go_step) | (refine wpl_indexI (by with_reducible assumption) Try.underlying23 isz3 rfl rfl (by (repeat (first | exact IsN.auto | with_reducible apply IsN.add | with_reducible apply IsN.sub | with_reducible apply IsN.mul | with_reducible apply IsN.div | with_reducible apply IsN.mod | with_reducible apply IsN.min | with_reducible apply IsN.max | (with_reducible show (_ : Nat) ≤ _; omega) | exact IsN.toNat (by omega)))) (by omega) rfl ?_; intro b11 o11 hc11; go_step) | (refine wpl_indexW (by with_reducible assumption) Try.underlying23 isz3 rfl rfl (by (repeat (first | exact IsN.auto | with_reducible apply IsN.add | with_reducible apply IsN.sub | with_reducible apply IsN.mul | with_reducible apply IsN.div | with_reducible apply IsN.mod | with_reducible apply IsN.min | with_reducible apply IsN.max | (with_reducible show (_ : Nat) ≤ _; omega) | exact IsN.toNat (by omega)))) (by omega) rfl ?_; intro b11 o11 hc11; go_step) | (refine wpl_indexO hS rfl (by (repeat (first | with_reducible exact Pull.head | apply Pull.tail))) Try.underlying23 isz3 rfl (by (repeat (first | exact IsN.auto | with_reducible apply IsN.add | with_reducible apply IsN.sub | with_reducible apply IsN.mul | with_reducible apply IsN.div | with_reducible apply IsN.mod | with_reducible apply IsN.min | with_reducible apply IsN.max | (with_reducible show (_ : Nat) ≤ _; omega) | exact IsN.toNat (by omega)))) (by omega) (Nat.mul_one _) rfl ?_; (first | (rintro b11 rfl) | (intro b11 hb11; cases hb11)); go_step))
        | ((with_reducible show wpList _ _ _ (⟨_, .binOp .eql 3 _ _ _, _, _, _, _⟩ :: _) _ _); first | (refine wplV _ (V.eql rfl rfl) (by kernel_rfl) ?_; go_step))
        | ((with_reducible show wpList _ _ _ (⟨_, .binOp .add _ _ _ _, _, _, _, _⟩ :: _) _ _); first | (refine wplV _ (V.addI rfl rfl (by omega)) (by kernel_rfl) ?_; go_step) | (refine wplV _ (V.addR (by decide) rfl rfl) (by kernel_rfl) ?_; go_step))
        | ((with_reducible show wpList _ _ _ (⟨_, .load 3 _, _, _, _, _⟩ :: _) _ _); first | (refine wpl (by kernel_rfl) ?_; apply wp_load1A hS 3 _ rfl _ _ rfl (one_of rfl) _ _; (case hp => (repeat (first | with_reducible exact Pull.head | apply Pull.tail))); (case hi => omega); refine put_move ?_; go_step) | (refine wpl (by kernel_rfl) ?_; apply wp_load1OI hS 3 _ rfl _ _ rfl (one_of rfl) _ _ _ _ _; (case hp => (repeat (first | with_reducible exact Pull.head | apply Pull.tail))); (case hi => omega); refine put_move ?_; go_step) | (refine wpl (by kernel_rfl) ?_; apply wp_load1 hS 3 _ rfl _ _ rfl (one_of rfl) _; (case hp => (repeat (first | with_reducible exact Pull.head | apply Pull.tail))); (case hc => rfl); refine put_move ?_; go_step) | (refine wpl (by kernel_rfl) ?_; apply wp_load1O hS 3 _ rfl _ _ rfl (one_of rfl) _ _ _ _ _; (case hp => (repeat (first | with_reducible exact Pull.head | apply Pull.tail))); (case hv => with_reducible assumption); refine put_move ?_; go_step) | (refine wpl (by kernel_rfl) ?_; apply wp_loadW hS 3 _ rfl _ rfl (one_of rfl) _; (case hc => with_reducible assumption); refine put_move ?_; go_step) | (refine wpl (by kernel_rfl) ?_; apply wp_load1R hS 3 _ rfl _ _ _ rfl (one_of rfl) _ _; (case hl => with_reducible assumption); (case hr => with_reducible assumption); (case hf => omega); refine put_move ?_; go_step) | (refine wpl (by kernel_rfl) ?_; apply wp_load1R0 hS 3 _ rfl _ _ rfl (one_of rfl) _ _; (case hl => with_reducible assumption); (case hr => with_reducible assumption); (case hf => omega); refine put_move ?_; go_step))
        | ((fail_if_success (with_reducible show wpList _ _ _ (_ :: _) _ _)); go_step))
      go_ret
      exact ⟨(by rw [HD.out]; first | done | rfl), hS.1⟩
end Go.Proofs.Ytembekkanggciaa
