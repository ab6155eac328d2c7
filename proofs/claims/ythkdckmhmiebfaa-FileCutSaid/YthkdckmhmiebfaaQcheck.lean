/- The walk of quant.Check, alone. -/
import Derived.Test.YthkdckmhmiebfaaContains
namespace Go.Proofs.Ythkdckmhmiebfaa
open Go.RowKit
theorem within_cl (n lo hi : Int) (p q : Addr) (w : World) (hp : w.cell? p = some (.int .i64 lo)) (hq : w.cell? q = some (.int .i64 hi)) :
    Calls Try.prog 49 #[.int .i64 n, .pointer (some p), .pointer (some q)] w fun e w' => e = .returned (.bool (decide (n < lo) || decide (hi < n))) ∧ w = w' := by
  by_cases h : n < lo
  · have h2 : decide (n < lo) = true := by simpa using h
    rw [h2]
    go_enter Try.func49, Try.ntmps49
    go_wp2_with fail
    go_ret
    exact ⟨rfl, rfl⟩
  · have h2 : decide (n < lo) = false := by simpa using h
    rw [h2, Bool.false_or]
    have h3 : lo ≤ n := by omega
    clear h
    go_enter Try.func49, Try.ntmps49
    go_wp2_with fail
    go_ret
    exact ⟨rfl, rfl⟩
set_option maxRecDepth 100000 in
set_option maxRecDepth 100000 in
set_option maxHeartbeats 2000000 in
theorem allWithin_any (w : World) (l : List Int) (hl : l.length = 64) (lo hi : Int) : Calls Try.prog 45 #[.agg (iv l), .int .i64 lo, .int .i64 hi] w fun e w' => e = .returned (.bool (allIn l lo hi)) ∧ Ext w w' := by
  have hmf : ∀ (fn : Fn) (first cap : Array Value) (w : World), (Instr.makeFunc fn first cap).run Try.prog w = .ok (.func fn first cap) w := fun _ _ _ _ => rfl
  have HL := hid hl
  clear hl
  go_enter Try.func45, Try.ntmps45
  go_wp2_with (refine wpList_box_iv rfl 23 _ rfl l rfl ?_; intro w1 hR hE hz)
  have hR2 := (hR.alloc (.cells #[.int .i64 lo] 3)).alloc (.cells #[.int .i64 hi] 3)
  have hE2 := (hE.alloc (.cells #[.int .i64 lo] 3)).alloc (.cells #[.int .i64 hi] 3)
  have hp : ((w1.alloc (.cells #[.int .i64 lo] 3)).alloc (.cells #[.int .i64 hi] 3)).cell? ⟨w.heap.size + 1, 0, none⟩ = some (.int .i64 lo) := by rw [← hz]; simp [go_sem]
  have hq : ((w1.alloc (.cells #[.int .i64 lo] 3)).alloc (.cells #[.int .i64 hi] 3)).cell? ⟨w.heap.size + 1 + 1, 0, none⟩ = some (.int .i64 hi) := by rw [← hz]; simp [go_sem]
  refine (containsFunc_any _ _ l (ISl.of_row hR2 HL.out (by unfold maxLen; omega)) 49 #[.pointer (some ⟨w.heap.size + 1, 0, none⟩), .pointer (some ⟨w.heap.size + 1 + 1, 0, none⟩)] (fun n => decide (n < lo) || decide (hi < n)) Try.call49 (fun n => within_cl n lo hi _ _ _ hp hq)).mono ?_
  rintro e w' ⟨rfl, rfl⟩
  clear hp hq hR2
  go_wp2_with fail
  go_ret
  exact ⟨rfl, hE2⟩
/-- May a quantization block be? -/
def qOk (q : List Int) : Bool := allIn q 1 255
set_option maxRecDepth 100000 in
set_option maxHeartbeats 2000000 in
theorem qcheck_any (w : World) (q : List Int) (hq : q.length = 64) : Calls Try.prog 32 #[.agg (iv q)] w fun e w' => e = .returned (.int .i64 (if qOk q then 0 else 1)) ∧ Ext w w' := by
  have HL := hid hq
  have HI := hid (show (Try.prog.info? 23).map (·.size) = some q.length by rw [hq]; kernel_rfl)
  clear hq
  cases hk : qOk q
  all_goals
    have HK := hid hk
    clear hk
    go_enter Try.func32, Try.ntmps32
    go_wp2_with (first
      | (refine wpList_box_iv rfl 23 _ rfl q rfl ?_; intro w1 hR hE hz)
      | (refine wpList_load_iv rfl 23 _ rfl w.heap.size rfl q _ hR Try.underlying23 rfl HI.out ?_)
      | (go_at_call 45; refine (allWithin_any _ q HL.out 1 255).mono ?_; rintro e w' ⟨rfl, hE2⟩; rw [show allIn q 1 255 = _ from HK.out]; replace hE := hE.trans hE2; clear hE2))
    go_ret
    exact ⟨rfl, hE⟩
end Go.Proofs.Ythkdckmhmiebfaa
