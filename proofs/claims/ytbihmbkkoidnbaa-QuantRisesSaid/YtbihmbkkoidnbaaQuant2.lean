/- The walks of quant.Down, Up, Scale. -/
import Derived.Test.YtbihmbkkoidnbaaQuant
namespace Go.Proofs.Ytbihmbkkoidnbaa
open Go.RowKit
def zeros : List Int := List.replicate 64 0
set_option maxRecDepth 100000 in
set_option maxHeartbeats 2000000 in
/-- both, where something is out of its bounds. -/
theorem qboth_bad (w : World) (b q : List Int) (hb : b.length = 64) (hq : q.length = 64) (most : Int) (hm0 : 0 ≤ most) (hm1 : most ≤ 1000000) (K : Nat)
    (hQ : (qOk q && allIn b (-most) most) = false) :
    Calls Try.prog 33 #[.agg (iv b), .agg (iv q), .int .i64 most, .func (.func K) #[] #[]] w fun e w' => e = .returned (.tuple #[.agg (iv zeros), .int .i64 1]) ∧ Ext w w' := by
  have HLb := hid hb
  have HLq := hid hq
  have HIb := hid (show (Try.prog.info? 23).map (·.size) = some b.length by rw [hb]; kernel_rfl)
  have HIq := hid (show (Try.prog.info? 23).map (·.size) = some q.length by rw [hq]; kernel_rfl)
  have HIz := hid (show (Try.prog.info? 23).map (·.size) = some zeros.length by kernel_rfl)
  clear hb hq
  cases hk : qOk q
  · have HQ := hid hk
    clear hQ hk
    go_enter Try.func33, Try.ntmps33
    go_wp2_with (first
      | (refine wpList_box_iv rfl 23 _ rfl b rfl ?_; intro w1 hR1 hE1 hz1)
      | (refine wpList_box_iv rfl 23 _ rfl q rfl ?_; intro w2 hR2 hE2 hz2; replace hR1 := hR1.ext hE2; rw [hz1] at hR2 hz2; replace hE1 := hE1.trans hE2; clear hE2)
      | (refine wpList_alloc_iv rfl 23 rfl zeros (fun w => Try.zeroValue23 w) ?_; intro w3 hR3 hE3 hz3; replace hR1 := hR1.ext hE3; replace hR2 := hR2.ext hE3; rw [hz2] at hR3 hz3; replace hE1 := hE1.trans hE3; clear hE3)
      | (refine wpList_load_iv rfl 23 _ rfl (w.heap.size + 1) rfl q _ hR2 Try.underlying23 rfl HIq.out ?_)
      | (go_at_call 21; refine (qcheck_any _ q HLq.out).mono ?_; rintro e w' ⟨rfl, hE⟩; rw [HQ.out]; replace hR3 := hR3.ext hE; replace hE1 := hE1.trans hE; clear hE)
      | (refine wpList_store_iv rfl 23 _ _ rfl (w.heap.size + 1 + 1) rfl zeros zeros rfl hR3 HIz.out rfl ?_; replace hR3 := hR3.setRow zeros; replace hE1 := hE1.setRow (g := w.heap.size + 1 + 1) (by omega) (iv zeros)))
    refine bodyPost_ret (results_iv_tmp rfl _ _ (w.heap.size + 1 + 1) zeros _ rfl hR3 Try.underlying23 rfl HIz.out) rfl ?_
    exact ⟨rfl, hE1⟩
  · rw [hk, Bool.true_and] at hQ
    have HQ := hid hk
    have HB := hid hQ
    clear hQ hk
    go_enter Try.func33, Try.ntmps33
    go_wp2_with (first
      | (refine wpList_box_iv rfl 23 _ rfl b rfl ?_; intro w1 hR1 hE1 hz1)
      | (refine wpList_box_iv rfl 23 _ rfl q rfl ?_; intro w2 hR2 hE2 hz2; replace hR1 := hR1.ext hE2; rw [hz1] at hR2 hz2; replace hE1 := hE1.trans hE2; clear hE2)
      | (refine wpList_alloc_iv rfl 23 rfl zeros (fun w => Try.zeroValue23 w) ?_; intro w3 hR3 hE3 hz3; replace hR1 := hR1.ext hE3; replace hR2 := hR2.ext hE3; rw [hz2] at hR3 hz3; replace hE1 := hE1.trans hE3; clear hE3)
      | (refine wpList_load_iv rfl 23 _ rfl (w.heap.size + 1) rfl q _ hR2 Try.underlying23 rfl HIq.out ?_)
      | (refine wpList_load_iv rfl 23 _ rfl w.heap.size rfl b _ hR1 Try.underlying23 rfl HIb.out ?_)
      | (go_at_call 21; refine (qcheck_any _ q HLq.out).mono ?_; rintro e w' ⟨rfl, hE⟩; rw [HQ.out]; replace hR1 := hR1.ext hE; replace hR3 := hR3.ext hE; replace hE1 := hE1.trans hE; clear hE)
      | (go_at_call 38; refine (allWithin_any _ b HLb.out (-most) most).mono ?_; rintro e w' ⟨rfl, hE⟩; rw [HB.out]; replace hR3 := hR3.ext hE; replace hE1 := hE1.trans hE; clear hE)
      | (refine wpList_store_iv rfl 23 _ _ rfl (w.heap.size + 1 + 1) rfl zeros zeros rfl hR3 HIz.out rfl ?_; replace hR3 := hR3.setRow zeros; replace hE1 := hE1.setRow (g := w.heap.size + 1 + 1) (by omega) (iv zeros)))
    refine bodyPost_ret (results_iv_tmp rfl _ _ (w.heap.size + 1 + 1) zeros _ rfl hR3 Try.underlying23 rfl HIz.out) rfl ?_
    exact ⟨rfl, hE1⟩
def dn (n d : Int) : Int := min (max (rnd n d) (-2047)) 2047
def upF (n d : Int) : Int := min (max (n * d) (-40000)) 40000
def downR (b q : List Int) : List Int := if qOk q && allIn b (-40000) 40000 then zip2 dn b q else zeros
def downE (b q : List Int) : Int := if qOk q && allIn b (-40000) 40000 then 0 else 1
def upR (b q : List Int) : List Int := if qOk q && allIn b (-2047) 2047 then zip2 upF b q else zeros
def upE (b q : List Int) : Int := if qOk q && allIn b (-2047) 2047 then 0 else 1
theorem downR_len (b q : List Int) (hb : b.length = 64) (hq : q.length = 64) : (downR b q).length = 64 := by
  unfold downR; split
  · exact zip2_len _ _ _ hb hq
  · rfl
theorem upR_len (b q : List Int) (hb : b.length = 64) (hq : q.length = 64) : (upR b q).length = 64 := by
  unfold upR; split
  · exact zip2_len _ _ _ hb hq
  · rfl
theorem down_cl (n d : Int) (w : World) (h0 : -40000 ≤ n) (h1 : n ≤ 40000) (h2 : 1 ≤ d) (h3 : d ≤ 255) :
    Calls Try.prog 34 #[.int .i64 n, .int .i64 d] w fun e w' => e = .returned (.int .i64 (dn n d)) ∧ w = w' := by
  go_enter Try.func34, Try.ntmps34
  go_wp2_with (first
    | (go_at_call 36; refine (round_any _ _ _ (by omega) (by omega) (by omega) (by omega)).mono ?_; rintro e w' ⟨rfl, rfl⟩)
    | (go_at_call 35; refine (within_any _ _ _ (by omega) (by omega)).mono ?_; rintro e w' ⟨rfl, rfl⟩))
  go_ret
  exact ⟨rfl, rfl⟩
theorem down_both (w : World) (b q : List Int) (hb : b.length = 64) (hq : q.length = 64) :
    Calls Try.prog 33 #[.agg (iv b), .agg (iv q), .int .i64 40000, .func (.func 34) #[] #[]] w fun e w' => e = .returned (.tuple #[.agg (iv (downR b q)), .int .i64 (downE b q)]) ∧ Ext w w' := by
  cases h : qOk q && allIn b (-40000) 40000
  · rw [show downR b q = zeros by simp [downR, h], show downE b q = 1 by simp [downE, h]]
    exact qboth_bad w b q hb hq 40000 (by omega) (by omega) _ h
  · rw [show downR b q = zip2 dn b q by simp [downR, h], show downE b q = 0 by simp [downE, h]]
    rw [Bool.and_eq_true] at h
    exact qboth_ok w b q hb hq 40000 (by omega) (by omega) 34 dn Try.call34 down_cl h.1 h.2
set_option maxRecDepth 100000 in
set_option maxHeartbeats 1000000 in
theorem down_any (w : World) (b q : List Int) (hb : b.length = 64) (hq : q.length = 64) :
    Calls Try.prog 17 #[.agg (iv b), .agg (iv q)] w fun e w' => e = .returned (.tuple #[.agg (iv (downR b q)), .int .i64 (downE b q)]) ∧ Ext w w' := by
  have HC := hid (fun w => down_both w b q hb hq)
  have HIb := hid (show (Try.prog.info? 23).map (·.size) = some b.length by rw [hb]; kernel_rfl)
  have HIq := hid (show (Try.prog.info? 23).map (·.size) = some q.length by rw [hq]; kernel_rfl)
  have HIr := hid (show (Try.prog.info? 23).map (·.size) = some (downR b q).length by rw [downR_len b q hb hq]; kernel_rfl)
  have HL := hid (show zeros.length = (downR b q).length by rw [downR_len b q hb hq]; rfl)
  clear hb hq
  go_enter Try.func17, Try.ntmps17
  go_wp2_with (first
    | (refine wpList_box_iv rfl 23 _ rfl b rfl ?_; intro w1 hR1 hE1 hz1)
    | (refine wpList_box_iv rfl 23 _ rfl q rfl ?_; intro w2 hR2 hE2 hz2; replace hR1 := hR1.ext hE2; rw [hz1] at hR2 hz2; replace hE1 := hE1.trans hE2; clear hE2)
    | (refine wpList_alloc_iv rfl 23 rfl zeros (fun w => Try.zeroValue23 w) ?_; intro w3 hR3 hE3 hz3; replace hR1 := hR1.ext hE3; replace hR2 := hR2.ext hE3; rw [hz2] at hR3 hz3; replace hE1 := hE1.trans hE3; clear hE3)
    | (refine wpList_load_iv rfl 23 _ rfl (w.heap.size + 1) rfl q _ hR2 Try.underlying23 rfl HIq.out ?_)
    | (refine wpList_load_iv rfl 23 _ rfl w.heap.size rfl b _ hR1 Try.underlying23 rfl HIb.out ?_)
    | (go_at_call 33; refine (HC.out _).mono ?_; rintro e w' ⟨rfl, hE⟩; replace hR3 := hR3.ext hE; replace hE1 := hE1.trans hE; clear hE)
    | (refine wpList_store_iv rfl 23 _ _ rfl (w.heap.size + 1 + 1) rfl (downR b q) zeros rfl hR3 HIr.out HL.out ?_; replace hR3 := hR3.setRow (downR b q); replace hE1 := hE1.setRow (g := w.heap.size + 1 + 1) (by omega) (iv (downR b q))))
  refine bodyPost_ret (results_iv_tmp rfl _ _ (w.heap.size + 1 + 1) (downR b q) _ rfl hR3 Try.underlying23 rfl HIr.out) rfl ?_
  exact ⟨rfl, hE1⟩
theorem up_cl (n d : Int) (w : World) (h0 : -2047 ≤ n) (h1 : n ≤ 2047) (h2 : 1 ≤ d) (h3 : d ≤ 255) :
    Calls Try.prog 37 #[.int .i64 n, .int .i64 d] w fun e w' => e = .returned (.int .i64 (upF n d)) ∧ w = w' := by
  have ⟨p1, p2⟩ := mulb n d 2047 255 ⟨h0, h1⟩ ⟨by omega, h3⟩
  simp only [Int.reduceMul, Int.reduceNeg] at p1 p2
  go_enter Try.func37, Try.ntmps37
  go_wp2_with (go_at_call 35; refine (within_any _ _ _ (by omega) (by omega)).mono ?_; rintro e w' ⟨rfl, rfl⟩)
  go_ret
  exact ⟨rfl, rfl⟩
theorem up_both (w : World) (b q : List Int) (hb : b.length = 64) (hq : q.length = 64) :
    Calls Try.prog 33 #[.agg (iv b), .agg (iv q), .int .i64 2047, .func (.func 37) #[] #[]] w fun e w' => e = .returned (.tuple #[.agg (iv (upR b q)), .int .i64 (upE b q)]) ∧ Ext w w' := by
  cases h : qOk q && allIn b (-2047) 2047
  · rw [show upR b q = zeros by simp [upR, h], show upE b q = 1 by simp [upE, h]]
    exact qboth_bad w b q hb hq 2047 (by omega) (by omega) _ h
  · rw [show upR b q = zip2 upF b q by simp [upR, h], show upE b q = 0 by simp [upE, h]]
    rw [Bool.and_eq_true] at h
    exact qboth_ok w b q hb hq 2047 (by omega) (by omega) 37 upF Try.call37 up_cl h.1 h.2
set_option maxRecDepth 100000 in
set_option maxHeartbeats 1000000 in
theorem up_any (w : World) (b q : List Int) (hb : b.length = 64) (hq : q.length = 64) :
    Calls Try.prog 19 #[.agg (iv b), .agg (iv q)] w fun e w' => e = .returned (.tuple #[.agg (iv (upR b q)), .int .i64 (upE b q)]) ∧ Ext w w' := by
  have HC := hid (fun w => up_both w b q hb hq)
  have HIb := hid (show (Try.prog.info? 23).map (·.size) = some b.length by rw [hb]; kernel_rfl)
  have HIq := hid (show (Try.prog.info? 23).map (·.size) = some q.length by rw [hq]; kernel_rfl)
  have HIr := hid (show (Try.prog.info? 23).map (·.size) = some (upR b q).length by rw [upR_len b q hb hq]; kernel_rfl)
  have HL := hid (show zeros.length = (upR b q).length by rw [upR_len b q hb hq]; rfl)
  clear hb hq
  go_enter Try.func19, Try.ntmps19
  go_wp2_with (first
    | (refine wpList_box_iv rfl 23 _ rfl b rfl ?_; intro w1 hR1 hE1 hz1)
    | (refine wpList_box_iv rfl 23 _ rfl q rfl ?_; intro w2 hR2 hE2 hz2; replace hR1 := hR1.ext hE2; rw [hz1] at hR2 hz2; replace hE1 := hE1.trans hE2; clear hE2)
    | (refine wpList_alloc_iv rfl 23 rfl zeros (fun w => Try.zeroValue23 w) ?_; intro w3 hR3 hE3 hz3; replace hR1 := hR1.ext hE3; replace hR2 := hR2.ext hE3; rw [hz2] at hR3 hz3; replace hE1 := hE1.trans hE3; clear hE3)
    | (refine wpList_load_iv rfl 23 _ rfl (w.heap.size + 1) rfl q _ hR2 Try.underlying23 rfl HIq.out ?_)
    | (refine wpList_load_iv rfl 23 _ rfl w.heap.size rfl b _ hR1 Try.underlying23 rfl HIb.out ?_)
    | (go_at_call 33; refine (HC.out _).mono ?_; rintro e w' ⟨rfl, hE⟩; replace hR3 := hR3.ext hE; replace hE1 := hE1.trans hE; clear hE)
    | (refine wpList_store_iv rfl 23 _ _ rfl (w.heap.size + 1 + 1) rfl (upR b q) zeros rfl hR3 HIr.out HL.out ?_; replace hR3 := hR3.setRow (upR b q); replace hE1 := hE1.setRow (g := w.heap.size + 1 + 1) (by omega) (iv (upR b q))))
  refine bodyPost_ret (results_iv_tmp rfl _ _ (w.heap.size + 1 + 1) (upR b q) _ rfl hR3 Try.underlying23 rfl HIr.out) rfl ?_
  exact ⟨rfl, hE1⟩
end Go.Proofs.Ytbihmbkkoidnbaa
