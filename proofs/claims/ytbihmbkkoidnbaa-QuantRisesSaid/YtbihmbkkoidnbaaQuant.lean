/- The walks of package quant: Within, allWithin, Check, both, Down, Up; slices.ContainsFunc and IndexFunc at ints. -/
import Derived.Test.YtbihmbkkoidnbaaTint
import Derived.Test.YtbihmbkkoidnbaaFree
namespace Go.Proofs.Ytbihmbkkoidnbaa
open Go.RowKit
def firstIdx (p : Int → Bool) (xs : List Int) : Int := match xs.findIdx? p with | some i => (i : Int) | none => -1
theorem firstIdx_some (p : Int → Bool) (xs : List Int) (i : Nat) (h : i < xs.length) (hp : p (nth xs i) = true) (hpre : ∀ j, j < i → p (nth xs j) = false) : firstIdx p xs = i := by
  have : xs.findIdx? p = some i := by
    rw [List.findIdx?_eq_some_iff_getElem]
    refine ⟨h, by simpa [nth, List.getD, List.getElem?_eq_getElem h] using hp, fun j hj => ?_⟩
    have := hpre j hj
    simpa [nth, List.getD, List.getElem?_eq_getElem (show j < xs.length by omega)] using this
  simp [firstIdx, this]
theorem firstIdx_none (p : Int → Bool) (xs : List Int) (hpre : ∀ j, j < xs.length → p (nth xs j) = false) : firstIdx p xs = -1 := by
  have : xs.findIdx? p = none := by
    rw [List.findIdx?_eq_none_iff]
    intro x hx
    obtain ⟨j, hj, rfl⟩ := List.getElem_of_mem hx
    have := hpre j hj
    simpa [nth, List.getD, List.getElem?_eq_getElem hj] using this
  simp [firstIdx, this]
theorem firstIdx_any (p : Int → Bool) (xs : List Int) : decide (0 ≤ firstIdx p xs) = xs.any p := by
  unfold firstIdx
  rw [Bool.eq_iff_iff, decide_eq_true_eq, List.any_eq_true]
  cases h : xs.findIdx? p with
  | none =>
    rw [List.findIdx?_eq_none_iff] at h
    simp only [Int.reduceNeg]
    constructor
    · intro h'; omega
    · rintro ⟨x, hx, hp⟩; rw [h x hx] at hp; cases hp
  | some i =>
    rw [List.findIdx?_eq_some_iff_getElem] at h
    obtain ⟨hi, hp, _⟩ := h
    exact ⟨fun _ => ⟨_, List.getElem_mem hi, hp⟩, fun _ => by dsimp only; omega⟩
theorem firstIdx_bd (p : Int → Bool) (xs : List Int) : -1 ≤ firstIdx p xs := by
  unfold firstIdx; split <;> omega
set_option maxHeartbeats 1000000 in
theorem indexFunc_any (w : World) (v : Value) (xs : List Int) (hs : ISl w v xs) (K : Nat) (caps : Array Value) (p : Int → Bool) (hk : ∀ (args : Array Value) (w : World), (callFunc K args).run Try.prog w = .ok (.enter K args) w)
    (hf : ∀ n, Calls Try.prog K (#[.int .i64 n] ++ caps) w fun e w' => e = .returned (.bool (p n)) ∧ w = w') :
    Calls Try.prog 49 #[v, .func (.func K) #[] caps] w fun e w' => e = .returned (.int .i64 (firstIdx p xs)) ∧ w = w' := by
  obtain ⟨a, c, rfl, hc1, hc2, ha⟩ := hs.open
  have HF := hid hf
  clear hf
  go_enter Try.func49, Try.ntmps49
  go_wp2_with fail
  go_loopg [8] xs.length (fun gk xv wr => ∃ (i : Nat), gk + i = xs.length ∧ xv = .int .i64 i ∧ (∀ j, j < i → p (nth xs j) = false) ∧ wr = w)
  case atStart => exact ⟨0, rfl, rfl, fun j hj => by omega, rfl⟩
  case round =>
    obtain ⟨i, hi, rfl, hpre, rfl⟩ := hrel
    have hi' : i ≤ xs.length := by omega
    have HP := hid hpre
    clear hpre
    by_cases hlt : i < xs.length
    · obtain ⟨ba, oa, rfl, hca⟩ := ha i hlt
      have h1 := hca i hlt
      clear ha hca
      have HM : Hid (gk - 1 + (i + 1) = xs.length) := by unfold Hid; omega
      have HG : Hid (gk - 1 < gk) := by unfold Hid; omega
      clear hi
      go_wp2_with fail
      refine (HF.out (nth xs i)).mono ?_
      rintro e w' ⟨rfl, rfl⟩
      by_cases hp : p (nth xs i) = true
      · have HX := hid (firstIdx_some p xs i hlt hp HP.out)
        rw [hp]
        clear hp
        go_wp2_with fail
        go_ret
        exact ⟨ret_int HX.out.symm, rfl⟩
      · have hp' : p (nth xs i) = false := by simpa using hp
        have HX : Hid (∀ j, j < i + 1 → p (nth xs j) = false) := fun j hj => by
          by_cases hji : j = i
          · subst hji; exact hp'
          · exact HP.out j (by omega)
        rw [hp']
        clear hp hp'
        go_wp2_with fail
        go_roundg (gk - 1)
        case measure => exact HG.out
        case rel => exact ⟨i + 1, HM.out, by go_num, HX.out, rfl⟩
    · have HX := hid (firstIdx_none p xs (fun j hj => HP.out j (by omega)))
      clear ha
      go_wp2_with fail
      go_ret
      exact ⟨ret_int HX.out.symm, rfl⟩
theorem containsFunc_any (w : World) (v : Value) (xs : List Int) (hs : ISl w v xs) (K : Nat) (caps : Array Value) (p : Int → Bool) (hk : ∀ (args : Array Value) (w : World), (callFunc K args).run Try.prog w = .ok (.enter K args) w)
    (hf : ∀ n, Calls Try.prog K (#[.int .i64 n] ++ caps) w fun e w' => e = .returned (.bool (p n)) ∧ w = w') :
    Calls Try.prog 41 #[v, .func (.func K) #[] caps] w fun e w' => e = .returned (.bool (xs.any p)) ∧ w = w' := by
  have HA := hid (firstIdx_any p xs)
  have hb := firstIdx_bd p xs
  have HF := hid (indexFunc_any w v xs hs K caps p hk hf)
  clear hf hs
  go_enter Try.func41, Try.ntmps41
  go_wp2_with (go_at_call 49; refine HF.out.mono ?_; rintro e w' ⟨rfl, rfl⟩)
  go_ret
  exact ⟨ret_bool HA.out, rfl⟩
/-- Are all numbers within bounds? -/
def allIn (l : List Int) (lo hi : Int) : Bool := !l.any fun n => decide (n < lo) || decide (hi < n)
theorem allIn_iff (l : List Int) (lo hi : Int) : allIn l lo hi = true ↔ ∀ i, i < l.length → lo ≤ nth l i ∧ nth l i ≤ hi := by
  unfold allIn
  rw [Bool.not_eq_true', List.any_eq_false]
  constructor
  · intro h i hi
    have := h l[i] (List.getElem_mem hi)
    simp only [Bool.or_eq_true, decide_eq_true_eq, not_or] at this
    simp only [nth, List.getD, List.getElem?_eq_getElem hi, Option.getD_some]
    omega
  · intro h x hx
    obtain ⟨j, hj, rfl⟩ := List.getElem_of_mem hx
    have := h j hj
    simp only [nth, List.getD, List.getElem?_eq_getElem hj, Option.getD_some] at this
    simp only [Bool.or_eq_true, decide_eq_true_eq, not_or]
    omega
theorem within_cl (n lo hi : Int) (p q : Addr) (w : World) (hp : w.cell? p = some (.int .i64 lo)) (hq : w.cell? q = some (.int .i64 hi)) :
    Calls Try.prog 46 #[.int .i64 n, .pointer (some p), .pointer (some q)] w fun e w' => e = .returned (.bool (decide (n < lo) || decide (hi < n))) ∧ w = w' := by
  by_cases h : n < lo
  · have h2 : decide (n < lo) = true := by simpa using h
    rw [h2]
    go_enter Try.func46, Try.ntmps46
    go_wp2_with fail
    go_ret
    exact ⟨rfl, rfl⟩
  · have h2 : decide (n < lo) = false := by simpa using h
    rw [h2, Bool.false_or]
    have h3 : lo ≤ n := by omega
    clear h
    go_enter Try.func46, Try.ntmps46
    go_wp2_with fail
    go_ret
    exact ⟨rfl, rfl⟩
set_option maxRecDepth 100000 in
set_option maxHeartbeats 1000000 in
theorem allWithin_any (w : World) (l : List Int) (hl : l.length = 64) (lo hi : Int) : Calls Try.prog 38 #[.agg (iv l), .int .i64 lo, .int .i64 hi] w fun e w' => e = .returned (.bool (allIn l lo hi)) ∧ Ext w w' := by
  have hmf : ∀ (fn : Fn) (first cap : Array Value) (w : World), (Instr.makeFunc fn first cap).run Try.prog w = .ok (.func fn first cap) w := fun _ _ _ _ => rfl
  have HL := hid hl
  clear hl
  go_enter Try.func38, Try.ntmps38
  go_wp2_with (refine wpList_box_iv rfl 23 _ rfl l rfl ?_; intro w1 hR hE hz)
  have hR2 := (hR.alloc (.cells #[.int .i64 lo] 3)).alloc (.cells #[.int .i64 hi] 3)
  have hE2 := (hE.alloc (.cells #[.int .i64 lo] 3)).alloc (.cells #[.int .i64 hi] 3)
  have hp : ((w1.alloc (.cells #[.int .i64 lo] 3)).alloc (.cells #[.int .i64 hi] 3)).cell? ⟨w.heap.size + 1, 0, none⟩ = some (.int .i64 lo) := by rw [← hz]; simp [go_sem]
  have hq : ((w1.alloc (.cells #[.int .i64 lo] 3)).alloc (.cells #[.int .i64 hi] 3)).cell? ⟨w.heap.size + 1 + 1, 0, none⟩ = some (.int .i64 hi) := by rw [← hz]; simp [go_sem]
  refine (containsFunc_any _ _ l (ISl.of_row hR2 HL.out (by unfold maxLen; omega)) 46 #[.pointer (some ⟨w.heap.size + 1, 0, none⟩), .pointer (some ⟨w.heap.size + 1 + 1, 0, none⟩)] (fun n => decide (n < lo) || decide (hi < n)) Try.call46 (fun n => within_cl n lo hi _ _ _ hp hq)).mono ?_
  rintro e w' ⟨rfl, rfl⟩
  clear hp hq hR2
  go_wp2_with fail
  go_ret
  exact ⟨rfl, hE2⟩
theorem within_any (n m : Int) (w : World) (h0 : 0 ≤ m) (h1 : m ≤ 9223372036854775807) : Calls Try.prog 35 #[.int .i64 n, .int .i64 m] w fun e w' => e = .returned (.int .i64 (min (max n (-m)) m)) ∧ w = w' := by
  go_enter Try.func35, Try.ntmps35
  go_wp2_with fail
  go_ret
  exact ⟨rfl, rfl⟩
/-- May a quantization block be? -/
def qOk (q : List Int) : Bool := allIn q 1 255
set_option maxHeartbeats 1000000 in
theorem qcheck_any (w : World) (q : List Int) (hq : q.length = 64) : Calls Try.prog 21 #[.agg (iv q)] w fun e w' => e = .returned (.int .i64 (if qOk q then 0 else 1)) ∧ Ext w w' := by
  have HL := hid hq
  have HI := hid (show (Try.prog.info? 23).map (·.size) = some q.length by rw [hq]; kernel_rfl)
  clear hq
  cases hk : qOk q
  all_goals
    have HK := hid hk
    clear hk
    go_enter Try.func21, Try.ntmps21
    go_wp2_with (first
      | (refine wpList_box_iv rfl 23 _ rfl q rfl ?_; intro w1 hR hE hz)
      | (refine wpList_load_iv rfl 23 _ rfl w.heap.size rfl q _ hR Try.underlying23 rfl HI.out ?_)
      | (go_at_call 38; refine (allWithin_any _ q HL.out 1 255).mono ?_; rintro e w' ⟨rfl, hE2⟩; rw [show allIn q 1 255 = _ from HK.out]; replace hE := hE.trans hE2; clear hE2))
    go_ret
    exact ⟨rfl, hE⟩
/-- A result that is a row of ints in memory, and a value beside it. -/
theorem results_iv_tmp {P : Program} {fn : Func} {p u : Tmp} {ty : TypeId} (h : fn.results = #[.cell p ty, .tmp u]) (tmps : Array Value) (w : World) (g : Nat) (l : List Int) (d : TypeDesc)
    (hp : tmps.getD p undef = .pointer (some ⟨g, 0, none⟩)) (hr : Row w g l) (hu : P.underlying ty = some d) (hd : d.isRow = true) (hi : (P.info? ty).map (·.size) = some l.length) :
    (results fn tmps).run P w = .ok (.tuple #[.agg (iv l), tmps.getD u undef]) w := by
  have hp' : tmps[p]?.getD undef = .pointer (some ⟨g, 0, none⟩) := by simpa using hp
  have hl := run_loadVar_mid (P := P) w g 0 ty (l.map (Value.int .i64)) d hr.range hu hd (by rw [hi, List.length_map])
  simp [results, h, hp', asAddr, hl, iv]
theorem nth_set (l : List Int) (i : Nat) (x : Int) (j : Nat) (hi : i < l.length) : nth (l.set i x) j = if j = i then x else nth l j := by
  simp only [nth, List.getD, List.getElem?_set]
  by_cases h : i = j
  · subst h; simp [hi]
  · have h2 : ¬ j = i := fun e => h e.symm
    simp [h, h2]
/-- Number by number. -/
def zip2 (g : Int → Int → Int) (b q : List Int) : List Int := List.zipWith g b q
theorem zip2_len (g : Int → Int → Int) (b q : List Int) (hb : b.length = 64) (hq : q.length = 64) : (zip2 g b q).length = 64 := by simp [zip2, hb, hq]
theorem zip2_get (g : Int → Int → Int) (b q : List Int) (hb : b.length = 64) (hq : q.length = 64) (i : Nat) (hi : i < 64) : nth (zip2 g b q) i = g (nth b i) (nth q i) := by
  simp [nth, zip2, List.getD, List.getElem?_zipWith, List.getElem?_eq_getElem (show i < b.length by omega), List.getElem?_eq_getElem (show i < q.length by omega)]
def mixed (m b : List Int) (i : Nat) : List Int := m.take i ++ b.drop i
theorem mixed_zero (m b : List Int) : mixed m b 0 = b := by simp [mixed]
theorem mixed_all (m b : List Int) (h : m.length = b.length) : mixed m b b.length = m := by simp [mixed, ← h]
theorem mixed_len (m b : List Int) (h : m.length = b.length) (i : Nat) (hi : i ≤ b.length) : (mixed m b i).length = b.length := by simp [mixed]; omega
theorem mixed_set (m b : List Int) (h : m.length = b.length) (i : Nat) (hi : i < b.length) : (mixed m b i).set i (nth m i) = mixed m b (i + 1) := by
  unfold mixed
  have e1 : (m.take i).length = i := by simp; omega
  rw [List.set_append_right _ _ (by omega), e1, Nat.sub_self, List.drop_eq_getElem_cons hi, List.set_cons_zero, List.take_add_one, List.getElem?_eq_getElem (by omega), List.append_assoc]
  simp [nth, List.getD, List.getElem?_eq_getElem (show i < m.length by omega)]
set_option maxRecDepth 100000 in
set_option maxHeartbeats 2000000 in
/-- both, where all is within its bounds. -/
theorem qboth_ok (w : World) (b q : List Int) (hb : b.length = 64) (hq : q.length = 64) (most : Int) (hm0 : 0 ≤ most) (hm1 : most ≤ 1000000) (K : Nat) (g : Int → Int → Int)
    (hk : ∀ (args : Array Value) (w : World), (callFunc K args).run Try.prog w = .ok (.enter K args) w)
    (hf : ∀ (n d : Int) (w : World), -most ≤ n → n ≤ most → 1 ≤ d → d ≤ 255 → Calls Try.prog K #[.int .i64 n, .int .i64 d] w fun e w' => e = .returned (.int .i64 (g n d)) ∧ w = w')
    (hQ : qOk q = true) (hB : allIn b (-most) most = true) :
    Calls Try.prog 33 #[.agg (iv b), .agg (iv q), .int .i64 most, .func (.func K) #[] #[]] w fun e w' => e = .returned (.tuple #[.agg (iv (zip2 g b q)), .int .i64 0]) ∧ Ext w w' := by
  have HLb := hid hb
  have HLq := hid hq
  have HIb := hid (show (Try.prog.info? 23).map (·.size) = some b.length by rw [hb]; kernel_rfl)
  have HIq := hid (show (Try.prog.info? 23).map (·.size) = some q.length by rw [hq]; kernel_rfl)
  have HQ := hid hQ
  have HB := hid hB
  have HF := hid hf
  have HZ := hid (zip2_len g b q hb hq)
  clear hb hq hQ hB hf
  go_enter Try.func33, Try.ntmps33
  go_wp2_with (first
    | (refine wpList_box_iv rfl 23 _ rfl b rfl ?_; intro w1 hR1 hE1 hz1)
    | (refine wpList_box_iv rfl 23 _ rfl q rfl ?_; intro w2 hR2 hE2 hz2; replace hR1 := hR1.ext hE2; rw [hz1] at hR2 hz2; replace hE1 := hE1.trans hE2; clear hE2)
    | (refine wpList_alloc_iv rfl 23 rfl (List.replicate 64 0) (fun w => Try.zeroValue23 w) ?_; intro w3 hR3 hE3 hz3; replace hR1 := hR1.ext hE3; replace hR2 := hR2.ext hE3; rw [hz2] at hR3 hz3; replace hE1 := hE1.trans hE3; clear hE3)
    | (refine wpList_load_iv rfl 23 _ rfl (w.heap.size + 1) rfl q _ hR2 Try.underlying23 rfl HIq.out ?_)
    | (refine wpList_load_iv rfl 23 _ rfl w.heap.size rfl b _ hR1 Try.underlying23 rfl HIb.out ?_)
    | (go_at_call 21; refine (qcheck_any _ q HLq.out).mono ?_; rintro e w' ⟨rfl, hE⟩; rw [HQ.out]; replace hR1 := hR1.ext hE; replace hR2 := hR2.ext hE; replace hR3 := hR3.ext hE; replace hE1 := hE1.trans hE; clear hE))
  refine (allWithin_any _ b HLb.out (-most) most).mono ?_
  rintro e w4 ⟨rfl, hE⟩
  rw [HB.out]
  replace hR1 := hR1.ext hE
  replace hR2 := hR2.ext hE
  replace hR3 := hR3.ext hE
  replace hE1 := hE1.trans hE
  clear hE
  go_wp2_with (first
    | (refine wpList_load_iv rfl 23 _ rfl w.heap.size rfl b _ hR1 Try.underlying23 rfl HIb.out ?_))
  go_loopg [27] 64 (fun gk xv wr => ∃ (i : Nat), gk + i = 64 ∧ xv = .int .i64 i ∧ Row wr w.heap.size (mixed (zip2 g b q) b i) ∧ Row wr (w.heap.size + 1) q ∧ Row wr (w.heap.size + 1 + 1) (List.replicate 64 0) ∧ Ext w wr)
  case atStart => exact ⟨0, rfl, rfl, by rw [mixed_zero]; exact hR1, hR2, hR3, hE1⟩
  case round =>
    clear hR1 hR2 hR3 hE1
    obtain ⟨i, hi, rfl, hR1, hR2, hR3, hE1⟩ := hrel
    by_cases hlt : i < 64
    · have hbi := iv_get b i (by rw [HLb.out]; exact hlt)
      have hqi := hR2.cell i (by rw [HLq.out]; exact hlt)
      have hzb : (zip2 g b q).length = b.length := by rw [HZ.out, HLb.out]
      have hcell := hR1.cell i (by rw [mixed_len _ _ hzb i (by rw [HLb.out]; omega), HLb.out]; exact hlt)
      have hfree := hR1.free i
      have h1 := hR1.set i (nth (zip2 g b q) i)
      rw [mixed_set _ _ hzb i (by rw [HLb.out]; exact hlt), zip2_get g b q HLb.out HLq.out i hlt] at h1
      have HR1 := hid h1
      have HR2 := hid (hR2.setOther ⟨w.heap.size, i, none⟩ (.int .i64 (g (nth b i) (nth q i))) (by simp))
      have HR3 := hid (hR3.setOther ⟨w.heap.size, i, none⟩ (.int .i64 (g (nth b i) (nth q i))) (by simp; omega))
      have HE := hid (hE1.setCell (a := ⟨w.heap.size, i, none⟩) (Nat.le_refl _) (.int .i64 (g (nth b i) (nth q i))))
      have HM : Hid (gk - 1 + (i + 1) = 64) := by unfold Hid; omega
      have HG : Hid (gk - 1 < gk) := by unfold Hid; omega
      have hbb := (allIn_iff _ _ _).1 HB.out i (by rw [HLb.out]; exact hlt)
      have hqq := (allIn_iff _ _ _).1 HQ.out i (by rw [HLq.out]; exact hlt)
      obtain ⟨hbb1, hbb2⟩ := hbb
      obtain ⟨hqq1, hqq2⟩ := hqq
      clear hi h1 hzb hR1 hR2 hR3 hE1
      go_wp2_with fail
      refine (HF.out (nth b i) (nth q i) _ hbb1 hbb2 hqq1 hqq2).mono ?_
      rintro e w' ⟨rfl, rfl⟩
      go_wp2_with fail
      go_roundg (gk - 1)
      case measure => exact HG.out
      case rel => exact ⟨i + 1, HM.out, by go_num, HR1.out, HR2.out, HR3.out, HE.out⟩
    · obtain rfl : i = 64 := by omega
      have h64 := mixed_all (zip2 g b q) b (by rw [HZ.out, HLb.out])
      rw [HLb.out] at h64
      rw [h64] at hR1
      have HIz := hid (show (Try.prog.info? 23).map (·.size) = some (zip2 g b q).length by rw [HZ.out]; kernel_rfl)
      have HL := hid (show (List.replicate 64 (0 : Int)).length = (zip2 g b q).length by rw [HZ.out]; rfl)
      clear h64 hR2
      have hR4 := hR3.setRow (zip2 g b q)
      have hE4 := hE1.setRow (g := w.heap.size + 1 + 1) (by omega) (iv (zip2 g b q))
      go_wp2_with (first
        | (refine wpList_load_iv rfl 23 _ rfl w.heap.size rfl (zip2 g b q) _ hR1 Try.underlying23 rfl HIz.out ?_)
        | (refine wpList_store_iv rfl 23 _ _ rfl (w.heap.size + 1 + 1) rfl (zip2 g b q) (List.replicate 64 0) rfl hR3 HIz.out HL.out ?_))
      refine bodyPost_ret (results_iv_tmp rfl _ _ (w.heap.size + 1 + 1) (zip2 g b q) _ rfl hR4 Try.underlying23 rfl HIz.out) rfl ?_
      exact ⟨rfl, hE4⟩
end Go.Proofs.Ytbihmbkkoidnbaa
