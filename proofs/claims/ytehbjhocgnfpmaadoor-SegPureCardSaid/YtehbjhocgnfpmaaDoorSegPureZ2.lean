/- The law SegPure: what its proof needs, part 2. -/
import Derived.Test.YtehbjhocgnfpmaaDoorSegPureZ1
import Derived.Deep.MidRow
/- Slices of structs of three ints: an element's cells; mezzotintref.Eq at them. -/
namespace Go.Proofs.YtehbjhocgnfpmaaDoor
open Go.RowKit
set_option linter.unusedVariables false
/-- The element at a place. -/
theorem trip_at {W : World} {ad : Option Addr} {n c : Nat} {ns : List Int} (hv : Sl W 3 (.slice ad n c) n (ns.map (Value.int .i64))) (i : Nat) (hi : i < n) :
    ∃ b off, ad = some ⟨b, off, none⟩ ∧ W.rangeAt b (off + i * 3) ([nth ns (i * 3), nth ns (i * 3 + 1), nth ns (i * 3 + 2)].map (Value.int .i64)) := by
  obtain ⟨hl, a', c', e, _, _, hor⟩ := hv
  rw [List.length_map] at hl
  cases e
  rcases hor with h | ⟨b, off, rfl, hcell⟩
  · omega
  · refine ⟨b, off, rfl, fun j u hu => ?_⟩
    have hj : j < 3 := by have := (List.getElem?_eq_some_iff.1 hu).1; simpa using this
    have h1 := hcell (i * 3 + j) (by omega)
    rw [List.getElem?_map, get_nth ns _ (by omega)] at h1
    rw [Nat.add_assoc, h1, ← hu]
    rcases (show j = 0 ∨ j = 1 ∨ j = 2 by omega) with rfl | rfl | rfl <;> rfl
theorem trip_take (ns : List Int) (n i : Nat) (hl : ns.length = n * 3) (hi : i < n) : ns.take ((i + 1) * 3) = ns.take (i * 3) ++ [nth ns (i * 3), nth ns (i * 3 + 1), nth ns (i * 3 + 2)] := by
  have g : ∀ j (hj : j < ns.length), nth ns j = ns[j] := fun j hj => by simp [nth, List.getD, hj]
  rw [show (i + 1) * 3 = i * 3 + 1 + 1 + 1 by omega, List.take_succ_eq_append_getElem (by omega), List.take_succ_eq_append_getElem (by omega), List.take_succ_eq_append_getElem (by omega), g _ (by omega), g _ (by omega), g _ (by omega), List.append_assoc, List.append_assoc]; rfl
theorem trip_seg (ns : List Int) (n i : Nat) (hl : ns.length = n * 3) (hi : i < n) : (ns.drop (i * 3)).take 3 = [nth ns (i * 3), nth ns (i * 3 + 1), nth ns (i * 3 + 2)] := by
  have e := trip_take ns n i hl hi
  have e2 : ns.take ((i + 1) * 3) = ns.take (i * 3) ++ (ns.drop (i * 3)).take 3 := by rw [show (i + 1) * 3 = i * 3 + 3 by omega, List.take_add]
  rw [e] at e2
  exact (List.append_cancel_left e2).symm
set_option maxRecDepth 100000 in
set_option maxHeartbeats 4000000 in
theorem slEqTok_any (w0 : World) (a b : Option Addr) (n c m d : Nat) (xs ys : List Int) (ha : Sl w0 3 (.slice a n c) n (xs.map (Value.int .i64))) (hb : Sl w0 3 (.slice b m d) m (ys.map (Value.int .i64))) (hn : n ≤ 9223372036854775807) (hm : m ≤ 9223372036854775807) :
    Calls Tryd.prog 74 #[.slice a n c, .slice b m d] w0 fun e w => e = .returned (.bool (decide (xs = ys))) ∧ Ext w0 w := by
  have hlx : xs.length = n * 3 := by have := ha.1; simpa using this
  have hly : ys.length = m * 3 := by have := hb.1; simpa using this
  have HX := hid hlx
  have HY := hid hly
  clear hlx hly
  have hS := St.start w0
  by_cases hnm : n = m
  case neg =>
    have HD := hid (show decide (xs = ys) = false by rw [decide_eq_false_iff_not]; intro h; rw [h] at HX; have := HX.out; have := HY.out; omega)
    go_enter Tryd.func74, Tryd.ntmps74
    repeat' (first
      | ((with_reducible apply gt9 _ (.move _)); (first | go_big_want | go_step); go_step) | ((with_reducible apply gt9 _ (.assign _)); (first | go_big_want | go_step); go_step) | ((with_reducible apply gt9 _ (.call ⟨.builtin .len, _, _⟩)); (refine wvv9 (V.len Tryd.underlying100 rfl) ?_; go_step)) | ((with_reducible apply gt9 _ (.binOp .neq 3 _ _ _)); (refine wvv9 (V.neq rfl rfl) ?_; go_step)) | ((fail_if_success with_reducible apply ga9); go_step))
    all_goals (go_ret; exact ⟨(by rw [HD.out]; first | done | rfl), hS.1⟩)
  subst hnm
  go_enter Tryd.func74, Tryd.ntmps74
  repeat' (first
    | ((with_reducible apply gt9 _ (.move _)); (first | go_big_want | go_step); go_step) | ((with_reducible apply gt9 _ (.assign _)); (first | go_big_want | go_step); go_step) | ((with_reducible apply gt9 _ (.call ⟨.builtin .len, _, _⟩)); (refine wvv9 (V.len Tryd.underlying100 rfl) ?_; go_step)) | ((with_reducible apply gt9 _ (.binOp .neq 3 _ _ _)); (refine wvv9 (V.neq rfl rfl) ?_; go_step)) | ((fail_if_success with_reducible apply ga9); go_step))
  go_loopg [13] n (fun gk kv w => ∃ k : Nat, gk + k = n ∧ kv = .int .i64 k ∧ Hid (xs.take (k * 3) = ys.take (k * 3)) ∧ St w0 w [])
  case atStart => exact ⟨0, rfl, rfl, hid rfl, hS.sub sb9⟩
  case round =>
    clear hS
    obtain ⟨k, hk, rfl, HP, hS⟩ := hrel
    by_cases hlt : k < n
    · obtain ⟨ba, oa, rfl, hra⟩ := trip_at ha k hlt
      obtain ⟨bb, ob, rfl, hrb⟩ := trip_at hb k hlt
      have HT1 := hid (trip_take xs n k HX.out hlt)
      have HT2 := hid (trip_take ys n k HY.out hlt)
      obtain ⟨x0, hx0⟩ : ∃ x, nth xs (k * 3) = x := ⟨_, rfl⟩
      obtain ⟨x1, hx1⟩ : ∃ x, nth xs (k * 3 + 1) = x := ⟨_, rfl⟩
      obtain ⟨x2, hx2⟩ : ∃ x, nth xs (k * 3 + 2) = x := ⟨_, rfl⟩
      obtain ⟨y0, hy0⟩ : ∃ x, nth ys (k * 3) = x := ⟨_, rfl⟩
      obtain ⟨y1, hy1⟩ : ∃ x, nth ys (k * 3 + 1) = x := ⟨_, rfl⟩
      obtain ⟨y2, hy2⟩ : ∃ x, nth ys (k * 3 + 2) = x := ⟨_, rfl⟩
      rw [hx0, hx1, hx2] at hra HT1
      rw [hy0, hy1, hy2] at hrb HT2
      clear hx0 hx1 hx2 hy0 hy1 hy2
      have hl3 : Len [x0, x1, x2] 3 := rfl
      have hm3 : Len [y0, y1, y2] 3 := rfl
      repeat' (first
        | ((with_reducible apply gt9 _ (.move _)); (first | go_big_want | go_step); go_step) | ((with_reducible apply gt9 _ (.assign _)); (first | go_big_want | go_step); go_step) | ((with_reducible apply gt9 _ (.binOp .lss _ _ _ _)); (refine wvv9 (V.lss rfl rfl) ?_; go_step)) | ((fail_if_success with_reducible apply ga9); go_step))
      refine drawn_lit [] (fun w => St w0 w []) (by kernel_rfl) ?_
      replace hS := hS.drew
      focus
        refine takeM 0 _ al9 (by kernel_rfl) (by kernel_rfl) (by kernel_rfl) (by exact fun _ _ _ _ h => h) rfl ?_
        go_step
        refine takeM 1 _ al9 (by kernel_rfl) (by kernel_rfl) (by kernel_rfl) (by exact fun _ _ _ _ h => h) rfl ?_
        go_step
        (refine takeV 2 _ al9 (by kernel_rfl) (by kernel_rfl) (by kernel_rfl) (by exact fun _ _ _ _ h => h) (V.indexSl Tryd.underlying100 isz69 rfl rfl isn9 (by omega) rfl nq9) rfl ?_)
        go_step
        apply takeS 3 al9 (by kernel_rfl) (by kernel_rfl) (by kernel_rfl) (by exact fun _ _ _ _ h => h) [8] (by kernel_rfl) (hS.sub sb9)
        case hfr => intro w hS; ((refine wpl (by kernel_rfl) ?_; apply wp_loadRW hS 69 _ rfl _ _ rfl 3 (row_of rfl) _; (case hc => with_reducible assumption); (case hn => rfl); refine put_move ?_; go_step)); refine wpList_nil ?_; exact ⟨rfl, rfl⟩
        case hd => rfl
        refine takeM 4 _ al9 (by kernel_rfl) (by kernel_rfl) (by kernel_rfl) (by exact fun _ _ _ _ h => h) rfl ?_
        go_step
        refine takeM 5 _ al9 (by kernel_rfl) (by kernel_rfl) (by kernel_rfl) (by exact fun _ _ _ _ h => h) rfl ?_
        go_step
        (refine takeV 6 _ al9 (by kernel_rfl) (by kernel_rfl) (by kernel_rfl) (by exact fun _ _ _ _ h => h) (V.indexSl Tryd.underlying100 isz69 rfl rfl isn9 (by omega) rfl nq9) rfl ?_)
        go_step
        apply takeS 7 al9 (by kernel_rfl) (by kernel_rfl) (by kernel_rfl) (by exact fun _ _ _ _ h => h) [8] (by kernel_rfl) (hS.sub sb9)
        case hfr => intro w hS; ((refine wpl (by kernel_rfl) ?_; apply wp_loadRI hS 69 _ rfl _ _ rfl 3 (row_of rfl) _; (case hl => with_reducible assumption); (case hr => with_reducible assumption); refine put_move ?_; go_step)); refine wpList_nil ?_; exact ⟨rfl, rfl⟩
        case hd => rfl
        (refine takeV 8 _ al9 (by kernel_rfl) (by kernel_rfl) (by kernel_rfl) (by exact fun _ _ _ _ h => h) (V.neqA eqt69 rfl rfl (by (repeat (first | assumption | exact Len.rep | apply Len.set | ((with_reducible show Len (_ :: _) _); exact rfl)))) (by (repeat (first | assumption | exact Len.rep | apply Len.set | ((with_reducible show Len (_ :: _) _); exact rfl))))) rfl ?_)
        go_step
        refine drawn_done (by kernel_rfl) ?_ _
      all_goals
        by_cases he : [x0, x1, x2] = [y0, y1, y2]
        · have HE2 : Hid (xs.take ((k + 1) * 3) = ys.take ((k + 1) * 3)) := hid (by rw [HT1.out, HT2.out, HP.out, he])
          have hd : decide ([x0, x1, x2] ≠ [y0, y1, y2]) = false := by simpa using he
          rw [hd]
          clear he hd
          repeat' (first
            | ((with_reducible apply gt9 _ (.move _)); (first | go_big_want | go_step); go_step) | ((with_reducible apply gt9 _ (.binOp .add _ _ _ _)); (refine wvv9 (V.addI rfl rfl (by omega)) ?_; go_step)) | ((fail_if_success with_reducible apply ga9); go_step))
          go_roundg (gk - 1)
          case measure => omega
          case rel => exact ⟨k + 1, by omega, by go_num, HE2, hS.sub sb9⟩
        · have HD := hid (show decide (xs = ys) = false by
            rw [decide_eq_false_iff_not]; intro h
            have h1 := HT1.out
            have h2 := HT2.out
            rw [h] at h1
            rw [h1, ← h, HP.out] at h2
            exact he (List.append_cancel_left h2))
          have hd : decide ([x0, x1, x2] ≠ [y0, y1, y2]) = true := decide_eq_true he
          rw [hd]
          clear he hd
          repeat' (first
            | ((with_reducible apply gt9 _ (.assign _)); (first | go_big_want | go_step); go_step) | ((fail_if_success with_reducible apply ga9); go_step))
          go_ret
          exact ⟨(by rw [HD.out]; first | done | rfl), hS.1⟩
    · obtain rfl : k = n := by omega
      have HD := hid (show decide (xs = ys) = true by
        rw [decide_eq_true_eq]
        have := HP.out
        rwa [List.take_of_length_le (by rw [HX.out]; exact Nat.le_refl _), List.take_of_length_le (by rw [HY.out]; exact Nat.le_refl _)] at this)
      repeat' (first
        | ((with_reducible apply gt9 _ (.assign _)); (first | go_big_want | go_step); go_step) | ((with_reducible apply gt9 _ (.binOp .lss _ _ _ _)); (refine wvv9 (V.lss rfl rfl) ?_; go_step)) | ((fail_if_success with_reducible apply ga9); go_step))
      go_ret
      exact ⟨(by rw [HD.out]; first | done | rfl), hS.1⟩
end Go.Proofs.YtehbjhocgnfpmaaDoor

/- The walks of slices.ContainsFunc and IndexFunc at ints. -/
namespace Go.Proofs.YtehbjhocgnfpmaaDoor
open Go.RowKit
def firstIdx (p : Int → Bool) (xs : List Int) : Int := match xs.findIdx? p with | some i => (i : Int) | none => -1
theorem firstIdx_some (p : Int → Bool) (xs : List Int) (i : Nat) (h : i < xs.length) (hp : p (nth xs i) = true) (hpre : ∀ j, j < i → p (nth xs j) = false) : firstIdx p xs = i := by
  have : xs.findIdx? p = some i := by
    rw [List.findIdx?_eq_some_iff_getElem]
    refine ⟨h, by simpa [nth, List.getD, List.getElem?_eq_getElem h] using hp, fun j hj => ?_⟩
    have := hpre j hj
    simpa [nth, List.getD, List.getElem?_eq_getElem (show j < xs.length by omega)] using this
  simp [firstIdx, this]
theorem firstIdx_none (p : Int → Bool) (xs : List Int) (hpre : ∀ j, j < xs.length → p (nth xs j) = false) : firstIdx p xs = -1 := by
  have : xs.findIdx? p = none := by
    rw [List.findIdx?_eq_none_iff]
    intro x hx
    obtain ⟨j, hj, rfl⟩ := List.getElem_of_mem hx
    have := hpre j hj
    simpa [nth, List.getD, List.getElem?_eq_getElem hj] using this
  simp [firstIdx, this]
theorem firstIdx_any (p : Int → Bool) (xs : List Int) : decide (0 ≤ firstIdx p xs) = xs.any p := by
  unfold firstIdx
  rw [Bool.eq_iff_iff, decide_eq_true_eq, List.any_eq_true]
  cases h : xs.findIdx? p with
  | none =>
    rw [List.findIdx?_eq_none_iff] at h
    simp only [Int.reduceNeg]
    constructor
    · intro h'; omega
    · rintro ⟨x, hx, hp⟩; rw [h x hx] at hp; cases hp
  | some i =>
    rw [List.findIdx?_eq_some_iff_getElem] at h
    obtain ⟨hi, hp, _⟩ := h
    exact ⟨fun _ => ⟨_, List.getElem_mem hi, hp⟩, fun _ => by dsimp only; omega⟩
theorem firstIdx_bd (p : Int → Bool) (xs : List Int) : -1 ≤ firstIdx p xs := by
  unfold firstIdx; split <;> omega
set_option maxHeartbeats 1000000 in
theorem indexFunc_any (w : World) (v : Value) (xs : List Int) (hs : ISl w v xs) (K : Nat) (caps : Array Value) (p : Int → Bool) (hk : ∀ (args : Array Value) (w : World), (callFunc K args).run Tryd.prog w = .ok (.enter K args) w)
    (hf : ∀ n, Calls Tryd.prog K (#[.int .i64 n] ++ caps) w fun e w' => e = .returned (.bool (p n)) ∧ w = w') :
    Calls Tryd.prog 82 #[v, .func (.func K) #[] caps] w fun e w' => e = .returned (.int .i64 (firstIdx p xs)) ∧ w = w' := by
  obtain ⟨a, c, rfl, hc1, hc2, ha⟩ := hs.open
  have HF := hid hf
  clear hf
  go_enter Tryd.func82, Tryd.ntmps82
  go_wp2_with fail
  go_loopg [8] xs.length (fun gk xv wr => ∃ (i : Nat), gk + i = xs.length ∧ xv = .int .i64 i ∧ (∀ j, j < i → p (nth xs j) = false) ∧ wr = w)
  case atStart => exact ⟨0, rfl, rfl, fun j hj => by omega, rfl⟩
  case round =>
    obtain ⟨i, hi, rfl, hpre, rfl⟩ := hrel
    have hi' : i ≤ xs.length := by omega
    have HP := hid hpre
    clear hpre
    by_cases hlt : i < xs.length
    · obtain ⟨ba, oa, rfl, hca⟩ := ha i hlt
      have h1 := hca i hlt
      clear ha hca
      have HM : Hid (gk - 1 + (i + 1) = xs.length) := by unfold Hid; omega
      have HG : Hid (gk - 1 < gk) := by unfold Hid; omega
      clear hi
      go_wp2_with fail
      refine (HF.out (nth xs i)).mono ?_
      rintro e w' ⟨rfl, rfl⟩
      by_cases hp : p (nth xs i) = true
      · have HX := hid (firstIdx_some p xs i hlt hp HP.out)
        rw [hp]
        clear hp
        go_wp2_with fail
        go_ret
        exact ⟨ret_int HX.out.symm, rfl⟩
      · have hp' : p (nth xs i) = false := by simpa using hp
        have HX : Hid (∀ j, j < i + 1 → p (nth xs j) = false) := fun j hj => by
          by_cases hji : j = i
          · subst hji; exact hp'
          · exact HP.out j (by omega)
        rw [hp']
        clear hp hp'
        go_wp2_with fail
        go_roundg (gk - 1)
        case measure => exact HG.out
        case rel => exact ⟨i + 1, HM.out, by go_num, HX.out, rfl⟩
    · have HX := hid (firstIdx_none p xs (fun j hj => HP.out j (by omega)))
      clear ha
      go_wp2_with fail
      go_ret
      exact ⟨ret_int HX.out.symm, rfl⟩
theorem containsFunc_any (w : World) (v : Value) (xs : List Int) (hs : ISl w v xs) (K : Nat) (caps : Array Value) (p : Int → Bool) (hk : ∀ (args : Array Value) (w : World), (callFunc K args).run Tryd.prog w = .ok (.enter K args) w)
    (hf : ∀ n, Calls Tryd.prog K (#[.int .i64 n] ++ caps) w fun e w' => e = .returned (.bool (p n)) ∧ w = w') :
    Calls Tryd.prog 62 #[v, .func (.func K) #[] caps] w fun e w' => e = .returned (.bool (xs.any p)) ∧ w = w' := by
  have HA := hid (firstIdx_any p xs)
  have hb := firstIdx_bd p xs
  have HF := hid (indexFunc_any w v xs hs K caps p hk hf)
  clear hf hs
  go_enter Tryd.func62, Tryd.ntmps62
  go_wp2_with (go_at_call 82; refine HF.out.mono ?_; rintro e w' ⟨rfl, rfl⟩)
  go_ret
  exact ⟨ret_bool HA.out, rfl⟩
/-- Are all numbers within bounds? -/
def allIn (l : List Int) (lo hi : Int) : Bool := !l.any fun n => decide (n < lo) || decide (hi < n)
theorem allIn_iff (l : List Int) (lo hi : Int) : allIn l lo hi = true ↔ ∀ i, i < l.length → lo ≤ nth l i ∧ nth l i ≤ hi := by
  unfold allIn
  rw [Bool.not_eq_true', List.any_eq_false]
  constructor
  · intro h i hi
    have := h l[i] (List.getElem_mem hi)
    simp only [Bool.or_eq_true, decide_eq_true_eq, not_or] at this
    simp only [nth, List.getD, List.getElem?_eq_getElem hi, Option.getD_some]
    omega
  · intro h x hx
    obtain ⟨j, hj, rfl⟩ := List.getElem_of_mem hx
    have := h j hj
    simp only [nth, List.getD, List.getElem?_eq_getElem hj, Option.getD_some] at this
    simp only [Bool.or_eq_true, decide_eq_true_eq, not_or]
    omega
end Go.Proofs.YtehbjhocgnfpmaaDoor

/- The walks of run's tokens: isCoef, token, tokens, Tokens. -/
namespace Go.Proofs.YtehbjhocgnfpmaaDoor
open Go.RowKit
set_option linter.unusedVariables false
theorem bl69_0_1_2 (m0 : Int) (m1 : Int) (m2 : Int) (w : World) : (Instr.build 69 #[(0, .int .i64 m0), (1, .int .i64 m1), (2, .int .i64 m2)]).run Tryd.prog w = .ok (.agg #[.int .i64 m0, .int .i64 m1, .int .i64 m2]) w := by kernel_rfl
theorem bl69_0 (m0 : Int) (w : World) : (Instr.build 69 #[(0, .int .i64 m0)]).run Tryd.prog w = .ok (.agg #[.int .i64 m0, .int .i64 0, .int .i64 0]) w := by kernel_rfl
def isC (n : Int) : Bool := decide (-2047 ≤ n) && decide (n ≤ 2047)
theorem isC_iff (n : Int) : isC n = true ↔ -2047 ≤ n ∧ n ≤ 2047 := by simp [isC]
theorem isCoef_any (n : Int) (w : World) : Calls Tryd.prog 72 #[.int .i64 n] w fun e w' => e = .returned (.bool (isC n)) ∧ w = w' := by
  go_enter Tryd.func72, Tryd.ntmps72
  repeat' (first
    | go_skip | ((with_reducible apply gt9 _ (.move _)); (first | go_big_want | go_step); go_step) | ((with_reducible apply gt9 _ (.assign _)); (first | go_big_want | go_step); go_step) | ((with_reducible apply gt9 _ (.pick _ _ _)); first | (refine wplPickT rfl (by kernel_rfl) ?_; go_step) | (refine wplPickF rfl (by kernel_rfl) ?_; go_step)) | ((with_reducible apply gt9 (some 4) (.binOp .geq _ _ _ _)); (refine wplD _ (V.geq rfl rfl) (by kernel_rfl) (fun hB => ?_) (fun hB => ?_) <;> (try (have hF : False := (by omega); cases hF)) <;> go_step)) | ((with_reducible apply gt9 _ (.binOp .leq _ _ _ _)); (refine wvv9 (V.leq rfl rfl) ?_; go_step)) | ((fail_if_success with_reducible apply ga9); go_step))
  all_goals (go_ret; exact ⟨ret_bool (by unfold isC; simp; omega), rfl⟩)
theorem or_tok (r k : Nat) (hr : r ≤ 15) (hk : k ≤ 12) : bits .or .i64 ((r : Int) * 2 ^ 4) (k : Int) = ((r * 16 + k : Nat) : Int) := by
  rw [show (r : Int) * 2 ^ 4 = ((r * 16 : Nat) : Int) by push_cast; omega, bits_or_i64_nat _ _ (by omega) (by omega)]
  congr 1
  rw [show r * 16 = 2 ^ 4 * r by omega]
  exact (Nat.two_pow_add_eq_or_of_lt (i := 4) (by omega) r).symm
set_option maxRecDepth 100000 in
set_option maxHeartbeats 1000000 in
theorem token_any (w0 : World) (r : Nat) (n : Int) (hr : r ≤ 15) (h0 : -4096 < n) (h1 : n < 4096) :
    Calls Tryd.prog 89 #[.int .i64 r, .int .i64 n] w0 fun e w => e = .returned (.agg #[.int .i64 (tok r n).1, .int .i64 (tok r n).2.1, .int .i64 (tok r n).2.2]) ∧ Ext w0 w := by
  have hs := sz_le n ⟨h0, h1⟩
  have HT := hid (show tok r n = (((r * 16 + sz n : Nat) : Int), (sz n : Int), sv n) from rfl)
  obtain ⟨k, hk⟩ : ∃ k, sz n = k := ⟨_, rfl⟩
  obtain ⟨v, hv⟩ : ∃ v, sv n = v := ⟨_, rfl⟩
  rw [hk, hv] at HT
  have HO := hid (or_tok r k hr (by omega))
  have HK := hid hk
  have HV := hid hv
  clear hk hv hs
  have hS := St.start w0
  go_enter Tryd.func89, Tryd.ntmps89
  repeat' (first
    | ((with_reducible apply gt9 _ (.call ⟨.value (.func 103), _, _⟩)); refine wpl_call (f := 103) Tryd.call103 (by kernel_rfl) ?_; refine ⟨_, (sizeBits_any n _ h0 h1), ?_⟩; rintro e w' ⟨rfl, rfl⟩; rw [HK.out, HV.out]; refine ⟨_, rfl, ?_⟩; refine put_move ?_; go_step) | ((with_reducible apply gt9 (some 17) (.binOp .or _ _ _ _)); (refine wplV (.int _ (((r * 16 + k : Nat) : Int))) (V.as (V.or rfl rfl) (by exact HO.out)) rfl ?_; go_step)) | ((with_reducible apply gt9 _ (.move _)); (first | go_big_want | go_step); go_step) | ((with_reducible apply gt9 _ (.assign _)); (first | go_big_want | go_step); go_step) | ((with_reducible apply gt9 _ (.extract _ _)); (refine wvv9 (V.extract rfl rfl) ?_; go_step)) | ((with_reducible apply gt9 _ (.binOp .shl _ _ _ _)); (refine wvv9 (V.shlI rfl rfl isn9 (by omega) (by omega)) ?_; go_step)) | ((with_reducible apply gt9 (some 20) (.build 69 _)); (refine wvv9 (V.build (vs := [(0, _), (1, _), (2, _)]) rfl (bl69_0_1_2 _ _ _)) ?_; go_step)) | ((with_reducible apply gt9 (some 4) (.alloc 69)); (refine wpl (by kernel_rfl) ?_; apply wp_alloc (o := ⟨some 4, _, _, _, _, _⟩) hS 69 rfl (.agg #[.int .i64 0, .int .i64 0, .int .i64 0]) [.int .i64 0, .int .i64 0, .int .i64 0] (fun w => Tryd.zeroValue69 w) rfl; clear hS; intro g4 w hS; refine put_move ?_; go_step)) | ((with_reducible apply gt9 _ (.store 69 _ _)); (refine wpl (by kernel_rfl) ?_; apply wp_storeG hS 69 _ _ rfl _ rfl 3 (row_of rfl) _ _; (case hp => exact pl9); (case hy => rfl); (case hn => rfl); (case hn' => rfl); (case hv => rfl); (case hd => exact rfl); clear hS; intro w hS)) | ((fail_if_success with_reducible apply ga9); go_step))
  refine ret_one rfl (OneRes.blk hS rfl (row_of (n := 3) rfl) pl9 rfl) rfl ?_
  exact ⟨(by rw [HT.out]; first | done | rfl), hS.1⟩
set_option maxRecDepth 100000 in
set_option maxHeartbeats 4000000 in
theorem tokens_any (w0 : World) (before : Int) (l : List Int) (hl : Len l 64) (hb : -2047 ≤ before ∧ before ≤ 2047) (hz : ∀ i, i < 64 → -2047 ≤ nth l i ∧ nth l i ≤ 2047) :
    Calls Tryd.prog 75 #[.int .i64 before, .agg (iv l)] w0 fun e w => ∃ ad c, e = .returned (.slice ad (toksOf before (zto l)).length c) ∧ St w0 w [own 69 3 ad (toksOf before (zto l)).length c ((flt (toksOf before (zto l))).map (Value.int .i64))] := by
  have hlz := zto_len l
  have hzz : ∀ i, i < 64 → -2047 ≤ nth (zto l) i ∧ nth (zto l) i ≤ 2047 := fun i hi => by rw [zto_get _ i hi]; exact hz _ (zn_lt i hi)
  obtain ⟨z, hze⟩ : ∃ z, zto l = z := ⟨_, rfl⟩
  have HZ := hid hze
  rw [hze] at hlz hzz ⊢
  have HZl : Len z 64 := hlz
  have HZZ := hid hzz
  have hz0 := hzz 0 (by omega)
  have hll : l.length = 64 := hl
  obtain ⟨all, hall⟩ : ∃ a, toksOf before z = a := ⟨_, rfl⟩
  rw [hall]
  have HAll := hid hall
  have hzl := hid hlz
  clear hze hlz hzz hall hz
  have hS := St.start w0
  go_enter Tryd.func75, Tryd.ntmps75
  repeat' (first
    | ((with_reducible apply gt9 _ (.call ⟨.value (.func 88), _, _⟩)); refine wpl_call (f := 88) Tryd.call88 (by kernel_rfl) ?_; refine ⟨_, (zto_any _ l hll), ?_⟩; rintro e w ⟨rfl, hE⟩; rw [HZ.out]; replace hS := hS.ext hE; clear hE; refine ⟨_, rfl, ?_⟩; refine put_move ?_; go_step) | ((with_reducible apply gt9 _ (.call ⟨.value (.func 89), _, _⟩)); refine wpl_call (f := 89) Tryd.call89 (by kernel_rfl) ?_; refine ⟨_, (token_any _ 0 (nth z 0 - before) (by omega) (by omega) (by omega)), ?_⟩; rintro e w ⟨rfl, hE⟩; replace hS := hS.ext hE; clear hE; refine ⟨_, rfl, ?_⟩; refine put_move ?_; go_step) | ((with_reducible apply gt9 (some 16) (.buildSlice _ _ _)); (refine wpl (by kernel_rfl) ?_; apply wp_buildSliceO (o := ⟨some 16, _, _, _, _, _⟩) hS 100 1 _ rfl 69 3 24 el100 _ _; (case hvs => (repeat (first | exact Parts.nil | (apply Parts.agg; (rfl); (rfl)) | (apply Parts.one; exact isv9; (rfl); (rfl))))); (case hn => rfl); (case hn0 => decide); (case hns => decide); clear hS; intro g16 w hS; simp only [List.cons_append, List.nil_append] at hS; refine put_move ?_; go_step)) | ((with_reducible apply gt9 _ (.move _)); (first | go_big_want | go_step); go_step) | ((with_reducible apply gt9 _ (.assign _)); (first | go_big_want | go_step); go_step) | ((with_reducible apply gt9 (some 11) (.indexAddr 52 _ _)); (refine wvv9 (V.indexAr Tryd.underlying52 isz3 rfl rfl (show IsN 0 0 from rfl) (by omega) (show 0 * 1 = 0 from rfl) nq9) ?_; go_step)) | ((with_reducible apply gt9 _ (.binOp .sub _ _ _ _)); (refine wvv9 (V.subI rfl rfl (by omega)) ?_; go_step)) | ((with_reducible apply gt9 _ (.slice 52 _ _ _ _)); (refine wvv9 (V.sliceA Tryd.underlying52 isz3 rfl (by (first | exact Lo.none | exact Lo.some rfl isn9)) (by (first | exact Up.none | exact Up.some rfl isn9)) (by omega) (by omega) (by omega) rfl rfl rfl) ?_; go_step)) | ((with_reducible apply gt9 _ (.call ⟨.builtin .len, _, _⟩)); (refine wvv9 (V.len Tryd.underlying24 rfl) ?_; go_step)) | ((with_reducible apply gt9 (some 3) (.box 52 _)); (refine wpl (by kernel_rfl) ?_; apply wp_boxA (o := ⟨some 3, _, _, _, _, _⟩) hS 52 _ rfl _ 64 rfl; (case hn => assumption); clear hS; intro g3 w hS; refine put_move ?_; go_step)) | ((with_reducible apply gt9 _ (.load 52 _)); (refine wpl (by kernel_rfl) ?_; apply wp_loadA hS 52 _ rfl _ rfl 64 (row_of rfl) _; (case hp => exact pl9); refine put_move ?_; go_step)) | ((with_reducible apply gt9 _ (.store 52 _ _)); (refine wpl (by kernel_rfl) ?_; apply wp_storeA hS 52 _ _ rfl _ rfl 64 (row_of rfl) _ _; (case hp => exact pl9); (case hy => rfl); (case hm => (repeat (first | assumption | exact Len.rep | apply Len.set | ((with_reducible show Len (_ :: _) _); exact rfl)))); (case hd => exact rfl); clear hS; intro w hS)) | ((with_reducible apply gt9 _ (.load 3 _)); (refine wpl (by kernel_rfl) ?_; apply wp_load1A hS 3 _ rfl _ _ rfl (one_of rfl) _ _; (case hp => exact pl9); (case hi => omega); refine put_move ?_; go_step)) | ((fail_if_success with_reducible apply ga9); go_step))
  rw [show 0 + 1 * 1 = 1 from rfl, show 64 - 1 = 63 from rfl]
  replace hS : St w0 w [own 69 3 (some ⟨g16, 0, none⟩) 1 1 ((flt [tok 0 (nth z 0 - before)]).map (Value.int .i64)), arr g3 64 z] := hS
  go_loopg [5, 6, 19] 63 (fun gk ov rv kv w => ∃ (k r m : Nat) (o : List Tok) (a' : Option Addr) (c' : Nat), gk + k = 63 ∧ kv = .int .i64 k ∧ rv = .int .i64 r ∧ ov = .slice a' m c' ∧ m + r ≤ k + 1 ∧ Hid (o.length = m) ∧ Hid (all = o ++ tks r (z.drop (k + 1))) ∧ St w0 w [own 69 3 a' m c' ((flt o).map (Value.int .i64)), arr g3 64 z])
  case atStart => exact ⟨0, 0, 1, [tok 0 (nth z 0 - before)], _, _, rfl, rfl, rfl, rfl, by omega, hid rfl, hid (by rw [← HAll.out]; rfl), hS⟩
  case round =>
    clear hS
    obtain ⟨k, r, m, o, a', c', hk, rfl, rfl, rfl, hmr, HO, HA, hS⟩ := hrel
    by_cases hlt : k < 63
    · have hdrop : z.drop (k + 1) = nth z (k + 1) :: z.drop (k + 2) := by
        rw [List.drop_eq_getElem_cons (by rw [hzl.out]; omega)]
        simp [nth, List.getD, hzl.out, show k + 1 < 64 by omega]
      have hn := HZZ.out (k + 1) (by omega)
      have ha := HA.out
      rw [hdrop, tks] at ha
      obtain ⟨n, hne⟩ : ∃ n, nth z (k + 1) = n := ⟨_, rfl⟩
      rw [hne] at ha hn
      have HN : Hid (nth z (1 + k) = n) := hid (by rw [← hne]; congr 1; omega)
      clear hdrop hne HA
      by_cases h0 : n = 0
      · subst h0
        rw [if_pos rfl] at ha
        have HA2 := hid ha
        clear ha
        repeat' (first
          | ((with_reducible apply gt9 (some 22) _); refine wpl (by kernel_rfl) ?_; apply wp_load1A hS 3 _ rfl _ _ rfl (one_of rfl) _ _; (case hp => exact pl9); (case hi => omega); rw [HN.out]; refine put_move ?_; go_step) | ((with_reducible apply gt9 _ (.move _)); (first | go_big_want | go_step); go_step) | ((with_reducible apply gt9 _ (.assign _)); (first | go_big_want | go_step); go_step) | ((with_reducible apply gt9 _ (.binOp .lss _ _ _ _)); (refine wvv9 (V.lss rfl rfl) ?_; go_step)) | ((with_reducible apply gt9 (some 21) (.indexAddr 24 _ _)); (refine wvv9 (V.indexSl Tryd.underlying24 isz3 rfl rfl isn9 (by omega) (Nat.mul_one _) nq9) ?_; go_step)) | ((with_reducible apply gt9 _ (.binOp .eql 3 _ _ _)); (refine wvv9 (V.eql rfl rfl) ?_; go_step)) | ((with_reducible apply gt9 _ (.binOp .add _ _ _ _)); (refine wvv9 (V.addI rfl rfl (by omega)) ?_; go_step)) | ((fail_if_success with_reducible apply ga9); go_step))
        go_roundg (gk - 1)
        case measure => omega
        case rel => exact ⟨k + 1, r + 1, m, o, a', c', by omega, by go_num, by go_num, rfl, by omega, HO, HA2, hS⟩
      · rw [if_neg h0] at ha
        have HA2 := hid ha
        clear ha
        repeat' (first
          | ((with_reducible apply gt9 (some 22) _); refine wpl (by kernel_rfl) ?_; apply wp_load1A hS 3 _ rfl _ _ rfl (one_of rfl) _ _; (case hp => exact pl9); (case hi => omega); rw [HN.out]; refine put_move ?_; go_step) | ((with_reducible apply gt9 _ (.move _)); (first | go_big_want | go_step); go_step) | ((with_reducible apply gt9 _ (.assign _)); (first | go_big_want | go_step); go_step) | ((with_reducible apply gt9 _ (.binOp .lss _ _ _ _)); (refine wvv9 (V.lss rfl rfl) ?_; go_step)) | ((with_reducible apply gt9 (some 21) (.indexAddr 24 _ _)); (refine wvv9 (V.indexSl Tryd.underlying24 isz3 rfl rfl isn9 (by omega) (Nat.mul_one _) nq9) ?_; go_step)) | ((with_reducible apply gt9 _ (.binOp .eql 3 _ _ _)); (refine wvv9 (V.eql rfl rfl) ?_; go_step)) | ((fail_if_success with_reducible apply ga9); go_step))
        obtain ⟨gk1, hgk1⟩ : ∃ x, x = gk := ⟨_, rfl⟩
        subst hgk1
        go_loopg [5, 6] r (fun gk ov rv w => ∃ (m : Nat) (o : List Tok) (a' : Option Addr) (c' : Nat), rv = .int .i64 gk ∧ ov = .slice a' m c' ∧ m + gk ≤ k + 1 ∧ Hid (o.length = m) ∧ Hid (all = o ++ (List.replicate (gk / 16) longT ++ (tok (gk % 16) n :: tks 0 (z.drop (k + 2))))) ∧ St w0 w [own 69 3 a' m c' ((flt o).map (Value.int .i64)), arr g3 64 z])
        case atStart => exact ⟨m, o, a', c', rfl, rfl, hmr, HO, HA2, hS⟩
        case round =>
          clear hS HO HA2
          obtain ⟨m, o, a', c', rfl, rfl, hmr, HO, HA2, hS⟩ := hrel
          by_cases hbig : 15 < gk
          · have HA3 : Hid (all = (o ++ [longT]) ++ (List.replicate ((gk - 16) / 16) longT ++ (tok ((gk - 16) % 16) n :: tks 0 (z.drop (k + 2))))) := hid (by
              rw [HA2.out, show gk / 16 = (gk - 16) / 16 + 1 by omega, show gk % 16 = (gk - 16) % 16 by omega, List.replicate_succ]; simp)
            have HF := hid (show flt (o ++ [longT]) = flt o ++ [240, 0, 0] from flt_snoc o longT)
            clear HA2
            repeat' (first
              | ((with_reducible apply gt9 _ (.move _)); (first | go_big_want | go_step); go_step) | ((with_reducible apply gt9 _ (.assign _)); (first | go_big_want | go_step); go_step) | ((with_reducible apply gt9 _ (.binOp .gtr _ _ _ _)); (refine wvv9 (V.gtr rfl rfl) ?_; go_step)) | ((with_reducible apply gt9 _ (.binOp .sub _ _ _ _)); (refine wvv9 (V.subI rfl rfl (by omega)) ?_; go_step)) | ((with_reducible apply gt9 (some 32) (.build 69 _)); (refine wvv9 (V.build (vs := [(0, _)]) rfl (bl69_0 _)) ?_; go_step)) | ((with_reducible apply gt9 (some 33) (.buildSlice 100 _ _)); (refine wpl (by kernel_rfl) ?_; apply wp_buildSlice1 (o := ⟨some 33, _, _, _, _, _⟩) hS 100 1 _ rfl 69 3 24 el100 _ _; (case hvs => (repeat (first | exact Parts.nil | (apply Parts.agg; (rfl); (rfl)) | (apply Parts.one; exact isv9; (rfl); (rfl))))); (case hn => rfl); (case hn0 => decide); (case hns => decide); clear hS; intro g33 w hS; simp only [List.cons_append, List.nil_append] at hS; refine put_move ?_; go_step)) | ((with_reducible apply gt9 (some 34) (.call ⟨.builtin .append, _, _⟩)); (refine wpl (by kernel_rfl) ?_; apply wp_append (o := ⟨some 34, _, _, _, _, _⟩) hS _ _ 100 rfl 69 3 24 el100 _ _ _ _ rfl; (case hp => exact pl9); (case hx => exact rfl); (case hm => (first | exact hS.slBlk pl9 (by rfl) (by decide) | exact hS.sl pl9 | with_reducible assumption | exact Sl.ext (by with_reducible assumption) hS.1 | exact Sl.nil _ _ | exact Sl.ext (by assumption) hS.1 | assumption)); (case h1 => (first | exact oneAll rfl | exact oneMap _ _ | (intro u hu; cases hu))); (case h63 => unfold maxLen; omega); (case hb => omega); clear hS; intro ad34 c34 w hS; (first | simp only [mapk1] at hS | simp only [mapk2] at hS | simp only [mapk3] at hS | simp only [mapk4] at hS | simp only [mapkl] at hS | skip); refine put_move ?_; go_step)) | ((fail_if_success with_reducible apply ga9); go_step))
            go_roundg (gk - 16)
            case measure => omega
            case rel => exact ⟨m + 1, o ++ [longT], ad34, c34, by go_num, rfl, by omega, hid (by rw [List.length_append, HO.out]; rfl), HA3, (by rw [HF.out]; exact hS.sub sb9)⟩
          · have HA3 : Hid (all = (o ++ [tok gk n]) ++ tks 0 (z.drop (k + 2))) := hid (by
              rw [HA2.out, show gk / 16 = 0 by omega, show gk % 16 = gk by omega]; simp)
            have HF := hid (flt_snoc o (tok gk n))
            clear HA2
            repeat' (first
              | ((with_reducible apply gt9 _ (.call ⟨.value (.func 89), _, _⟩)); refine wpl_call (f := 89) Tryd.call89 (by kernel_rfl) ?_; refine ⟨_, (token_any _ gk n (by omega) (by omega) (by omega)), ?_⟩; rintro e w ⟨rfl, hE⟩; replace hS := hS.ext hE; clear hE; refine ⟨_, rfl, ?_⟩; refine put_move ?_; go_step) | ((with_reducible apply gt9 _ (.move _)); (first | go_big_want | go_step); go_step) | ((with_reducible apply gt9 _ (.assign _)); (first | go_big_want | go_step); go_step) | ((with_reducible apply gt9 _ (.binOp .gtr _ _ _ _)); (refine wvv9 (V.gtr rfl rfl) ?_; go_step)) | ((with_reducible apply gt9 _ (.binOp .add _ _ _ _)); (refine wvv9 (V.addI rfl rfl (by omega)) ?_; go_step)) | ((with_reducible apply gt9 (some 39) (.buildSlice 100 _ _)); (refine wpl (by kernel_rfl) ?_; apply wp_buildSlice1 (o := ⟨some 39, _, _, _, _, _⟩) hS 100 1 _ rfl 69 3 24 el100 _ _; (case hvs => (repeat (first | exact Parts.nil | (apply Parts.agg; (rfl); (rfl)) | (apply Parts.one; exact isv9; (rfl); (rfl))))); (case hn => rfl); (case hn0 => decide); (case hns => decide); clear hS; intro g39 w hS; simp only [List.cons_append, List.nil_append] at hS; refine put_move ?_; go_step)) | ((with_reducible apply gt9 (some 40) (.call ⟨.builtin .append, _, _⟩)); (refine wpl (by kernel_rfl) ?_; apply wp_append (o := ⟨some 40, _, _, _, _, _⟩) hS _ _ 100 rfl 69 3 24 el100 _ _ _ _ rfl; (case hp => exact pl9); (case hx => exact rfl); (case hm => (first | exact hS.slBlk pl9 (by rfl) (by decide) | exact hS.sl pl9 | with_reducible assumption | exact Sl.ext (by with_reducible assumption) hS.1 | exact Sl.nil _ _ | exact Sl.ext (by assumption) hS.1 | assumption)); (case h1 => (first | exact oneAll rfl | exact oneMap _ _ | (intro u hu; cases hu))); (case h63 => unfold maxLen; omega); (case hb => omega); clear hS; intro ad40 c40 w hS; (first | simp only [mapk1] at hS | simp only [mapk2] at hS | simp only [mapk3] at hS | simp only [mapk4] at hS | simp only [mapkl] at hS | skip); refine put_move ?_; go_step)) | ((fail_if_success with_reducible apply ga9); go_step))
            go_roundg (gk1 - 1)
            case measure => omega
            case rel => exact ⟨k + 1, 0, m + 1, o ++ [tok gk n], ad40, c40, by omega, by go_num, rfl, rfl, by omega, hid (by rw [List.length_append, HO.out]; rfl), HA3, (by rw [HF.out]; exact hS.sub sb9)⟩
    · obtain rfl : k = 63 := by omega
      have ha := HA.out
      rw [show z.drop (63 + 1) = [] by rw [List.drop_eq_nil_iff, hzl.out]; omega, tks] at ha
      by_cases h0 : 0 < r
      · rw [if_pos h0] at ha
        have HL := hid (show all.length = m + 1 by rw [ha, List.length_append, HO.out]; rfl)
        have HF := hid (show flt all = flt o ++ [0, 0, 0] by rw [ha, flt_app]; rfl)
        clear ha HA
        repeat' (first
          | ((with_reducible apply gt9 _ (.move _)); (first | go_big_want | go_step); go_step) | ((with_reducible apply gt9 _ (.assign _)); (first | go_big_want | go_step); go_step) | ((with_reducible apply gt9 _ (.binOp .lss _ _ _ _)); (refine wvv9 (V.lss rfl rfl) ?_; go_step)) | ((with_reducible apply gt9 _ (.binOp .gtr _ _ _ _)); (refine wvv9 (V.gtr rfl rfl) ?_; go_step)) | ((with_reducible apply gt9 (some 45) (.build 69 _)); (refine wvv9 (V.build (vs := [(0, _)]) rfl (bl69_0 _)) ?_; go_step)) | ((with_reducible apply gt9 (some 46) (.buildSlice 100 _ _)); (refine wpl (by kernel_rfl) ?_; apply wp_buildSlice1 (o := ⟨some 46, _, _, _, _, _⟩) hS 100 1 _ rfl 69 3 24 el100 _ _; (case hvs => (repeat (first | exact Parts.nil | (apply Parts.agg; (rfl); (rfl)) | (apply Parts.one; exact isv9; (rfl); (rfl))))); (case hn => rfl); (case hn0 => decide); (case hns => decide); clear hS; intro g46 w hS; simp only [List.cons_append, List.nil_append] at hS; refine put_move ?_; go_step)) | ((with_reducible apply gt9 (some 47) (.call ⟨.builtin .append, _, _⟩)); (refine wpl (by kernel_rfl) ?_; apply wp_append (o := ⟨some 47, _, _, _, _, _⟩) hS _ _ 100 rfl 69 3 24 el100 _ _ _ _ rfl; (case hp => exact pl9); (case hx => exact rfl); (case hm => (first | exact hS.slBlk pl9 (by rfl) (by decide) | exact hS.sl pl9 | with_reducible assumption | exact Sl.ext (by with_reducible assumption) hS.1 | exact Sl.nil _ _ | exact Sl.ext (by assumption) hS.1 | assumption)); (case h1 => (first | exact oneAll rfl | exact oneMap _ _ | (intro u hu; cases hu))); (case h63 => unfold maxLen; omega); (case hb => omega); clear hS; intro ad47 c47 w hS; (first | simp only [mapk1] at hS | simp only [mapk2] at hS | simp only [mapk3] at hS | simp only [mapk4] at hS | simp only [mapkl] at hS | skip); refine put_move ?_; go_step)) | ((fail_if_success with_reducible apply ga9); go_step))
        go_ret
        refine ⟨ad47, c47, (by rw [HL.out]; first | done | rfl), ?_⟩
        rw [HL.out, HF.out]
        exact hS.sub sb9
      · rw [if_neg h0, List.append_nil] at ha
        have HL := hid (show all.length = m by rw [ha, HO.out])
        have HF := hid (show flt all = flt o by rw [ha])
        clear ha HA
        repeat' (first
          | ((with_reducible apply gt9 _ (.move _)); (first | go_big_want | go_step); go_step) | ((with_reducible apply gt9 _ (.assign _)); (first | go_big_want | go_step); go_step) | ((with_reducible apply gt9 _ (.binOp .lss _ _ _ _)); (refine wvv9 (V.lss rfl rfl) ?_; go_step)) | ((with_reducible apply gt9 _ (.binOp .gtr _ _ _ _)); (refine wvv9 (V.gtr rfl rfl) ?_; go_step)) | ((fail_if_success with_reducible apply ga9); go_step))
        go_ret
        refine ⟨a', c', (by rw [HL.out]; first | done | rfl), ?_⟩
        rw [HL.out, HF.out]
        exact hS.sub sb9
def blkIn (l : List Int) : Bool := allIn l (-2047) 2047
/-- What Tokens gives. -/
def tokE (before : Int) (l : List Int) : Int := if isC before = true ∧ blkIn l = true then 0 else 1
def tokL (before : Int) (l : List Int) : List Tok := if tokE before l = 0 then toksOf before (zto l) else []
theorem tokE_ok {before : Int} {l : List Int} (hl : l.length = 64) (h : tokE before l = 0) : (-2047 ≤ before ∧ before ≤ 2047) ∧ ∀ i, i < 64 → -2047 ≤ nth l i ∧ nth l i ≤ 2047 := by
  unfold tokE at h
  split at h
  · rename_i h1
    exact ⟨(isC_iff _).1 h1.1, fun i hi => (allIn_iff l (-2047) 2047).1 h1.2 i (by omega)⟩
  · cases h
theorem tokE_of {before : Int} {l : List Int} (hl : l.length = 64) (h : -2047 ≤ before ∧ before ≤ 2047) (h2 : ∀ i, i < 64 → -2047 ≤ nth l i ∧ nth l i ≤ 2047) : tokE before l = 0 := by
  unfold tokE
  rw [if_pos ⟨(isC_iff _).2 h, (allIn_iff l (-2047) 2047).2 fun i hi => h2 i (by omega)⟩]
theorem notCoef_any (n : Int) (w : World) : Calls Tryd.prog 77 #[.int .i64 n] w fun e w' => e = .returned (.bool (decide (n < -2047) || decide (2047 < n))) ∧ w = w' := by
  go_enter Tryd.func77, Tryd.ntmps77
  repeat' (first
    | ((with_reducible apply gt9 _ (.call ⟨.value (.func 72), _, _⟩)); refine wpl_call (f := 72) Tryd.call72 (by kernel_rfl) ?_; refine ⟨_, (isCoef_any n _), ?_⟩; rintro e w' ⟨rfl, rfl⟩; refine ⟨_, rfl, ?_⟩; refine put_move ?_; go_step) | ((with_reducible apply gt9 _ (.move _)); (first | go_big_want | go_step); go_step) | ((with_reducible apply gt9 _ (.assign _)); (first | go_big_want | go_step); go_step) | ((with_reducible apply gt9 _ (.unOp .not _ _)); (refine wvv9 (V.not rfl) ?_; go_step)) | ((fail_if_success with_reducible apply ga9); go_step))
  all_goals (go_ret; exact ⟨ret_bool (by rw [Bool.eq_iff_iff]; unfold isC; simp <;> omega), rfl⟩)
set_option maxRecDepth 100000 in
set_option maxHeartbeats 4000000 in
theorem tokensOf_any (w0 : World) (before : Int) (l : List Int) (hl : Len l 64) :
    Calls Tryd.prog 57 #[.int .i64 before, .agg (iv l)] w0 fun e w => ∃ ad c, e = .returned (.tuple #[.slice ad (tokL before l).length c, .int .i64 (tokE before l)]) ∧ St w0 w [own 69 3 ad (tokL before l).length c ((flt (tokL before l)).map (Value.int .i64))] := by
  have hll : l.length = 64 := hl
  have hS := St.start w0
  have hk := Tryd.call77
  obtain ⟨b1, hb1⟩ : ∃ b, isC before = b := ⟨_, rfl⟩
  obtain ⟨b2, hb2⟩ : ∃ b, blkIn l = b := ⟨_, rfl⟩
  have hnot : (l.any fun n => decide (n < -2047) || decide (2047 < n)) = !b2 := by rw [← hb2, blkIn, allIn, Bool.not_not]
  have HB1 := hid hb1
  have HN := hid hnot
  by_cases hbad : b1 = true ∧ b2 = true
  case neg =>
    have HE := hid (show tokE before l = 1 by unfold tokE; rw [if_neg (by rw [hb1, hb2]; exact hbad)])
    have HL := hid (show tokL before l = [] by unfold tokL; rw [if_neg (by rw [HE.out]; decide)])
    clear hb1 hb2 hnot
    cases b1
    case false =>
      clear hbad HN
      go_enter Tryd.func57, Tryd.ntmps57
      repeat' (first
        | ((with_reducible apply gt9 _ (.call ⟨.value (.func 72), _, _⟩)); refine wpl_call (f := 72) Tryd.call72 (by kernel_rfl) ?_; refine ⟨_, (isCoef_any before _), ?_⟩; rintro e w' ⟨rfl, rfl⟩; rw [HB1.out]; refine ⟨_, rfl, ?_⟩; refine put_move ?_; go_step) | go_skip | ((with_reducible apply gt9 _ (.move _)); (first | go_big_want | go_step); go_step) | ((with_reducible apply gt9 _ (.assign _)); (first | go_big_want | go_step); go_step) | ((with_reducible apply gt9 _ (.pick _ _ _)); (refine wplPickT rfl (by kernel_rfl) ?_; go_step)) | ((with_reducible apply gt9 (some 8) (.unOp .not _ _)); (refine wplB _ (V.not rfl) (by kernel_rfl) (fun hB => ?_) (fun hB => ?_) <;> (try (have hF : False := (absurd hB (by decide)); cases hF)) <;> go_step)) | ((with_reducible apply gt9 (some 3) (.box 52 _)); (refine wpl (by kernel_rfl) ?_; apply wp_boxA (o := ⟨some 3, _, _, _, _, _⟩) hS 52 _ rfl _ 64 rfl; (case hn => assumption); clear hS; intro g3 w hS; refine put_move ?_; go_step)) | ((fail_if_success with_reducible apply ga9); go_step))
      refine ret_all (xs := [_, _]) rfl (.cons (OneRes.tmp rfl) (.cons (OneRes.tmp rfl) (.nil))) (by simp) rfl ?_
      refine ⟨none, 0, (by rw [HE.out, HL.out]; first | done | rfl), ?_⟩
      rw [HL.out]
      exact (St.of_ext hS.1).nil _ _
    case true =>
      have hb2 : b2 = false := by cases b2 <;> simp_all
      subst hb2
      clear hbad
      go_enter Tryd.func57, Tryd.ntmps57
      repeat' (first
        | ((with_reducible apply gt9 _ (.call ⟨.value (.func 72), _, _⟩)); refine wpl_call (f := 72) Tryd.call72 (by kernel_rfl) ?_; refine ⟨_, (isCoef_any before _), ?_⟩; rintro e w' ⟨rfl, rfl⟩; rw [HB1.out]; refine ⟨_, rfl, ?_⟩; refine put_move ?_; go_step) | ((with_reducible apply gt9 _ (.call ⟨.value (.func 62), _, _⟩)); refine wpl_call (f := 62) Tryd.call62 (by kernel_rfl) ?_; refine ⟨_, (containsFunc_any _ _ l (hS.isl pl9 (by decide)) 77 #[] (fun n => decide (n < -2047) || decide (2047 < n)) hk (fun n => notCoef_any n _)), ?_⟩; rintro e w' ⟨rfl, rfl⟩; rw [HN.out]; refine ⟨_, rfl, ?_⟩; refine put_move ?_; go_step) | ((with_reducible apply gt9 _ (.move _)); (first | go_big_want | go_step); go_step) | ((with_reducible apply gt9 _ (.assign _)); (first | go_big_want | go_step); go_step) | ((with_reducible apply gt9 _ (.pick _ _ _)); (refine wplPickF rfl (by kernel_rfl) ?_; go_step)) | ((with_reducible apply gt9 (some 8) (.unOp .not _ _)); (refine wplB _ (V.not rfl) (by kernel_rfl) (fun hB => ?_) (fun hB => ?_) <;> (try (have hF : False := (absurd hB (by decide)); cases hF)) <;> go_step)) | ((with_reducible apply gt9 _ (.slice 52 _ _ _ _)); (refine wvv9 (V.sliceA Tryd.underlying52 isz3 rfl (by (first | exact Lo.none | exact Lo.some rfl isn9)) (by (first | exact Up.none | exact Up.some rfl isn9)) (by omega) (by omega) (by omega) rfl rfl rfl) ?_; go_step)) | ((with_reducible apply gt9 (some 3) (.box 52 _)); (refine wpl (by kernel_rfl) ?_; apply wp_boxA (o := ⟨some 3, _, _, _, _, _⟩) hS 52 _ rfl _ 64 rfl; (case hn => assumption); clear hS; intro g3 w hS; refine put_move ?_; go_step)) | ((fail_if_success with_reducible apply ga9); go_step))
      refine ret_all (xs := [_, _]) rfl (.cons (OneRes.tmp rfl) (.cons (OneRes.tmp rfl) (.nil))) (by simp) rfl ?_
      refine ⟨none, 0, (by rw [HE.out, HL.out]; first | done | rfl), ?_⟩
      rw [HL.out]
      exact (St.of_ext hS.1).nil _ _
  · obtain ⟨rfl, rfl⟩ := hbad
    have HE := hid (show tokE before l = 0 by unfold tokE; rw [if_pos ⟨hb1, hb2⟩])
    have HL := hid (show tokL before l = toksOf before (zto l) by unfold tokL; rw [if_pos HE.out])
    obtain ⟨q1, q2⟩ := tokE_ok hll HE.out
    have Q2 := hid q2
    clear hb1 hb2 hnot q2
    go_enter Tryd.func57, Tryd.ntmps57
    repeat' (first
      | ((with_reducible apply gt9 _ (.call ⟨.value (.func 72), _, _⟩)); refine wpl_call (f := 72) Tryd.call72 (by kernel_rfl) ?_; refine ⟨_, (isCoef_any before _), ?_⟩; rintro e w' ⟨rfl, rfl⟩; rw [HB1.out]; refine ⟨_, rfl, ?_⟩; refine put_move ?_; go_step) | ((with_reducible apply gt9 _ (.call ⟨.value (.func 62), _, _⟩)); refine wpl_call (f := 62) Tryd.call62 (by kernel_rfl) ?_; refine ⟨_, (containsFunc_any _ _ l (hS.isl pl9 (by decide)) 77 #[] (fun n => decide (n < -2047) || decide (2047 < n)) hk (fun n => notCoef_any n _)), ?_⟩; rintro e w' ⟨rfl, rfl⟩; rw [HN.out]; refine ⟨_, rfl, ?_⟩; refine put_move ?_; go_step) | ((with_reducible apply gt9 _ (.call ⟨.value (.func 75), _, _⟩)); refine wpl_call (f := 75) Tryd.call75 (by kernel_rfl) ?_; refine ⟨_, (tokens_any _ before l hl q1 Q2.out), ?_⟩; rintro e w ⟨ad2, c2, rfl, hS2⟩; replace hS := hS.call1 hS2; clear hS2; refine ⟨_, rfl, ?_⟩; refine put_move ?_; go_step) | ((with_reducible apply gt9 _ (.move _)); (first | go_big_want | go_step); go_step) | ((with_reducible apply gt9 _ (.assign _)); (first | go_big_want | go_step); go_step) | ((with_reducible apply gt9 _ (.pick _ _ _)); (refine wplPickF rfl (by kernel_rfl) ?_; go_step)) | ((with_reducible apply gt9 (some 8) (.unOp .not _ _)); (refine wplB _ (V.not rfl) (by kernel_rfl) (fun hB => ?_) (fun hB => ?_) <;> (try (have hF : False := (absurd hB (by decide)); cases hF)) <;> go_step)) | ((with_reducible apply gt9 _ (.slice 52 _ _ _ _)); (refine wvv9 (V.sliceA Tryd.underlying52 isz3 rfl (by (first | exact Lo.none | exact Lo.some rfl isn9)) (by (first | exact Up.none | exact Up.some rfl isn9)) (by omega) (by omega) (by omega) rfl rfl rfl) ?_; go_step)) | ((with_reducible apply gt9 (some 3) (.box 52 _)); (refine wpl (by kernel_rfl) ?_; apply wp_boxA (o := ⟨some 3, _, _, _, _, _⟩) hS 52 _ rfl _ 64 rfl; (case hn => assumption); clear hS; intro g3 w hS; refine put_move ?_; go_step)) | ((with_reducible apply gt9 _ (.load 52 _)); (refine wpl (by kernel_rfl) ?_; apply wp_loadA hS 52 _ rfl _ rfl 64 (row_of rfl) _; (case hp => exact pl9); refine put_move ?_; go_step)) | ((fail_if_success with_reducible apply ga9); go_step))
    refine ret_all (xs := [_, _]) rfl (.cons (OneRes.tmp rfl) (.cons (OneRes.tmp rfl) (.nil))) (by simp) rfl ?_
    refine ⟨ad2, c2, (by rw [HE.out, HL.out]; first | done | rfl), ?_⟩
    rw [HL.out]
    exact hS.sub sb9
end Go.Proofs.YtehbjhocgnfpmaaDoor

/- The walks of the reference's small functions: outside, power, SizeBits, token, ZigOrder, ZigTo, BlockWithin. -/
namespace Go.Proofs.YtehbjhocgnfpmaaDoor
open Go.RowKit
set_option linter.unusedVariables false
theorem bl69_  (w : World) : (Instr.build 69 #[]).run Tryd.prog w = .ok (.agg #[.int .i64 0, .int .i64 0, .int .i64 0]) w := by kernel_rfl
theorem outside_any (n lo hi : Int) (w : World) : Calls Tryd.prog 78 #[.int .i64 n, .int .i64 lo, .int .i64 hi] w fun e w' => e = .returned (.bool (decide (n < lo) || decide (hi < n))) ∧ w = w' := by
  go_enter Tryd.func78, Tryd.ntmps78
  repeat' (first
    | go_skip | ((with_reducible apply gt9 _ (.move _)); (first | go_big_want | go_step); go_step) | ((with_reducible apply gt9 _ (.assign _)); (first | go_big_want | go_step); go_step) | ((with_reducible apply gt9 _ (.pick _ _ _)); first | (refine wplPickT rfl (by kernel_rfl) ?_; go_step) | (refine wplPickF rfl (by kernel_rfl) ?_; go_step)) | ((with_reducible apply gt9 (some 9) (.binOp .lss _ _ _ _)); (refine wplD _ (V.lss rfl rfl) (by kernel_rfl) (fun hB => ?_) (fun hB => ?_) <;> (try (have hF : False := (by omega); cases hF)) <;> go_step)) | ((with_reducible apply gt9 _ (.binOp .gtr _ _ _ _)); (refine wvv9 (V.gtr rfl rfl) ?_; go_step)) | ((fail_if_success with_reducible apply ga9); go_step))
  all_goals (go_ret; exact ⟨ret_bool (by rw [Bool.eq_iff_iff]; simp <;> omega), rfl⟩)
theorem power_any (k P : Nat) (w : World) (hk : k ≤ 40) (hP : 2 ^ k = P) : Calls Tryd.prog 111 #[.int .i64 k] w fun e w' => e = .returned (.int .i64 (P : Int)) ∧ w = w' := by
  have HP : Hid ((2 : Int) ^ k = ((P : Nat) : Int)) := hid (by rw [← hP]; push_cast; rfl)
  have h1 : P ≤ 1099511627776 := by rw [← hP]; exact Nat.pow_le_pow_right (n := 2) (j := 40) (by omega) hk
  clear hP
  go_enter Tryd.func111, Tryd.ntmps111
  repeat' (first
    | ((with_reducible apply gt9 (some 4) (.binOp .shl _ _ _ _)); (refine wplV (.int _ (((P : Nat) : Int))) (V.as (V.shl1 rfl rfl isn9 (by omega)) (by exact HP.out)) rfl ?_; go_step)) | ((with_reducible apply gt9 _ (.move _)); (first | go_big_want | go_step); go_step) | ((with_reducible apply gt9 _ (.assign _)); (first | go_big_want | go_step); go_step) | ((fail_if_success with_reducible apply ga9); go_step))
  go_ret
  exact ⟨rfl, rfl⟩
theorem blen_iff (n k : Nat) (h : k = 0 ∨ 2 ^ (k - 1) ≤ n) (h2 : n < 2 ^ k) : blen n = k := by
  have h3 := blen_spec n
  rcases h with rfl | h
  · have : n = 0 := by omega
    rw [this]; rfl
  · by_cases hk : k = 0
    · subst hk
      have : n = 0 := by omega
      rw [this]; rfl
    · have hn : 0 < n := by have := Nat.two_pow_pos (k - 1); omega
      have h4 := h3.2 hn
      have a1 : k - 1 < blen n := by
        have : 2 ^ (k - 1) < 2 ^ blen n := by omega
        exact (Nat.pow_lt_pow_iff_right (by omega)).1 this
      have a2 : blen n - 1 < k := by
        have : 2 ^ (blen n - 1) < 2 ^ k := by omega
        exact (Nat.pow_lt_pow_iff_right (by omega)).1 this
      omega
set_option maxRecDepth 100000 in
set_option maxHeartbeats 2000000 in
theorem refBits_any (n : Int) (w0 : World) (h0 : -4096 < n) (h1 : n < 4096) :
    Calls Tryd.prog 108 #[.int .i64 n] w0 fun e w => e = .returned (.tuple #[.int .i64 (sz n), .int .i64 (sv n), .int .i64 0]) ∧ w0 = w := by
  obtain ⟨m, hm⟩ : ∃ m : Nat, m = n.natAbs := ⟨_, rfl⟩
  have hmax : max n (-n) = (m : Int) := by omega
  have hm4 : m < 4096 := by omega
  have HM := hid hm
  have HMX := hid hmax
  have HV := hid (show sv n = if n < 0 then n + (2 ^ sz n - 1 : Nat) else n from rfl)
  have HB := hid (fun k h1 h2 => show sz n = k by unfold sz; rw [← hm]; exact blen_iff m k h1 h2)
  clear hm hmax
  obtain ⟨W, hW⟩ : ∃ W, W = w0 := ⟨_, rfl⟩
  subst hW
  go_enter Tryd.func108, Tryd.ntmps108
  repeat' (first
    | ((with_reducible apply gt9 _ (.call ⟨.value (.func 78), _, _⟩)); refine wpl_call (f := 78) Tryd.call78 (by kernel_rfl) ?_; refine ⟨_, (outside_any n (-4095) 4095 _), ?_⟩; rintro e w' ⟨rfl, rfl⟩; refine ⟨_, rfl, ?_⟩; refine put_move ?_; go_step) | ((with_reducible apply gt9 _ (.move _)); (first | go_big_want | go_step); go_step) | ((with_reducible apply gt9 _ (.assign _)); (first | go_big_want | go_step); go_step) | ((fail_if_success with_reducible apply ga9); go_step))
  go_loopg [5] 13 (fun gk kv w => ∃ k : Nat, gk + k = 13 ∧ kv = .int .i64 k ∧ Hid (k = 0 ∨ 2 ^ (k - 1) ≤ m) ∧ w = W)
  case atStart => exact ⟨0, rfl, rfl, hid (.inl rfl), rfl⟩
  case round =>
    obtain ⟨k, hk, rfl, HKL, rfl⟩ := hrel
    have hk12 : k ≤ 12 := by
      by_cases h : k = 13
      · have := HKL.out; rw [h] at this; omega
      · omega
    obtain ⟨P, hP⟩ : ∃ P, 2 ^ k = P := ⟨_, rfl⟩
    have HP := hid hP
    have hP2 : P ≤ 4096 := by rw [← hP]; exact Nat.pow_le_pow_right (n := 2) (j := 12) (by omega) hk12
    have hP1 : 1 ≤ P := by rw [← hP]; exact Nat.two_pow_pos _
    clear hP
    have hmx : max n (-n) = (m : Int) := HMX.out
    by_cases hlt : P ≤ m
    · skip
      repeat' (first
        | ((with_reducible apply gt9 (some 13) _); refine wpl_call (f := 111) Tryd.call111 (by kernel_rfl) ?_; refine ⟨_, (power_any k P _ (by omega) HP.out), ?_⟩; rintro e w' ⟨rfl, rfl⟩; refine ⟨_, rfl, ?_⟩; refine put_move ?_; go_step) | ((with_reducible apply gt9 _ (.move _)); (first | go_big_want | go_step); go_step) | ((with_reducible apply gt9 _ (.assign _)); (first | go_big_want | go_step); go_step) | ((with_reducible apply gt9 _ (.unOp .neg _ _)); (refine wvv9 (V.neg rfl (by omega)) ?_; go_step)) | ((with_reducible apply gt9 _ (.call ⟨.builtin .max, _, _⟩)); (refine wvv9 (V.max rfl rfl) ?_; go_step)) | ((with_reducible apply gt9 _ (.binOp .geq _ _ _ _)); (refine wvv9 (V.geq rfl rfl) ?_; go_step)) | ((with_reducible apply gt9 _ (.binOp .add _ _ _ _)); (refine wvv9 (V.addI rfl rfl (by omega)) ?_; go_step)) | ((fail_if_success with_reducible apply ga9); go_step))
      all_goals (try (have hF : False := (by omega); cases hF))
      go_roundg (gk - 1)
      case measure => omega
      case rel => exact ⟨k + 1, by omega, by go_num, hid (.inr (by rw [Nat.add_sub_cancel, HP.out]; exact hlt)), rfl⟩
    · have hz := HB.out k HKL.out (by rw [HP.out]; omega)
      have hv := HV.out
      rw [hz, HP.out] at hv
      have HZ := hid hz
      have HV2 := hid hv
      clear hz hv
      by_cases hn : n < 0
      · skip
        repeat' (first
          | ((with_reducible apply gt9 (some 13) _); refine wpl_call (f := 111) Tryd.call111 (by kernel_rfl) ?_; refine ⟨_, (power_any k P _ (by omega) HP.out), ?_⟩; rintro e w' ⟨rfl, rfl⟩; refine ⟨_, rfl, ?_⟩; refine put_move ?_; go_step) | ((with_reducible apply gt9 _ (.move _)); (first | go_big_want | go_step); go_step) | ((with_reducible apply gt9 _ (.unOp .neg _ _)); (refine wvv9 (V.neg rfl (by omega)) ?_; go_step)) | ((with_reducible apply gt9 _ (.call ⟨.builtin .max, _, _⟩)); (refine wvv9 (V.max rfl rfl) ?_; go_step)) | ((with_reducible apply gt9 _ (.binOp .geq _ _ _ _)); (refine wvv9 (V.geq rfl rfl) ?_; go_step)) | ((fail_if_success with_reducible apply ga9); go_step))
        all_goals (try (have hF : False := (by omega); cases hF))
        repeat' (first
          | ((with_reducible apply gt9 (some 22) _); refine wpl_call (f := 111) Tryd.call111 (by kernel_rfl) ?_; refine ⟨_, (power_any k P _ (by omega) HP.out), ?_⟩; rintro e w' ⟨rfl, rfl⟩; refine ⟨_, rfl, ?_⟩; refine put_move ?_; go_step) | ((with_reducible apply gt9 _ (.move _)); (first | go_big_want | go_step); go_step) | ((with_reducible apply gt9 _ (.assign _)); (first | go_big_want | go_step); go_step) | ((with_reducible apply gt9 _ (.binOp .lss _ _ _ _)); (refine wvv9 (V.lss rfl rfl) ?_; go_step)) | ((with_reducible apply gt9 _ (.binOp .add _ _ _ _)); (refine wvv9 (V.addI rfl rfl (by omega)) ?_; go_step)) | ((with_reducible apply gt9 _ (.binOp .sub _ _ _ _)); (refine wvv9 (V.subI rfl rfl (by omega)) ?_; go_step)) | ((fail_if_success with_reducible apply ga9); go_step))
        refine bodyPost_ret (results_tmp3 rfl _ _ _) rfl ?_
        refine ⟨?_, rfl⟩
        rw [HZ.out, HV2.out, if_pos hn, show n + ((P - 1 : Nat) : Int) = n + (P : Int) - 1 by omega]
        rfl
      · skip
        repeat' (first
          | ((with_reducible apply gt9 (some 13) _); refine wpl_call (f := 111) Tryd.call111 (by kernel_rfl) ?_; refine ⟨_, (power_any k P _ (by omega) HP.out), ?_⟩; rintro e w' ⟨rfl, rfl⟩; refine ⟨_, rfl, ?_⟩; refine put_move ?_; go_step) | ((with_reducible apply gt9 _ (.move _)); (first | go_big_want | go_step); go_step) | ((with_reducible apply gt9 _ (.unOp .neg _ _)); (refine wvv9 (V.neg rfl (by omega)) ?_; go_step)) | ((with_reducible apply gt9 _ (.call ⟨.builtin .max, _, _⟩)); (refine wvv9 (V.max rfl rfl) ?_; go_step)) | ((with_reducible apply gt9 _ (.binOp .geq _ _ _ _)); (refine wvv9 (V.geq rfl rfl) ?_; go_step)) | ((fail_if_success with_reducible apply ga9); go_step))
        all_goals (try (have hF : False := (by omega); cases hF))
        repeat' (first
          | ((with_reducible apply gt9 _ (.move _)); (first | go_big_want | go_step); go_step) | ((with_reducible apply gt9 _ (.assign _)); (first | go_big_want | go_step); go_step) | ((with_reducible apply gt9 _ (.binOp .lss _ _ _ _)); (refine wvv9 (V.lss rfl rfl) ?_; go_step)) | ((fail_if_success with_reducible apply ga9); go_step))
        refine bodyPost_ret (results_tmp3 rfl _ _ _) rfl ?_
        refine ⟨?_, rfl⟩
        rw [HZ.out, HV2.out, if_neg hn]
        rfl
set_option maxRecDepth 100000 in
set_option maxHeartbeats 1000000 in
theorem refToken_any (w0 : World) (r : Nat) (n : Int) (hr : r ≤ 15) (h0 : -4096 < n) (h1 : n < 4096) :
    Calls Tryd.prog 99 #[.int .i64 r, .int .i64 n] w0 fun e w => e = .returned (.agg #[.int .i64 (tok r n).1, .int .i64 (tok r n).2.1, .int .i64 (tok r n).2.2]) ∧ Ext w0 w := by
  have hs := sz_le n ⟨h0, h1⟩
  have HT := hid (show tok r n = (((r * 16 + sz n : Nat) : Int), (sz n : Int), sv n) from rfl)
  obtain ⟨k, hk⟩ : ∃ k, sz n = k := ⟨_, rfl⟩
  obtain ⟨v, hv⟩ : ∃ v, sv n = v := ⟨_, rfl⟩
  rw [hk, hv] at HT
  have HK := hid hk
  have HV := hid hv
  rw [hk] at hs
  clear hk hv
  have hS := St.start w0
  go_enter Tryd.func99, Tryd.ntmps99
  repeat' (first
    | ((with_reducible apply gt9 _ (.call ⟨.value (.func 108), _, _⟩)); refine wpl_call (f := 108) Tryd.call108 (by kernel_rfl) ?_; refine ⟨_, (refBits_any n _ h0 h1), ?_⟩; rintro e w' ⟨rfl, rfl⟩; rw [HK.out, HV.out]; refine ⟨_, rfl, ?_⟩; refine put_move ?_; go_step) | ((with_reducible apply gt9 (some 17) (.binOp .add _ _ _ _)); (refine wplV (.int _ (((r * 16 + k : Nat) : Int))) (V.as (V.addI rfl rfl (by omega)) (by omega)) rfl ?_; go_step)) | ((with_reducible apply gt9 _ (.move _)); (first | go_big_want | go_step); go_step) | ((with_reducible apply gt9 _ (.assign _)); (first | go_big_want | go_step); go_step) | ((with_reducible apply gt9 _ (.extract _ _)); (refine wvv9 (V.extract rfl rfl) ?_; go_step)) | ((with_reducible apply gt9 _ (.binOp .mul _ _ _ _)); (refine wvv9 (V.mulI rfl rfl (by omega)) ?_; go_step)) | ((with_reducible apply gt9 (some 20) (.build 69 _)); (refine wvv9 (V.build (vs := [(0, _), (1, _), (2, _)]) rfl (bl69_0_1_2 _ _ _)) ?_; go_step)) | ((with_reducible apply gt9 (some 4) (.alloc 69)); (refine wpl (by kernel_rfl) ?_; apply wp_alloc (o := ⟨some 4, _, _, _, _, _⟩) hS 69 rfl (.agg #[.int .i64 0, .int .i64 0, .int .i64 0]) [.int .i64 0, .int .i64 0, .int .i64 0] (fun w => Tryd.zeroValue69 w) rfl; clear hS; intro g4 w hS; refine put_move ?_; go_step)) | ((with_reducible apply gt9 _ (.store 69 _ _)); (refine wpl (by kernel_rfl) ?_; apply wp_storeG hS 69 _ _ rfl _ rfl 3 (row_of rfl) _ _; (case hp => exact pl9); (case hy => rfl); (case hn => rfl); (case hn' => rfl); (case hv => rfl); (case hd => exact rfl); clear hS; intro w hS)) | ((fail_if_success with_reducible apply ga9); go_step))
  refine ret_one rfl (OneRes.blk hS rfl (row_of (n := 3) rfl) pl9 rfl) rfl ?_
  exact ⟨(by rw [HT.out]; first | done | rfl), hS.1⟩
end Go.Proofs.YtehbjhocgnfpmaaDoor

/- The walks of the reference's ZigOrder, ZigTo and BlockWithin. -/
namespace Go.Proofs.YtehbjhocgnfpmaaDoor
open Go.RowKit
set_option linter.unusedVariables false
theorem outside_in (n lo hi : Int) (w : World) (h : lo ≤ n ∧ n ≤ hi) : Calls Tryd.prog 78 #[.int .i64 n, .int .i64 lo, .int .i64 hi] w fun e w' => e = .returned (.bool false) ∧ w = w' := by
  refine (outside_any n lo hi w).mono ?_
  rintro e w' ⟨rfl, rfl⟩
  exact ⟨ret_bool (by simp; omega), rfl⟩
theorem outside_out (n lo hi : Int) (w : World) (h : n < lo ∨ hi < n) : Calls Tryd.prog 78 #[.int .i64 n, .int .i64 lo, .int .i64 hi] w fun e w' => e = .returned (.bool true) ∧ w = w' := by
  refine (outside_any n lo hi w).mono ?_
  rintro e w' ⟨rfl, rfl⟩
  exact ⟨ret_bool (by simp; omega), rfl⟩
/-- A slant of the order, place by place. -/
def zcell (s i : Nat) : List Int := let a := if s % 2 = 0 then 7 - i else i
  if a ≤ s ∧ s ≤ a + 7 then [((8 * a + (s - a) : Nat) : Int)] else []
def zslant (s : Nat) : Nat → List Int
  | 0 => []
  | i + 1 => zslant s i ++ zcell s i
def zslants : Nat → List Int
  | 0 => []
  | s + 1 => zslants s ++ zslant s 8
theorem zslants_all : zslants 15 = zi := by decide +kernel
theorem zslants_len : ∀ s, s < 16 → (zslants s).length ≤ 64 := by decide +kernel
theorem zslant_len : ∀ s, s < 15 → ∀ i, i < 9 → (zslants s ++ zslant s i).length ≤ 64 := by decide +kernel
set_option maxRecDepth 100000 in
set_option maxHeartbeats 4000000 in
theorem refOrder_any (w0 : World) : Calls Tryd.prog 107 #[] w0 fun e w => ∃ ad c, e = .returned (.slice ad 64 c) ∧ St w0 w [own 3 1 ad 64 c (zi.map (Value.int .i64))] := by
  have hS := St.start w0
  have HZL := hid zslant_len
  have HZL2 := hid zslants_len
  go_enter Tryd.func107, Tryd.ntmps107
  repeat' (first
    | ((with_reducible apply gt9 _ (.move _)); (first | go_big_want | go_step); go_step) | ((with_reducible apply gt9 _ (.assign _)); (first | go_big_want | go_step); go_step) | ((fail_if_success with_reducible apply ga9); go_step))
  replace hS := hS.nilk 3 1 .i64
  go_loopg [1, 6] 15 (fun gk ov kv w => ∃ (s m : Nat) (ad : Option Addr) (c : Nat), gk + s = 15 ∧ kv = .int .i64 s ∧ ov = .slice ad m c ∧ Hid ((zslants s).length = m) ∧ St w0 w [own 3 1 ad m c ((zslants s).map (Value.int .i64))])
  case atStart => exact ⟨0, 0, none, 0, rfl, rfl, rfl, hid rfl, hS⟩
  case round =>
    clear hS
    obtain ⟨s, m, ad, c, hs, rfl, rfl, HM, hS⟩ := hrel
    by_cases hlt : s < 15
    · skip
      repeat' (first
        | ((with_reducible apply gt9 _ (.move _)); (first | go_big_want | go_step); go_step) | ((with_reducible apply gt9 _ (.assign _)); (first | go_big_want | go_step); go_step) | ((with_reducible apply gt9 _ (.binOp .lss _ _ _ _)); (refine wvv9 (V.lss rfl rfl) ?_; go_step)) | ((fail_if_success with_reducible apply ga9); go_step))
      obtain ⟨gk1, hgk1⟩ : ∃ x, x = gk := ⟨_, rfl⟩
      subst hgk1
      go_loopg [1, 9] 8 (fun gk ov kv w => ∃ (i m : Nat) (ad : Option Addr) (c : Nat), gk + i = 8 ∧ kv = .int .i64 i ∧ ov = .slice ad m c ∧ Hid ((zslants s ++ zslant s i).length = m) ∧ St w0 w [own 3 1 ad m c ((zslants s ++ zslant s i).map (Value.int .i64))])
      case atStart => exact ⟨0, m, ad, c, rfl, rfl, rfl, hid (by rw [show zslant s 0 = [] from rfl, List.append_nil]; exact HM.out), by rw [show zslant s 0 = [] from rfl, List.append_nil]; exact hS⟩
      case round =>
        clear hS
        obtain ⟨i, m2, ad2, c2, hi, rfl, rfl, HM2, hS⟩ := hrel
        by_cases hlt2 : i < 8
        · have hm64 : m2 ≤ 64 := by rw [← HM2.out]; exact HZL.out s hlt i (by omega)
          have HSt := hid (show zslants s ++ zslant s (i + 1) = zslants s ++ zslant s i ++ zcell s i by rw [zslant, List.append_assoc])
          obtain ⟨a, ha⟩ : ∃ a, (if s % 2 = 0 then 7 - i else i) = a := ⟨_, rfl⟩
          have hzc : zcell s i = if a ≤ s ∧ s ≤ a + 7 then [((8 * a + (s - a) : Nat) : Int)] else [] := by unfold zcell; rw [ha]
          obtain ⟨L, hL⟩ : ∃ L, zslants s ++ zslant s i = L := ⟨_, rfl⟩
          rw [hL] at HM2 hS HSt
          clear hL
          have h8 : (s % 2 = 0 ∧ a = 7 - i) ∨ (s % 2 = 1 ∧ a = i) := by
            by_cases h : s % 2 = 0
            · rw [if_pos h] at ha; exact .inl ⟨h, ha.symm⟩
            · rw [if_neg h] at ha; exact .inr ⟨by omega, ha.symm⟩
          clear ha
          by_cases hin : a ≤ s ∧ s ≤ a + 7
          · rw [if_pos hin] at hzc
            rw [hzc] at HSt
            clear hzc
            rcases h8 with h8 | h8
            all_goals
              repeat' (first
                | ((with_reducible apply gt9 _ (.call ⟨.value (.func 78), _, _⟩)); refine wpl_call (f := 78) Tryd.call78 (by kernel_rfl) ?_; refine ⟨_, (outside_in _ _ _ _ (by omega)), ?_⟩; rintro e w' ⟨rfl, rfl⟩; refine ⟨_, rfl, ?_⟩; refine put_move ?_; go_step) | ((with_reducible apply gt9 (some 17) (.binOp .sub _ _ _ _)); (refine wplV (.int _ (((a : Nat) : Int))) (V.as (V.subI rfl rfl (by omega)) (by omega)) rfl ?_; go_step)) | ((with_reducible apply gt9 (some 20) (.binOp .sub _ _ _ _)); (refine wplV (.int _ (((s - a : Nat) : Int))) (V.as (V.subI rfl rfl (by omega)) (by omega)) rfl ?_; go_step)) | ((with_reducible apply gt9 (some 28) (.binOp .add _ _ _ _)); (refine wplV (.int _ (((8 * a + (s - a) : Nat) : Int))) (V.as (V.addI rfl rfl (by omega)) (by omega)) rfl ?_; go_step)) | ((with_reducible apply gt9 _ (.move _)); (first | go_big_want | go_step); go_step) | ((with_reducible apply gt9 _ (.assign _)); (first | go_big_want | go_step); go_step) | ((with_reducible apply gt9 _ (.binOp .lss _ _ _ _)); (refine wvv9 (V.lss rfl rfl) ?_; go_step)) | ((with_reducible apply gt9 _ (.binOp .rem _ _ _ _)); (refine wvv9 (V.rem rfl rfl (by omega) (by omega)) ?_; go_step)) | ((with_reducible apply gt9 _ (.binOp .eql 3 _ _ _)); (refine wvv9 (V.eql rfl rfl) ?_; go_step)) | ((with_reducible apply gt9 _ (.unOp .not _ _)); (refine wvv9 (V.not rfl) ?_; go_step)) | ((with_reducible apply gt9 _ (.binOp .mul _ _ _ _)); (refine wvv9 (V.mulI rfl rfl (by omega)) ?_; go_step)) | ((with_reducible apply gt9 _ (.binOp .add _ _ _ _)); (refine wvv9 (V.addI rfl rfl (by omega)) ?_; go_step)) | ((with_reducible apply gt9 (some 29) (.buildSlice 24 _ _)); (refine wpl (by kernel_rfl) ?_; apply wp_buildSlice1 (o := ⟨some 29, _, _, _, _, _⟩) hS 24 1 _ rfl 3 1 8 el24 _ _; (case hvs => (repeat (first | exact Parts.nil | (apply Parts.agg; (rfl); (rfl)) | (apply Parts.one; exact isv9; (rfl); (rfl))))); (case hn => rfl); (case hn0 => decide); (case hns => decide); clear hS; intro g29 w hS; refine put_move ?_; go_step)) | ((with_reducible apply gt9 (some 30) (.call ⟨.builtin .append, _, _⟩)); (refine wpl (by kernel_rfl) ?_; apply wp_append (o := ⟨some 30, _, _, _, _, _⟩) hS _ _ 24 rfl 3 1 8 el24 _ _ _ _ rfl; (case hp => exact pl9); (case hx => exact rfl); (case hm => (first | exact hS.slBlk pl9 (by rfl) (by decide) | exact hS.sl pl9 | with_reducible assumption | exact Sl.ext (by with_reducible assumption) hS.1 | exact Sl.nil _ _ | exact Sl.ext (by assumption) hS.1 | assumption)); (case h1 => (first | exact oneAll rfl | exact oneMap _ _ | (intro u hu; cases hu))); (case h63 => unfold maxLen; omega); (case hb => omega); clear hS; intro ad30 c30 w hS; (first | simp only [mapk1] at hS | simp only [mapk2] at hS | simp only [mapk3] at hS | simp only [mapk4] at hS | simp only [mapkl] at hS | skip); refine put_move ?_; go_step)) | ((fail_if_success with_reducible apply ga9); go_step))
              all_goals (try (have hF : False := (by omega); cases hF))
              go_roundg (gk - 1)
              case measure => omega
              case rel => exact ⟨i + 1, m2 + 1, ad30, c30, by omega, by go_num, rfl, hid (by rw [HSt.out, List.length_append, HM2.out]; rfl), by rw [HSt.out]; exact hS.sub sb9⟩
          · rw [if_neg hin] at hzc
            rw [hzc, List.append_nil] at HSt
            clear hzc
            rcases h8 with h8 | h8
            all_goals
              repeat' (first
                | ((with_reducible apply gt9 _ (.call ⟨.value (.func 78), _, _⟩)); refine wpl_call (f := 78) Tryd.call78 (by kernel_rfl) ?_; refine ⟨_, (outside_out _ _ _ _ (by omega)), ?_⟩; rintro e w' ⟨rfl, rfl⟩; refine ⟨_, rfl, ?_⟩; refine put_move ?_; go_step) | ((with_reducible apply gt9 _ (.move _)); (first | go_big_want | go_step); go_step) | ((with_reducible apply gt9 _ (.assign _)); (first | go_big_want | go_step); go_step) | ((with_reducible apply gt9 _ (.binOp .lss _ _ _ _)); (refine wvv9 (V.lss rfl rfl) ?_; go_step)) | ((with_reducible apply gt9 _ (.binOp .rem _ _ _ _)); (refine wvv9 (V.rem rfl rfl (by omega) (by omega)) ?_; go_step)) | ((with_reducible apply gt9 _ (.binOp .eql 3 _ _ _)); (refine wvv9 (V.eql rfl rfl) ?_; go_step)) | ((with_reducible apply gt9 _ (.binOp .sub _ _ _ _)); (refine wvv9 (V.subI rfl rfl (by omega)) ?_; go_step)) | ((with_reducible apply gt9 _ (.unOp .not _ _)); (refine wvv9 (V.not rfl) ?_; go_step)) | ((with_reducible apply gt9 _ (.binOp .add _ _ _ _)); (refine wvv9 (V.addI rfl rfl (by omega)) ?_; go_step)) | ((fail_if_success with_reducible apply ga9); go_step))
              all_goals (try (have hF : False := (by omega); cases hF))
              go_roundg (gk - 1)
              case measure => omega
              case rel => exact ⟨i + 1, m2, ad2, c2, by omega, by go_num, rfl, hid (by rw [HSt.out, HM2.out]), by rw [HSt.out]; exact hS⟩
        · obtain rfl : i = 8 := by omega
          repeat' (first
            | ((with_reducible apply gt9 _ (.binOp .lss _ _ _ _)); (refine wvv9 (V.lss rfl rfl) ?_; go_step)) | ((fail_if_success with_reducible apply ga9); go_step))
          repeat' (first
            | ((with_reducible apply gt9 _ (.move _)); (first | go_big_want | go_step); go_step) | ((with_reducible apply gt9 _ (.binOp .add _ _ _ _)); (refine wvv9 (V.addI rfl rfl (by omega)) ?_; go_step)) | ((fail_if_success with_reducible apply ga9); go_step))
          go_roundg (gk1 - 1)
          case measure => omega
          case rel => exact ⟨s + 1, m2, ad2, c2, by omega, by go_num, rfl, HM2, hS⟩
    · obtain rfl : s = 15 := by omega
      rw [zslants_all] at HM hS
      obtain rfl : 64 = m := HM.out
      repeat' (first
        | ((with_reducible apply gt9 _ (.move _)); (first | go_big_want | go_step); go_step) | ((with_reducible apply gt9 _ (.assign _)); (first | go_big_want | go_step); go_step) | ((with_reducible apply gt9 _ (.binOp .lss _ _ _ _)); (refine wvv9 (V.lss rfl rfl) ?_; go_step)) | ((fail_if_success with_reducible apply ga9); go_step))
      repeat' (first
        | ((fail_if_success with_reducible apply ga9); go_step))
      go_ret
      exact ⟨ad, c, rfl, hS.sub sb9⟩
end Go.Proofs.YtehbjhocgnfpmaaDoor

/- The walks of the reference's ZigTo, BlockWithin and Tokens. -/
namespace Go.Proofs.YtehbjhocgnfpmaaDoor
open Go.RowKit
set_option linter.unusedVariables false
theorem zi_nth (i : Nat) (h : i < 64) : nth zi i = (zn i : Int) := by
  have := zi_get i h
  rw [iv_get zi i (by rw [zi_len]; exact h)] at this
  simpa using this
set_option maxRecDepth 100000 in
set_option maxHeartbeats 4000000 in
theorem refTo_any (w0 : World) (l : List Int) (hl : Len l 64) : Calls Tryd.prog 98 #[.agg (iv l)] w0 fun e w => e = .returned (.agg (iv (zto l))) ∧ Ext w0 w := by
  have hS := St.start w0
  go_enter Tryd.func98, Tryd.ntmps98
  repeat' (first
    | ((with_reducible apply gt9 _ (.call ⟨.value (.func 107), _, _⟩)); refine wpl_call (f := 107) Tryd.call107 (by kernel_rfl) ?_; refine ⟨_, (refOrder_any _), ?_⟩; rintro e w ⟨ad, c, rfl, hS2⟩; replace hS := hS.call1 hS2; clear hS2; refine ⟨_, rfl, ?_⟩; refine put_move ?_; go_step) | ((with_reducible apply gt9 _ (.move _)); (first | go_big_want | go_step); go_step) | ((with_reducible apply gt9 _ (.call ⟨.builtin .len, _, _⟩)); (refine wvv9 (V.len Tryd.underlying24 rfl) ?_; go_step)) | ((with_reducible apply gt9 (some 1) (.box 52 _)); (refine wpl (by kernel_rfl) ?_; apply wp_boxA (o := ⟨some 1, _, _, _, _, _⟩) hS 52 _ rfl _ 64 rfl; (case hn => assumption); clear hS; intro g1 w hS; refine put_move ?_; go_step)) | ((with_reducible apply gt9 (some 2) (.alloc 52)); (refine wpl (by kernel_rfl) ?_; apply wp_allocA (o := ⟨some 2, _, _, _, _, _⟩) hS 52 rfl (List.replicate 64 0) 64 List.length_replicate za52; clear hS; intro g2 w hS; refine put_move ?_; go_step)) | ((with_reducible apply gt9 (some 3) (.alloc 52)); (refine wpl (by kernel_rfl) ?_; apply wp_allocA (o := ⟨some 3, _, _, _, _, _⟩) hS 52 rfl (List.replicate 64 0) 64 List.length_replicate za52; clear hS; intro g3 w hS; refine put_move ?_; go_step)) | ((fail_if_success with_reducible apply ga9); go_step))
  go_loopg [8] 64 (fun gk kv w => ∃ (k : Nat) (L : List Int), gk + k = 64 ∧ kv = .int .i64 k ∧ Len L 64 ∧ Hid (∀ j, j < k → nth L j = nth l (zn j)) ∧ St w0 w [own 3 1 ad 64 c (zi.map (Value.int .i64)), arr g3 64 L, arr g1 64 l, arr g2 64 (List.replicate 64 0)])
  case atStart => exact ⟨0, _, rfl, rfl, List.length_replicate, hid (fun j hj => by omega), hS.sub sb9⟩
  case round =>
    clear hS
    obtain ⟨k, L, hk, rfl, hLL, HL, hS⟩ := hrel
    by_cases hlt : k < 64
    · have hq := zn_lt k hlt
      have hz := zi_nth k hlt
      obtain ⟨q, hqe⟩ : ∃ q, zn k = q := ⟨_, rfl⟩
      rw [hqe] at hq hz
      have HQ := hid hqe
      have HZ := hid hz
      clear hqe hz
      obtain ⟨b2, rfl⟩ := own_some hS pl9 (by omega)
      repeat' (first
        | ((with_reducible apply gt9 _ (.move _)); (first | go_big_want | go_step); go_step) | ((with_reducible apply gt9 _ (.assign _)); (first | go_big_want | go_step); go_step) | ((with_reducible apply gt9 _ (.binOp .lss _ _ _ _)); (refine wvv9 (V.lss rfl rfl) ?_; go_step)) | ((with_reducible apply gt9 (some 11) (.indexAddr 24 _ _)); (refine wvv9 (V.indexSl Tryd.underlying24 isz3 rfl rfl isn9 (by omega) (Nat.mul_one _) nq9) ?_; go_step)) | ((with_reducible apply gt9 _ (.load 3 _)); (refine wpl (by kernel_rfl) ?_; apply wp_load1OI hS 3 _ rfl _ _ rfl (one_of rfl) _ _ _ _ _; (case hp => exact pl9); (case hi => omega); refine put_move ?_; go_step)) | ((fail_if_success with_reducible apply ga9); go_step))
      rw [HZ.out]
      repeat' (first
        | ((with_reducible apply gt9 _ (.move _)); (first | go_big_want | go_step); go_step) | ((with_reducible apply gt9 (some 15) (.indexAddr 52 _ _)); (refine wvv9 (V.indexAr Tryd.underlying52 isz3 rfl rfl isn9 (by omega) (Nat.mul_one _) nq9) ?_; go_step)) | ((with_reducible apply gt9 (some 17) (.indexAddr 52 _ _)); (refine wvv9 (V.indexAr Tryd.underlying52 isz3 rfl rfl isn9 (by omega) (Nat.mul_one _) nq9) ?_; go_step)) | ((with_reducible apply gt9 _ (.binOp .add _ _ _ _)); (refine wvv9 (V.addI rfl rfl (by omega)) ?_; go_step)) | ((with_reducible apply gt9 _ (.load 3 _)); (refine wpl (by kernel_rfl) ?_; apply wp_load1A hS 3 _ rfl _ _ rfl (one_of rfl) _ _; (case hp => exact pl9); (case hi => omega); refine put_move ?_; go_step)) | ((with_reducible apply gt9 _ (.store 3 _ _)); (refine wpl (by kernel_rfl) ?_; apply wp_store1A hS 3 _ _ rfl _ _ rfl (one_of rfl) _ _; (case hp => exact pl9); (case hy => rfl); (case hi => omega); (case hd => exact rfl); clear hS; intro w hS)) | ((fail_if_success with_reducible apply ga9); go_step))
      go_roundg (gk - 1)
      case measure => omega
      case rel =>
        refine ⟨k + 1, L.set k (nth l q), by omega, by go_num, Len.set hLL, hid (fun j hj => ?_), hS.sub sb9⟩
        rw [nth_set _ _ _ _ (by rw [show L.length = 64 from hLL]; exact hlt)]
        by_cases hj2 : j = k
        · subst hj2; simp [HQ.out]
        · have := HL.out j (by omega)
          rw [if_neg (by omega)]; exact this
    · obtain rfl : k = 64 := by omega
      have hz : L = zto l := by
        refine List.ext_getElem (by rw [zto_len]; exact hLL) fun j h1 h2 => ?_
        have hj : j < 64 := by have : L.length = 64 := hLL; omega
        have h3 := HL.out j hj
        rw [← zto_get l j hj] at h3
        simp only [nth, List.getD, List.getElem?_eq_getElem h1, List.getElem?_eq_getElem h2, Option.getD_some] at h3
        exact h3
      have HZ := hid hz
      clear hz
      repeat' (first
        | ((with_reducible apply gt9 _ (.binOp .lss _ _ _ _)); (refine wvv9 (V.lss rfl rfl) ?_; go_step)) | ((fail_if_success with_reducible apply ga9); go_step))
      repeat' (first
        | ((with_reducible apply gt9 _ (.load 52 _)); (refine wpl (by kernel_rfl) ?_; apply wp_loadA hS 52 _ rfl _ rfl 64 (row_of rfl) _; (case hp => exact pl9); refine put_move ?_; go_step)) | ((with_reducible apply gt9 _ (.store 52 _ _)); (refine wpl (by kernel_rfl) ?_; apply wp_storeA hS 52 _ _ rfl _ rfl 64 (row_of rfl) _ _; (case hp => exact pl9); (case hy => rfl); (case hm => (repeat (first | assumption | exact Len.rep | apply Len.set | ((with_reducible show Len (_ :: _) _); exact rfl)))); (case hd => exact rfl); clear hS; intro w hS)) | ((fail_if_success with_reducible apply ga9); go_step))
      refine ret_one rfl (OneRes.arr hS rfl (row_of (n := 64) rfl) pl9) rfl ?_
      exact ⟨by rw [← HZ.out], hS.1⟩
set_option maxRecDepth 100000 in
set_option maxHeartbeats 4000000 in
theorem within_any (w0 : World) (l : List Int) (lo hi : Int) (hl : Len l 64) : Calls Tryd.prog 58 #[.agg (iv l), .int .i64 lo, .int .i64 hi] w0 fun e w => e = .returned (.bool (allIn l lo hi)) ∧ Ext w0 w := by
  have hS := St.start w0
  have HIff := hid (allIn_iff l lo hi)
  have HLl := hid (show l.length = 64 from hl)
  obtain ⟨B, hB⟩ : ∃ B, allIn l lo hi = B := ⟨_, rfl⟩
  rw [hB] at HIff ⊢
  clear hB
  go_enter Tryd.func58, Tryd.ntmps58
  repeat' (first
    | ((with_reducible apply gt9 _ (.move _)); (first | go_big_want | go_step); go_step) | ((with_reducible apply gt9 _ (.assign _)); (first | go_big_want | go_step); go_step) | ((with_reducible apply gt9 (some 3) (.box 52 _)); (refine wpl (by kernel_rfl) ?_; apply wp_boxA (o := ⟨some 3, _, _, _, _, _⟩) hS 52 _ rfl _ 64 rfl; (case hn => assumption); clear hS; intro g3 w hS; refine put_move ?_; go_step)) | ((with_reducible apply gt9 _ (.load 52 _)); (refine wpl (by kernel_rfl) ?_; apply wp_loadA hS 52 _ rfl _ rfl 64 (row_of rfl) _; (case hp => exact pl9); refine put_move ?_; go_step)) | ((fail_if_success with_reducible apply ga9); go_step))
  go_loopg [10] 64 (fun gk kv w => ∃ (k : Nat), gk + k = 64 ∧ kv = .int .i64 k ∧ Hid (∀ j, j < k → lo ≤ nth l j ∧ nth l j ≤ hi) ∧ St w0 w [])
  case atStart => exact ⟨0, rfl, rfl, hid (fun j hj => by omega), hS.sub sb9⟩
  case round =>
    clear hS
    obtain ⟨k, hk, rfl, HL, hS⟩ := hrel
    by_cases hlt : k < 64
    · obtain ⟨x, hx⟩ : ∃ x, nth l k = x := ⟨_, rfl⟩
      have HX := hid hx
      clear hx
      by_cases hin : lo ≤ x ∧ x ≤ hi
      · skip
        repeat' (first
          | ((with_reducible apply gt9 _ (.move _)); (first | go_big_want | go_step); go_step) | ((with_reducible apply gt9 _ (.assign _)); (first | go_big_want | go_step); go_step) | ((with_reducible apply gt9 _ (.binOp .lss _ _ _ _)); (refine wvv9 (V.lss rfl rfl) ?_; go_step)) | ((with_reducible apply gt9 (some 12) (.index 52 _ _)); (refine wplV _ (V.indexIv Tryd.underlying52 Tryd.underlying3 isz3 rfl rfl (by (repeat (first | assumption | exact Len.rep | apply Len.set | ((with_reducible show Len (_ :: _) _); exact rfl)))) isn9 (by omega)) (by kernel_rfl) ?_; go_step)) | ((fail_if_success with_reducible apply ga9); go_step))
        rw [HX.out]
        repeat' (first
          | ((with_reducible apply gt9 _ (.call ⟨.value (.func 78), _, _⟩)); refine wpl_call (f := 78) Tryd.call78 (by kernel_rfl) ?_; refine ⟨_, (outside_in _ _ _ _ (by omega)), ?_⟩; rintro e w' ⟨rfl, rfl⟩; refine ⟨_, rfl, ?_⟩; refine put_move ?_; go_step) | ((with_reducible apply gt9 _ (.move _)); (first | go_big_want | go_step); go_step) | ((with_reducible apply gt9 _ (.binOp .add _ _ _ _)); (refine wvv9 (V.addI rfl rfl (by omega)) ?_; go_step)) | ((fail_if_success with_reducible apply ga9); go_step))
        go_roundg (gk - 1)
        case measure => omega
        case rel =>
          refine ⟨k + 1, by omega, by go_num, hid (fun j hj => ?_), hS⟩
          by_cases hj2 : j = k
          · subst hj2; rw [HX.out]; exact hin
          · exact HL.out j (by omega)
      · have HB : Hid (B = false) := hid (by
          cases B
          · rfl
          · have := HIff.out.1 rfl k (by rw [HLl.out]; exact hlt)
            rw [HX.out] at this
            exact absurd this hin)
        repeat' (first
          | ((with_reducible apply gt9 _ (.move _)); (first | go_big_want | go_step); go_step) | ((with_reducible apply gt9 _ (.assign _)); (first | go_big_want | go_step); go_step) | ((with_reducible apply gt9 _ (.binOp .lss _ _ _ _)); (refine wvv9 (V.lss rfl rfl) ?_; go_step)) | ((with_reducible apply gt9 (some 12) (.index 52 _ _)); (refine wplV _ (V.indexIv Tryd.underlying52 Tryd.underlying3 isz3 rfl rfl (by (repeat (first | assumption | exact Len.rep | apply Len.set | ((with_reducible show Len (_ :: _) _); exact rfl)))) isn9 (by omega)) (by kernel_rfl) ?_; go_step)) | ((fail_if_success with_reducible apply ga9); go_step))
        rw [HX.out]
        repeat' (first
          | ((with_reducible apply gt9 _ (.call ⟨.value (.func 78), _, _⟩)); refine wpl_call (f := 78) Tryd.call78 (by kernel_rfl) ?_; refine ⟨_, (outside_out _ _ _ _ (by omega)), ?_⟩; rintro e w' ⟨rfl, rfl⟩; refine ⟨_, rfl, ?_⟩; refine put_move ?_; go_step) | ((with_reducible apply gt9 _ (.assign _)); (first | go_big_want | go_step); go_step) | ((fail_if_success with_reducible apply ga9); go_step))
        go_ret
        exact ⟨by rw [HB.out]; rfl, hS.1⟩
    · obtain rfl : k = 64 := by omega
      have HB : Hid (B = true) := hid (HIff.out.2 fun i hi => HL.out i (by rw [← HLl.out]; exact hi))
      repeat' (first
        | ((with_reducible apply gt9 _ (.assign _)); (first | go_big_want | go_step); go_step) | ((with_reducible apply gt9 _ (.binOp .lss _ _ _ _)); (refine wvv9 (V.lss rfl rfl) ?_; go_step)) | ((fail_if_success with_reducible apply ga9); go_step))
      repeat' (first
        | ((fail_if_success with_reducible apply ga9); go_step))
      go_ret
      exact ⟨by rw [HB.out]; rfl, hS.1⟩
end Go.Proofs.YtehbjhocgnfpmaaDoor

/- The walk of the reference's Tokens: it gives what run.Tokens gives. -/
namespace Go.Proofs.YtehbjhocgnfpmaaDoor
open Go.RowKit
set_option linter.unusedVariables false
set_option maxRecDepth 100000 in
set_option maxHeartbeats 8000000 in
theorem refTokens_any (w0 : World) (before : Int) (l : List Int) (hl : Len l 64) :
    Calls Tryd.prog 83 #[.int .i64 before, .agg (iv l)] w0 fun e w => ∃ ad c, e = .returned (.tuple #[.slice ad (tokL before l).length c, .int .i64 (tokE before l)]) ∧ St w0 w [own 69 3 ad (tokL before l).length c ((flt (tokL before l)).map (Value.int .i64))] := by
  have hS := St.start w0
  obtain ⟨E, hE⟩ : ∃ E, tokE before l = E := ⟨_, rfl⟩
  by_cases h0 : E = 0
  case neg =>
    have hne : tokE before l ≠ 0 := by rw [hE]; exact h0
    have he1 : E = 1 := by
      rw [← hE] at h0 ⊢
      unfold tokE at h0 ⊢
      split
      · rename_i h; rw [if_pos h] at h0; exact absurd rfl h0
      · rfl
    subst he1
    have HE := hid hE
    have HTL := hid (show tokL before l = [] by unfold tokL; rw [if_neg hne])
    by_cases hb : -2047 ≤ before ∧ before ≤ 2047
    · have hin : allIn l (-2047) 2047 = false := by
        cases e : allIn l (-2047) 2047
        · rfl
        · exfalso; apply hne; unfold tokE; rw [if_pos ⟨(isC_iff _).2 hb, e⟩]
      have HIN := hid hin
      clear hne hin hE
      go_enter Tryd.func83, Tryd.ntmps83
      repeat' (first
        | ((with_reducible apply gt9 _ (.call ⟨.value (.func 78), _, _⟩)); refine wpl_call (f := 78) Tryd.call78 (by kernel_rfl) ?_; refine ⟨_, (outside_in _ _ _ _ hb), ?_⟩; rintro e w' ⟨rfl, rfl⟩; refine ⟨_, rfl, ?_⟩; refine put_move ?_; go_step) | ((with_reducible apply gt9 _ (.call ⟨.value (.func 58), _, _⟩)); refine wpl_call (f := 58) Tryd.call58 (by kernel_rfl) ?_; refine ⟨_, (within_any _ l _ _ hl), ?_⟩; rintro e w' ⟨rfl, hE2⟩; rw [HIN.out]; replace hS := hS.ext hE2; clear hE2; refine ⟨_, rfl, ?_⟩; refine put_move ?_; go_step) | ((with_reducible apply gt9 _ (.move _)); (first | go_big_want | go_step); go_step) | ((with_reducible apply gt9 _ (.assign _)); (first | go_big_want | go_step); go_step) | ((with_reducible apply gt9 _ (.pick _ _ _)); (refine wplPickF rfl (by kernel_rfl) ?_; go_step)) | ((with_reducible apply gt9 _ (.unOp .not _ _)); (refine wvv9 (V.not rfl) ?_; go_step)) | ((with_reducible apply gt9 (some 3) (.box 52 _)); (refine wpl (by kernel_rfl) ?_; apply wp_boxA (o := ⟨some 3, _, _, _, _, _⟩) hS 52 _ rfl _ 64 rfl; (case hn => assumption); clear hS; intro g3 w hS; refine put_move ?_; go_step)) | ((with_reducible apply gt9 _ (.load 52 _)); (refine wpl (by kernel_rfl) ?_; apply wp_loadA hS 52 _ rfl _ rfl 64 (row_of rfl) _; (case hp => exact pl9); refine put_move ?_; go_step)) | ((fail_if_success with_reducible apply ga9); go_step))
      all_goals (try (have hF : False := (by omega); cases hF))
      refine ret_all (xs := [_, _]) rfl (.cons (OneRes.tmp rfl) (.cons (OneRes.tmp rfl) (.nil))) (by simp) rfl ?_
      refine ⟨none, 0, by rw [HTL.out, HE.out]; rfl, ?_⟩
      rw [HTL.out]
      exact (St.of_ext hS.1).nil _ _
    · clear hne hE
      go_enter Tryd.func83, Tryd.ntmps83
      repeat' (first
        | ((with_reducible apply gt9 _ (.call ⟨.value (.func 78), _, _⟩)); refine wpl_call (f := 78) Tryd.call78 (by kernel_rfl) ?_; refine ⟨_, (outside_out _ _ _ _ (by omega)), ?_⟩; rintro e w' ⟨rfl, rfl⟩; refine ⟨_, rfl, ?_⟩; refine put_move ?_; go_step) | go_skip | ((with_reducible apply gt9 _ (.move _)); (first | go_big_want | go_step); go_step) | ((with_reducible apply gt9 _ (.assign _)); (first | go_big_want | go_step); go_step) | ((with_reducible apply gt9 _ (.pick _ _ _)); (refine wplPickT rfl (by kernel_rfl) ?_; go_step)) | ((with_reducible apply gt9 (some 3) (.box 52 _)); (refine wpl (by kernel_rfl) ?_; apply wp_boxA (o := ⟨some 3, _, _, _, _, _⟩) hS 52 _ rfl _ 64 rfl; (case hn => assumption); clear hS; intro g3 w hS; refine put_move ?_; go_step)) | ((fail_if_success with_reducible apply ga9); go_step))
      all_goals (try (have hF : False := (by omega); cases hF))
      refine ret_all (xs := [_, _]) rfl (.cons (OneRes.tmp rfl) (.cons (OneRes.tmp rfl) (.nil))) (by simp) rfl ?_
      refine ⟨none, 0, by rw [HTL.out, HE.out]; rfl, ?_⟩
      rw [HTL.out]
      exact (St.of_ext hS.1).nil _ _
  subst h0
  obtain ⟨hb, hz⟩ := tokE_ok (show l.length = 64 from hl) hE
  have HIN : Hid (allIn l (-2047) 2047 = true) := hid ((allIn_iff l (-2047) 2047).2 fun i hi => hz i (by have : l.length = 64 := hl; omega))
  have hTL : tokL before l = toksOf before (zto l) := by unfold tokL; rw [if_pos hE]
  have hlz := zto_len l
  have hzz : ∀ i, i < 64 → -2047 ≤ nth (zto l) i ∧ nth (zto l) i ≤ 2047 := fun i hi => by rw [zto_get _ i hi]; exact hz _ (zn_lt i hi)
  rw [hTL, hE]
  obtain ⟨z, hze⟩ : ∃ z, zto l = z := ⟨_, rfl⟩
  have HZ := hid hze
  rw [hze] at hlz hzz ⊢
  have HZl : Len z 64 := hlz
  have HZZ := hid hzz
  have hz0 := hzz 0 (by omega)
  obtain ⟨all, hall⟩ : ∃ a, toksOf before z = a := ⟨_, rfl⟩
  rw [hall]
  have HAll := hid hall
  have hzl := hid hlz
  clear hze hlz hzz hall hz hTL hE
  go_enter Tryd.func83, Tryd.ntmps83
  repeat' (first
    | ((with_reducible apply gt9 _ (.call ⟨.value (.func 78), _, _⟩)); refine wpl_call (f := 78) Tryd.call78 (by kernel_rfl) ?_; refine ⟨_, (outside_in _ _ _ _ hb), ?_⟩; rintro e w' ⟨rfl, rfl⟩; refine ⟨_, rfl, ?_⟩; refine put_move ?_; go_step) | ((with_reducible apply gt9 _ (.call ⟨.value (.func 58), _, _⟩)); refine wpl_call (f := 58) Tryd.call58 (by kernel_rfl) ?_; refine ⟨_, (within_any _ l _ _ hl), ?_⟩; rintro e w' ⟨rfl, hE2⟩; rw [HIN.out]; replace hS := hS.ext hE2; clear hE2; refine ⟨_, rfl, ?_⟩; refine put_move ?_; go_step) | ((with_reducible apply gt9 _ (.call ⟨.value (.func 98), _, _⟩)); refine wpl_call (f := 98) Tryd.call98 (by kernel_rfl) ?_; refine ⟨_, (refTo_any _ l hl), ?_⟩; rintro e w ⟨rfl, hE⟩; rw [HZ.out]; replace hS := hS.ext hE; clear hE; refine ⟨_, rfl, ?_⟩; refine put_move ?_; go_step) | ((with_reducible apply gt9 _ (.call ⟨.value (.func 99), _, _⟩)); refine wpl_call (f := 99) Tryd.call99 (by kernel_rfl) ?_; refine ⟨_, (refToken_any _ 0 (nth z 0 - before) (by omega) (by omega) (by omega)), ?_⟩; rintro e w ⟨rfl, hE⟩; replace hS := hS.ext hE; clear hE; refine ⟨_, rfl, ?_⟩; refine put_move ?_; go_step) | ((with_reducible apply gt9 (some 25) (.buildSlice _ _ _)); (refine wpl (by kernel_rfl) ?_; apply wp_buildSliceO (o := ⟨some 25, _, _, _, _, _⟩) hS 100 1 _ rfl 69 3 24 el100 _ _; (case hvs => (repeat (first | exact Parts.nil | (apply Parts.agg; (rfl); (rfl)) | (apply Parts.one; exact isv9; (rfl); (rfl))))); (case hn => rfl); (case hn0 => decide); (case hns => decide); clear hS; intro g25 w hS; simp only [List.cons_append, List.nil_append] at hS; refine put_move ?_; go_step)) | ((with_reducible apply gt9 _ (.move _)); (first | go_big_want | go_step); go_step) | ((with_reducible apply gt9 _ (.assign _)); (first | go_big_want | go_step); go_step) | ((with_reducible apply gt9 _ (.pick _ _ _)); (refine wplPickF rfl (by kernel_rfl) ?_; go_step)) | ((with_reducible apply gt9 _ (.unOp .not _ _)); (refine wvv9 (V.not rfl) ?_; go_step)) | ((with_reducible apply gt9 (some 20) (.indexAddr 52 _ _)); (refine wvv9 (V.indexAr Tryd.underlying52 isz3 rfl rfl (show IsN 0 0 from rfl) (by omega) (show 0 * 1 = 0 from rfl) nq9) ?_; go_step)) | ((with_reducible apply gt9 _ (.binOp .sub _ _ _ _)); (refine wvv9 (V.subI rfl rfl (by omega)) ?_; go_step)) | ((with_reducible apply gt9 (some 3) (.box 52 _)); (refine wpl (by kernel_rfl) ?_; apply wp_boxA (o := ⟨some 3, _, _, _, _, _⟩) hS 52 _ rfl _ 64 rfl; (case hn => assumption); clear hS; intro g3 w hS; refine put_move ?_; go_step)) | ((with_reducible apply gt9 _ (.load 52 _)); (refine wpl (by kernel_rfl) ?_; apply wp_loadA hS 52 _ rfl _ rfl 64 (row_of rfl) _; (case hp => exact pl9); refine put_move ?_; go_step)) | ((with_reducible apply gt9 (some 6) (.alloc 52)); (refine wpl (by kernel_rfl) ?_; apply wp_allocA (o := ⟨some 6, _, _, _, _, _⟩) hS 52 rfl (List.replicate 64 0) 64 List.length_replicate za52; clear hS; intro g6 w hS; refine put_move ?_; go_step)) | ((with_reducible apply gt9 _ (.store 52 _ _)); (refine wpl (by kernel_rfl) ?_; apply wp_storeA hS 52 _ _ rfl _ rfl 64 (row_of rfl) _ _; (case hp => exact pl9); (case hy => rfl); (case hm => (repeat (first | assumption | exact Len.rep | apply Len.set | ((with_reducible show Len (_ :: _) _); exact rfl)))); (case hd => exact rfl); clear hS; intro w hS)) | ((with_reducible apply gt9 _ (.load 3 _)); (refine wpl (by kernel_rfl) ?_; apply wp_load1A hS 3 _ rfl _ _ rfl (one_of rfl) _ _; (case hp => exact pl9); (case hi => omega); refine put_move ?_; go_step)) | ((fail_if_success with_reducible apply ga9); go_step))
  replace hS : St w0 w [own 69 3 (some ⟨g25, 0, none⟩) 1 1 ((flt [tok 0 (nth z 0 - before)]).map (Value.int .i64)), arr g6 64 z] := hS.sub (xs := [own 69 3 (some ⟨g25, 0, none⟩) 1 1 [.int .i64 (tok 0 (nth z 0 - before)).1, .int .i64 (tok 0 (nth z 0 - before)).2.1, .int .i64 (tok 0 (nth z 0 - before)).2.2], arr g6 64 z]) sb9
  go_loopg [7, 8, 9] 63 (fun gk ov lv kv w => ∃ (i la r m : Nat) (o : List Tok) (a' : Option Addr) (c' : Nat), gk + i = 64 ∧ kv = .int .i64 i ∧ lv = .int .i64 la ∧ i = la + 1 + r ∧ ov = .slice a' m c' ∧ m + r ≤ i ∧ Hid (o.length = m) ∧ Hid (all = o ++ tks r (z.drop i)) ∧ St w0 w [own 69 3 a' m c' ((flt o).map (Value.int .i64)), arr g6 64 z])
  case atStart => exact ⟨1, 0, 0, 1, [tok 0 (nth z 0 - before)], _, _, rfl, rfl, rfl, rfl, rfl, by omega, hid rfl, hid (by rw [← HAll.out]; rfl), hS⟩
  case round =>
    clear hS
    obtain ⟨i, la, r, m, o, a', c', hk, rfl, rfl, hir, rfl, hmr, HO, HA, hS⟩ := hrel
    by_cases hlt : i < 64
    · have hdrop : z.drop i = nth z i :: z.drop (i + 1) := by
        rw [List.drop_eq_getElem_cons (by rw [hzl.out]; omega)]
        simp [nth, List.getD, hzl.out, hlt]
      have hn := HZZ.out i hlt
      have ha := HA.out
      rw [hdrop, tks] at ha
      obtain ⟨n, hne⟩ : ∃ n, nth z i = n := ⟨_, rfl⟩
      rw [hne] at ha hn
      have HN := hid hne
      clear hdrop hne HA
      by_cases h0 : n = 0
      · subst h0
        rw [if_pos rfl] at ha
        have HA2 := hid ha
        clear ha
        repeat' (first
          | ((with_reducible apply gt9 (some 32) _); refine wpl (by kernel_rfl) ?_; apply wp_load1A hS 3 _ rfl _ _ rfl (one_of rfl) _ _; (case hp => exact pl9); (case hi => omega); rw [HN.out]; refine put_move ?_; go_step) | ((with_reducible apply gt9 _ (.move _)); (first | go_big_want | go_step); go_step) | ((with_reducible apply gt9 _ (.assign _)); (first | go_big_want | go_step); go_step) | ((with_reducible apply gt9 _ (.binOp .lss _ _ _ _)); (refine wvv9 (V.lss rfl rfl) ?_; go_step)) | ((with_reducible apply gt9 _ (.binOp .add _ _ _ _)); (refine wvv9 (V.addI rfl rfl (by omega)) ?_; go_step)) | ((with_reducible apply gt9 (some 31) (.indexAddr 52 _ _)); (refine wvv9 (V.indexAr Tryd.underlying52 isz3 rfl rfl isn9 (by omega) (Nat.mul_one _) nq9) ?_; go_step)) | ((with_reducible apply gt9 _ (.binOp .eql 3 _ _ _)); (refine wvv9 (V.eql rfl rfl) ?_; go_step)) | ((fail_if_success with_reducible apply ga9); go_step))
        go_roundg (gk - 1)
        case measure => omega
        case rel => exact ⟨i + 1, la, r + 1, m, o, a', c', by omega, by go_num, rfl, by omega, rfl, by omega, HO, HA2, hS⟩
      · rw [if_neg h0] at ha
        have HA2 := hid ha
        clear ha
        repeat' (first
          | ((with_reducible apply gt9 _ (.move _)); (first | go_big_want | go_step); go_step) | ((with_reducible apply gt9 _ (.binOp .lss _ _ _ _)); (refine wvv9 (V.lss rfl rfl) ?_; go_step)) | ((fail_if_success with_reducible apply ga9); go_step))
        repeat' (first
          | ((with_reducible apply gt9 (some 32) _); refine wpl (by kernel_rfl) ?_; apply wp_load1A hS 3 _ rfl _ _ rfl (one_of rfl) _ _; (case hp => exact pl9); (case hi => omega); rw [HN.out]; refine put_move ?_; go_step) | ((with_reducible apply gt9 (some 37) (.binOp .sub _ _ _ _)); (refine wplV (.int _ (((r : Nat) : Int))) (V.as (V.subI rfl rfl (by omega)) (by omega)) rfl ?_; go_step)) | ((with_reducible apply gt9 (some 39) (.binOp .quo _ _ _ _)); (refine wplV (.int _ (((r / 16 : Nat) : Int))) (V.as (V.quo rfl rfl (by omega) (by omega)) (by omega)) rfl ?_; go_step)) | ((with_reducible apply gt9 _ (.move _)); (first | go_big_want | go_step); go_step) | ((with_reducible apply gt9 _ (.assign _)); (first | go_big_want | go_step); go_step) | ((with_reducible apply gt9 (some 31) (.indexAddr 52 _ _)); (refine wvv9 (V.indexAr Tryd.underlying52 isz3 rfl rfl isn9 (by omega) (Nat.mul_one _) nq9) ?_; go_step)) | ((with_reducible apply gt9 _ (.binOp .eql 3 _ _ _)); (refine wvv9 (V.eql rfl rfl) ?_; go_step)) | ((with_reducible apply gt9 _ (.binOp .sub _ _ _ _)); (refine wvv9 (V.subI rfl rfl (by omega)) ?_; go_step)) | ((fail_if_success with_reducible apply ga9); go_step))
        obtain ⟨gk1, hgk1⟩ : ∃ x, x = gk := ⟨_, rfl⟩
        subst hgk1
        go_loopg [7, 40] (r / 16) (fun gk ov kv w => ∃ (j m : Nat) (o : List Tok) (a' : Option Addr) (c' : Nat), gk + j = r / 16 ∧ kv = .int .i64 j ∧ ov = .slice a' m c' ∧ m + r ≤ i + j ∧ Hid (o.length = m) ∧ Hid (all = o ++ (List.replicate gk longT ++ (tok (r % 16) n :: tks 0 (z.drop (i + 1))))) ∧ St w0 w [own 69 3 a' m c' ((flt o).map (Value.int .i64)), arr g6 64 z])
        case atStart => exact ⟨0, m, o, a', c', rfl, rfl, rfl, hmr, HO, HA2, hS⟩
        case round =>
          clear hS HO HA2
          obtain ⟨j, m, o, a', c', hj, rfl, rfl, hmr, HO, HA2, hS⟩ := hrel
          by_cases hbig : j < r / 16
          · have HA3 : Hid (all = (o ++ [longT]) ++ (List.replicate (gk - 1) longT ++ (tok (r % 16) n :: tks 0 (z.drop (i + 1))))) := hid (by
              rw [HA2.out, show gk = (gk - 1) + 1 by omega, List.replicate_succ]; simp)
            have HF := hid (show flt (o ++ [longT]) = flt o ++ [240, 0, 0] from flt_snoc o longT)
            clear HA2
            repeat' (first
              | ((with_reducible apply gt9 _ (.move _)); (first | go_big_want | go_step); go_step) | ((with_reducible apply gt9 _ (.assign _)); (first | go_big_want | go_step); go_step) | ((with_reducible apply gt9 _ (.binOp .lss _ _ _ _)); (refine wvv9 (V.lss rfl rfl) ?_; go_step)) | ((with_reducible apply gt9 (some 43) (.build 69 _)); (refine wvv9 (V.build (vs := [(0, _)]) rfl (bl69_0 _)) ?_; go_step)) | ((with_reducible apply gt9 _ (.binOp .add _ _ _ _)); (refine wvv9 (V.addI rfl rfl (by omega)) ?_; go_step)) | ((with_reducible apply gt9 (some 44) (.buildSlice 100 _ _)); (refine wpl (by kernel_rfl) ?_; apply wp_buildSlice1 (o := ⟨some 44, _, _, _, _, _⟩) hS 100 1 _ rfl 69 3 24 el100 _ _; (case hvs => (repeat (first | exact Parts.nil | (apply Parts.agg; (rfl); (rfl)) | (apply Parts.one; exact isv9; (rfl); (rfl))))); (case hn => rfl); (case hn0 => decide); (case hns => decide); clear hS; intro g44 w hS; simp only [List.cons_append, List.nil_append] at hS; refine put_move ?_; go_step)) | ((with_reducible apply gt9 (some 45) (.call ⟨.builtin .append, _, _⟩)); (refine wpl (by kernel_rfl) ?_; apply wp_append (o := ⟨some 45, _, _, _, _, _⟩) hS _ _ 100 rfl 69 3 24 el100 _ _ _ _ rfl; (case hp => exact pl9); (case hx => exact rfl); (case hm => (first | exact hS.slBlk pl9 (by rfl) (by decide) | exact hS.sl pl9 | with_reducible assumption | exact Sl.ext (by with_reducible assumption) hS.1 | exact Sl.nil _ _ | exact Sl.ext (by assumption) hS.1 | assumption)); (case h1 => (first | exact oneAll rfl | exact oneMap _ _ | (intro u hu; cases hu))); (case h63 => unfold maxLen; omega); (case hb => omega); clear hS; intro ad45 c45 w hS; (first | simp only [mapk1] at hS | simp only [mapk2] at hS | simp only [mapk3] at hS | simp only [mapk4] at hS | simp only [mapkl] at hS | skip); refine put_move ?_; go_step)) | ((fail_if_success with_reducible apply ga9); go_step))
            go_roundg (gk - 1)
            case measure => omega
            case rel => exact ⟨j + 1, m + 1, o ++ [longT], ad45, c45, by omega, by go_num, rfl, by omega, hid (by rw [List.length_append, HO.out]; rfl), HA3, (by rw [HF.out]; exact hS.sub sb9)⟩
          · obtain rfl : gk = 0 := by omega
            have HA3 : Hid (all = (o ++ [tok (r % 16) n]) ++ tks 0 (z.drop (i + 1))) := hid (by rw [HA2.out]; simp)
            have HF := hid (flt_snoc o (tok (r % 16) n))
            have hr15 : r % 16 ≤ 15 := by omega
            obtain ⟨q, hq⟩ : ∃ q, r % 16 = q := ⟨_, rfl⟩
            have HQ := hid hq
            rw [hq] at HA3 HF hr15
            clear HA2 hq
            repeat' (first
              | ((with_reducible apply gt9 _ (.move _)); (first | go_big_want | go_step); go_step) | ((with_reducible apply gt9 _ (.binOp .lss _ _ _ _)); (refine wvv9 (V.lss rfl rfl) ?_; go_step)) | ((fail_if_success with_reducible apply ga9); go_step))
            repeat' (first
              | ((with_reducible apply gt9 (some 52) _); refine wpl (by kernel_rfl) ?_; apply wp_load1A hS 3 _ rfl _ _ rfl (one_of rfl) _ _; (case hp => exact pl9); (case hi => omega); rw [HN.out]; refine put_move ?_; go_step) | ((with_reducible apply gt9 (some 49) (.binOp .rem _ _ _ _)); (refine wplV (.int _ (((q : Nat) : Int))) (V.as (V.rem rfl rfl (by omega) (by omega)) (by (have := HQ.out; omega))) rfl ?_; go_step)) | ((with_reducible apply gt9 (some 53) _); refine wpl_call (f := 99) Tryd.call99 (by kernel_rfl) ?_; refine ⟨_, (refToken_any _ q n hr15 (by omega) (by omega)), ?_⟩; rintro e w ⟨rfl, hE⟩; replace hS := hS.ext hE; clear hE; refine ⟨_, rfl, ?_⟩; refine put_move ?_; go_step) | ((with_reducible apply gt9 _ (.move _)); (first | go_big_want | go_step); go_step) | ((with_reducible apply gt9 _ (.assign _)); (first | go_big_want | go_step); go_step) | ((with_reducible apply gt9 (some 51) (.indexAddr 52 _ _)); (refine wvv9 (V.indexAr Tryd.underlying52 isz3 rfl rfl isn9 (by omega) (Nat.mul_one _) nq9) ?_; go_step)) | ((with_reducible apply gt9 (some 54) (.buildSlice 100 _ _)); (refine wpl (by kernel_rfl) ?_; apply wp_buildSlice1 (o := ⟨some 54, _, _, _, _, _⟩) hS 100 1 _ rfl 69 3 24 el100 _ _; (case hvs => (repeat (first | exact Parts.nil | (apply Parts.agg; (rfl); (rfl)) | (apply Parts.one; exact isv9; (rfl); (rfl))))); (case hn => rfl); (case hn0 => decide); (case hns => decide); clear hS; intro g54 w hS; simp only [List.cons_append, List.nil_append] at hS; refine put_move ?_; go_step)) | ((with_reducible apply gt9 (some 55) (.call ⟨.builtin .append, _, _⟩)); (refine wpl (by kernel_rfl) ?_; apply wp_append (o := ⟨some 55, _, _, _, _, _⟩) hS _ _ 100 rfl 69 3 24 el100 _ _ _ _ rfl; (case hp => exact pl9); (case hx => exact rfl); (case hm => (first | exact hS.slBlk pl9 (by rfl) (by decide) | exact hS.sl pl9 | with_reducible assumption | exact Sl.ext (by with_reducible assumption) hS.1 | exact Sl.nil _ _ | exact Sl.ext (by assumption) hS.1 | assumption)); (case h1 => (first | exact oneAll rfl | exact oneMap _ _ | (intro u hu; cases hu))); (case h63 => unfold maxLen; omega); (case hb => omega); clear hS; intro ad55 c55 w hS; (first | simp only [mapk1] at hS | simp only [mapk2] at hS | simp only [mapk3] at hS | simp only [mapk4] at hS | simp only [mapkl] at hS | skip); refine put_move ?_; go_step)) | ((fail_if_success with_reducible apply ga9); go_step))
            repeat' (first
              | ((with_reducible apply gt9 _ (.assign _)); (first | go_big_want | go_step); go_step) | ((with_reducible apply gt9 _ (.binOp .add _ _ _ _)); (refine wvv9 (V.addI rfl rfl (by omega)) ?_; go_step)) | ((fail_if_success with_reducible apply ga9); go_step))
            go_roundg (gk1 - 1)
            case measure => omega
            case rel => exact ⟨i + 1, i, 0, m + 1, o ++ [tok q n], ad55, c55, by omega, by go_num, rfl, by omega, rfl, by omega, hid (by rw [List.length_append, HO.out]; rfl), HA3, (by rw [HF.out]; exact hS.sub sb9)⟩
    · obtain rfl : i = 64 := by omega
      have ha := HA.out
      rw [show z.drop 64 = [] by rw [List.drop_eq_nil_iff, hzl.out]; omega, tks] at ha
      by_cases h0 : 0 < r
      · rw [if_pos h0] at ha
        have HL := hid (show all.length = m + 1 by rw [ha, List.length_append, HO.out]; rfl)
        have HF := hid (show flt all = flt o ++ [0, 0, 0] by rw [ha, flt_app]; rfl)
        clear ha HA
        repeat' (first
          | ((with_reducible apply gt9 _ (.move _)); (first | go_big_want | go_step); go_step) | ((with_reducible apply gt9 _ (.binOp .lss _ _ _ _)); (refine wvv9 (V.lss rfl rfl) ?_; go_step)) | ((fail_if_success with_reducible apply ga9); go_step))
        repeat' (first
          | ((with_reducible apply gt9 _ (.move _)); (first | go_big_want | go_step); go_step) | ((with_reducible apply gt9 _ (.assign _)); (first | go_big_want | go_step); go_step) | ((with_reducible apply gt9 (some 60) (.build 69 _)); (refine wvv9 (V.build (vs := []) rfl (bl69_)) ?_; go_step)) | ((with_reducible apply gt9 (some 61) (.buildSlice 100 _ _)); (refine wpl (by kernel_rfl) ?_; apply wp_buildSlice1 (o := ⟨some 61, _, _, _, _, _⟩) hS 100 1 _ rfl 69 3 24 el100 _ _; (case hvs => (repeat (first | exact Parts.nil | (apply Parts.agg; (rfl); (rfl)) | (apply Parts.one; exact isv9; (rfl); (rfl))))); (case hn => rfl); (case hn0 => decide); (case hns => decide); clear hS; intro g61 w hS; simp only [List.cons_append, List.nil_append] at hS; refine put_move ?_; go_step)) | ((with_reducible apply gt9 (some 62) (.call ⟨.builtin .append, _, _⟩)); (refine wpl (by kernel_rfl) ?_; apply wp_append (o := ⟨some 62, _, _, _, _, _⟩) hS _ _ 100 rfl 69 3 24 el100 _ _ _ _ rfl; (case hp => exact pl9); (case hx => exact rfl); (case hm => (first | exact hS.slBlk pl9 (by rfl) (by decide) | exact hS.sl pl9 | with_reducible assumption | exact Sl.ext (by with_reducible assumption) hS.1 | exact Sl.nil _ _ | exact Sl.ext (by assumption) hS.1 | assumption)); (case h1 => (first | exact oneAll rfl | exact oneMap _ _ | (intro u hu; cases hu))); (case h63 => unfold maxLen; omega); (case hb => omega); clear hS; intro ad62 c62 w hS; (first | simp only [mapk1] at hS | simp only [mapk2] at hS | simp only [mapk3] at hS | simp only [mapk4] at hS | simp only [mapkl] at hS | skip); refine put_move ?_; go_step)) | ((fail_if_success with_reducible apply ga9); go_step))
        refine ret_all (xs := [_, _]) rfl (.cons (OneRes.tmp rfl) (.cons (OneRes.tmp rfl) (.nil))) (by simp) rfl ?_
        refine ⟨ad62, c62, (by rw [HL.out]; first | done | rfl), ?_⟩
        rw [HL.out, HF.out]
        exact hS.sub sb9
      · rw [if_neg h0, List.append_nil] at ha
        have HL := hid (show all.length = m by rw [ha, HO.out])
        have HF := hid (show flt all = flt o by rw [ha])
        clear ha HA
        repeat' (first
          | ((with_reducible apply gt9 _ (.move _)); (first | go_big_want | go_step); go_step) | ((with_reducible apply gt9 _ (.assign _)); (first | go_big_want | go_step); go_step) | ((with_reducible apply gt9 _ (.binOp .lss _ _ _ _)); (refine wvv9 (V.lss rfl rfl) ?_; go_step)) | ((fail_if_success with_reducible apply ga9); go_step))
        repeat' (first
          | ((fail_if_success with_reducible apply ga9); go_step))
        refine ret_all (xs := [_, _]) rfl (.cons (OneRes.tmp rfl) (.cons (OneRes.tmp rfl) (.nil))) (by simp) rfl ?_
        refine ⟨a', c', (by rw [HL.out]; first | done | rfl), ?_⟩
        rw [HL.out, HF.out]
        exact hS.sub sb9
end Go.Proofs.YtehbjhocgnfpmaaDoor

/- The walks of the reference's BlocksCheck and Counts. -/
namespace Go.Proofs.YtehbjhocgnfpmaaDoor
open Go.RowKit
set_option linter.unusedVariables false
/-- Blocks that may be. -/
def allBlk (l : List Int) (n : Nat) : Bool := (List.range n).all fun k => blkIn (seg l 64 k)
theorem allBlk_succ (l : List Int) (n : Nat) : allBlk l (n + 1) = (allBlk l n && blkIn (seg l 64 n)) := by
  unfold allBlk; rw [List.range_succ, List.all_append]; simp
theorem allBlk_at {l : List Int} {n k : Nat} (h : allBlk l n = true) (hk : k < n) : blkIn (seg l 64 k) = true := by
  unfold allBlk at h
  rw [List.all_eq_true] at h
  exact h k (List.mem_range.2 hk)
theorem allBlk_not {l : List Int} {n k : Nat} (hk : k < n) (h : blkIn (seg l 64 k) = false) : allBlk l n = false := by
  cases e : allBlk l n
  · rfl
  · rw [allBlk_at e hk] at h; cases h
def blkE (l : List Int) (n : Nat) : Int := if 400 < n then 2 else if allBlk l n then 0 else 1
set_option maxRecDepth 100000 in
set_option maxHeartbeats 4000000 in
theorem blocksCheck_any (w0 : World) (ad : Option Addr) (n c : Nat) (l : List Int) (hn : n ≤ 9223372036854775807) (hv : Sl w0 64 (.slice ad n c) n (l.map (Value.int .i64))) :
    Calls Tryd.prog 36 #[.slice ad n c] w0 fun e w => e = .returned (.int .i64 (blkE l n)) ∧ Ext w0 w := by
  have hl : l.length = n * 64 := by have := hv.1; simpa using this
  have HL := hid hl
  clear hl
  have hS := St.start w0
  by_cases h4 : 400 < n
  · have HE := hid (show blkE l n = 2 by unfold blkE; rw [if_pos h4])
    go_enter Tryd.func36, Tryd.ntmps36
    repeat' (first
      | ((with_reducible apply gt9 _ (.move _)); (first | go_big_want | go_step); go_step) | ((with_reducible apply gt9 _ (.assign _)); (first | go_big_want | go_step); go_step) | ((with_reducible apply gt9 _ (.call ⟨.builtin .len, _, _⟩)); (refine wvv9 (V.len Tryd.underlying22 rfl) ?_; go_step)) | ((with_reducible apply gt9 _ (.binOp .gtr _ _ _ _)); (refine wvv9 (V.gtr rfl rfl) ?_; go_step)) | ((fail_if_success with_reducible apply ga9); go_step))
    go_ret
    exact ⟨by rw [HE.out]; rfl, hS.1⟩
  have HE := hid (show blkE l n = if allBlk l n then 0 else 1 by unfold blkE; rw [if_neg h4])
  go_enter Tryd.func36, Tryd.ntmps36
  repeat' (first
    | ((with_reducible apply gt9 _ (.move _)); (first | go_big_want | go_step); go_step) | ((with_reducible apply gt9 _ (.assign _)); (first | go_big_want | go_step); go_step) | ((with_reducible apply gt9 _ (.call ⟨.builtin .len, _, _⟩)); (refine wvv9 (V.len Tryd.underlying22 rfl) ?_; go_step)) | ((with_reducible apply gt9 _ (.binOp .gtr _ _ _ _)); (refine wvv9 (V.gtr rfl rfl) ?_; go_step)) | ((fail_if_success with_reducible apply ga9); go_step))
  repeat' (first
    | ((fail_if_success with_reducible apply ga9); go_step))
  go_loopg [10] n (fun gk kv w => ∃ k : Nat, gk + k = n ∧ kv = .int .i64 k ∧ Hid (allBlk l k = true) ∧ St w0 w [])
  case atStart => exact ⟨0, rfl, rfl, hid rfl, hS.sub sb9⟩
  case round =>
    clear hS
    obtain ⟨k, hk, rfl, HA, hS⟩ := hrel
    by_cases hlt : k < n
    · have ls : Len (seg l 64 k) 64 := seg_len l 64 k n HL.out hlt
      obtain ⟨B, hB⟩ : ∃ B, blkIn (seg l 64 k) = B := ⟨_, rfl⟩
      have HB := hid (show allIn (seg l 64 k) (-2047) 2047 = B from hB)
      have HB2 := hid hB
      clear hB
      cases B
      · have HF := hid (allBlk_not hlt HB2.out)
        repeat' (first
          | ((with_reducible apply gt9 _ (.call ⟨.value (.func 58), _, _⟩)); refine wpl_call (f := 58) Tryd.call58 (by kernel_rfl) ?_; refine ⟨_, (within_any _ (seg l 64 k) _ _ ls), ?_⟩; rintro e w ⟨rfl, hE⟩; rw [HB.out]; replace hS := hS.ext hE; clear hE; refine ⟨_, rfl, ?_⟩; refine put_move ?_; go_step) | ((with_reducible apply gt9 _ (.assign _)); (first | go_big_want | go_step); go_step) | ((with_reducible apply gt9 _ (.binOp .lss _ _ _ _)); (refine wvv9 (V.lss rfl rfl) ?_; go_step)) | ((with_reducible apply gt9 (some 12) (.indexAddr 22 _ _)); (refine wpl_indexS (by with_reducible assumption) Tryd.underlying22 isz52 rfl rfl isn9 (by omega) rfl ?_; intro b12 o12 hl12 hc12; go_step)) | ((with_reducible apply gt9 _ (.unOp .not _ _)); (refine wvv9 (V.not rfl) ?_; go_step)) | ((with_reducible apply gt9 _ (.load 52 _)); first | (refine wpl (by kernel_rfl) ?_; apply wp_loadRI hS 52 _ rfl _ _ rfl 64 (row_of rfl) _; (case hl => with_reducible assumption); (case hr => with_reducible assumption); refine put_move ?_; go_step) | (refine wpl (by kernel_rfl) ?_; apply wp_loadA hS 52 _ rfl _ rfl 64 (row_of rfl) _; (case hp => exact pl9); refine put_move ?_; go_step)) | ((with_reducible apply gt9 (some 4) (.alloc 52)); (refine wpl (by kernel_rfl) ?_; apply wp_allocA (o := ⟨some 4, _, _, _, _, _⟩) hS 52 rfl (List.replicate 64 0) 64 List.length_replicate za52; clear hS; intro g4 w hS; refine put_move ?_; go_step)) | ((with_reducible apply gt9 _ (.store 52 _ _)); (refine wpl (by kernel_rfl) ?_; apply wp_storeA hS 52 _ _ rfl _ rfl 64 (row_of rfl) _ _; (case hp => exact pl9); (case hy => rfl); (case hm => (repeat (first | assumption | exact Len.rep | apply Len.set | ((with_reducible show Len (_ :: _) _); exact rfl)))); (case hd => exact rfl); clear hS; intro w hS)) | ((fail_if_success with_reducible apply ga9); go_step))
        all_goals (try (have hF : False := (by omega); cases hF))
        go_ret
        exact ⟨by rw [HE.out, HF.out]; rfl, hS.1⟩
      · skip
        repeat' (first
          | ((with_reducible apply gt9 _ (.call ⟨.value (.func 58), _, _⟩)); refine wpl_call (f := 58) Tryd.call58 (by kernel_rfl) ?_; refine ⟨_, (within_any _ (seg l 64 k) _ _ ls), ?_⟩; rintro e w ⟨rfl, hE⟩; rw [HB.out]; replace hS := hS.ext hE; clear hE; refine ⟨_, rfl, ?_⟩; refine put_move ?_; go_step) | ((with_reducible apply gt9 _ (.binOp .lss _ _ _ _)); (refine wvv9 (V.lss rfl rfl) ?_; go_step)) | ((with_reducible apply gt9 (some 12) (.indexAddr 22 _ _)); (refine wpl_indexS (by with_reducible assumption) Tryd.underlying22 isz52 rfl rfl isn9 (by omega) rfl ?_; intro b12 o12 hl12 hc12; go_step)) | ((with_reducible apply gt9 _ (.unOp .not _ _)); (refine wvv9 (V.not rfl) ?_; go_step)) | ((with_reducible apply gt9 _ (.load 52 _)); first | (refine wpl (by kernel_rfl) ?_; apply wp_loadRI hS 52 _ rfl _ _ rfl 64 (row_of rfl) _; (case hl => with_reducible assumption); (case hr => with_reducible assumption); refine put_move ?_; go_step) | (refine wpl (by kernel_rfl) ?_; apply wp_loadA hS 52 _ rfl _ rfl 64 (row_of rfl) _; (case hp => exact pl9); refine put_move ?_; go_step)) | ((with_reducible apply gt9 (some 4) (.alloc 52)); (refine wpl (by kernel_rfl) ?_; apply wp_allocA (o := ⟨some 4, _, _, _, _, _⟩) hS 52 rfl (List.replicate 64 0) 64 List.length_replicate za52; clear hS; intro g4 w hS; refine put_move ?_; go_step)) | ((with_reducible apply gt9 _ (.store 52 _ _)); (refine wpl (by kernel_rfl) ?_; apply wp_storeA hS 52 _ _ rfl _ rfl 64 (row_of rfl) _ _; (case hp => exact pl9); (case hy => rfl); (case hm => (repeat (first | assumption | exact Len.rep | apply Len.set | ((with_reducible show Len (_ :: _) _); exact rfl)))); (case hd => exact rfl); clear hS; intro w hS)) | ((fail_if_success with_reducible apply ga9); go_step))
        repeat' (first
          | ((with_reducible apply gt9 _ (.move _)); (first | go_big_want | go_step); go_step) | ((with_reducible apply gt9 _ (.binOp .add _ _ _ _)); (refine wvv9 (V.addI rfl rfl (by omega)) ?_; go_step)) | ((fail_if_success with_reducible apply ga9); go_step))
        all_goals (try (have hF : False := (by omega); cases hF))
        go_roundg (gk - 1)
        case measure => omega
        case rel => exact ⟨k + 1, by omega, by go_num, hid (by rw [allBlk_succ, HA.out, HB2.out]; rfl), hS.sub sb9⟩
    · obtain rfl : k = n := by omega
      repeat' (first
        | ((with_reducible apply gt9 _ (.assign _)); (first | go_big_want | go_step); go_step) | ((with_reducible apply gt9 _ (.binOp .lss _ _ _ _)); (refine wvv9 (V.lss rfl rfl) ?_; go_step)) | ((fail_if_success with_reducible apply ga9); go_step))
      repeat' (first
        | ((fail_if_success with_reducible apply ga9); go_step))
      go_ret
      exact ⟨by rw [HE.out, HA.out]; rfl, hS.1⟩
theorem may_any (w0 : World) (ad : Option Addr) (n c : Nat) (l : List Int) (hn : n ≤ 9223372036854775807) (hv : Sl w0 64 (.slice ad n c) n (l.map (Value.int .i64))) :
    Calls Tryd.prog 17 #[.slice ad n c] w0 fun e w => e = .returned (.bool (decide (blkE l n = 0))) ∧ Ext w0 w := by
  have hS := St.start w0
  go_enter Tryd.func17, Tryd.ntmps17
  repeat' (first
    | ((with_reducible apply gt9 _ (.call ⟨.value (.func 36), _, _⟩)); refine wpl_call (f := 36) Tryd.call36 (by kernel_rfl) ?_; refine ⟨_, (blocksCheck_any _ ad n c l hn (hv.ext hS.1)), ?_⟩; rintro e w ⟨rfl, hE⟩; replace hS := hS.ext hE; clear hE; refine ⟨_, rfl, ?_⟩; refine put_move ?_; go_step) | ((with_reducible apply gt9 _ (.move _)); (first | go_big_want | go_step); go_step) | ((with_reducible apply gt9 _ (.assign _)); (first | go_big_want | go_step); go_step) | ((with_reducible apply gt9 _ (.binOp .eql 25 _ _ _)); (refine wvv9 (V.eql rfl rfl) ?_; go_step)) | ((fail_if_success with_reducible apply ga9); go_step))
  go_ret
  exact ⟨rfl, hS.1⟩
end Go.Proofs.YtehbjhocgnfpmaaDoor

/- The walk of the reference's Counts. -/
namespace Go.Proofs.YtehbjhocgnfpmaaDoor
open Go.RowKit
set_option linter.unusedVariables false
/-- How often each symbol comes. -/
def cnt (L : List Int) : List Int := (List.range 256).map fun s : Nat => ((L.count (s : Int) : Nat) : Int)
theorem cnt_len (L : List Int) : (cnt L).length = 256 := by unfold cnt; simp
theorem cnt_nth (L : List Int) {s : Nat} (h : s < 256) : nth (cnt L) s = ((L.count (s : Int) : Nat) : Int) := by
  unfold cnt nth List.getD
  rw [List.getElem?_map, List.getElem?_range h]; rfl
theorem cnt_ext {A B : List Int} (ha : A.length = 256) (hb : B.length = 256) (h : ∀ i, i < 256 → nth A i = nth B i) : A = B := by
  refine List.ext_getElem (by rw [ha, hb]) fun i h1 h2 => ?_
  have := h i (by omega)
  simpa [nth, List.getD, h1, h2] using this
theorem cnt_nil : cnt [] = List.replicate 256 0 := by
  refine cnt_ext (cnt_len _) List.length_replicate fun i hi => ?_
  rw [cnt_nth _ hi]
  simp only [nth, List.getD, List.getElem?_replicate, if_pos hi]
  rfl
theorem cnt_snoc (L : List Int) {s : Nat} (h : s < 256) : (cnt L).set s (nth (cnt L) s + 1) = cnt (L ++ [(s : Int)]) := by
  refine cnt_ext (by rw [List.length_set, cnt_len]) (cnt_len _) fun i hi => ?_
  rw [nth_set _ _ _ _ (by rw [cnt_len]; exact h), cnt_nth _ hi, cnt_nth _ h, cnt_nth _ hi, List.count_append, List.count_singleton]
  by_cases e : s = i
  · subst e; simp
  · rw [if_neg e, if_neg (by simp; omega)]; simp
/-- The number ahead of a block, and its tokens. -/
def bef (l : List Int) (k : Nat) : Int := if k = 0 then 0 else nth (seg l 64 (k - 1)) 0
def tkb (l : List Int) (k : Nat) : List Tok := tokL (bef l k) (seg l 64 k)
/-- The symbols of first tokens, and of others. -/
def syF (l : List Int) (n : Nat) : List Int := (List.range n).flatMap fun k => ((tkb l k).take 1).map (·.1)
def syR (l : List Int) (n : Nat) : List Int := (List.range n).flatMap fun k => ((tkb l k).drop 1).map (·.1)
theorem syF_succ (l : List Int) (n : Nat) : syF l (n + 1) = syF l n ++ ((tkb l n).take 1).map (·.1) := by unfold syF; rw [List.range_succ, List.flatMap_append]; simp
theorem syR_succ (l : List Int) (n : Nat) : syR l (n + 1) = syR l n ++ ((tkb l n).drop 1).map (·.1) := by unfold syR; rw [List.range_succ, List.flatMap_append]; simp
theorem tks_sym : ∀ (l : List Int) (r : Nat), (∀ x ∈ l, -2047 ≤ x ∧ x ≤ 2047) → ∀ t ∈ tks r l, 0 ≤ t.1 ∧ t.1 < 256
  | [], r, _, t, ht => by
    unfold tks at ht
    split at ht
    · simp at ht; subst ht; decide
    · simp at ht
  | n :: l, r, h, t, ht => by
    unfold tks at ht
    split at ht
    · exact tks_sym l (r + 1) (fun x hx => h x (by simp [hx])) t ht
    · rcases List.mem_append.1 ht with ht | ht
      · rw [List.eq_of_mem_replicate ht]; decide
      · rcases List.mem_cons.1 ht with rfl | ht
        · have h1 := sz_le11 n (by have := h n (by simp); omega)
          unfold tok
          dsimp only
          omega
        · exact tks_sym l 0 (fun x hx => h x (by simp [hx])) t ht
theorem tokL_sym {p : Int} {x : List Int} (hx : x.length = 64) : ∀ t ∈ tokL p x, 0 ≤ t.1 ∧ t.1 < 256 := by
  intro t ht
  unfold tokL at ht
  split at ht
  · rename_i h
    obtain ⟨h1, h2⟩ := tokE_ok hx h
    have hz : ∀ i, i < 64 → -2047 ≤ nth (zto x) i ∧ nth (zto x) i ≤ 2047 := fun i hi => by rw [zto_get _ i hi]; exact h2 _ (zn_lt i hi)
    unfold toksOf at ht
    rcases List.mem_cons.1 ht with rfl | ht
    · have := hz 0 (by omega)
      have h3 := sz_le (nth (zto x) 0 - p) (by omega)
      unfold tok
      dsimp only
      omega
    · refine tks_sym _ 0 (fun y hy => ?_) t ht
      obtain ⟨i, hi, rfl⟩ := List.mem_iff_getElem.1 (List.mem_of_mem_drop hy)
      have := hz i (by rw [← zto_len x]; exact hi)
      simpa [nth, List.getD, hi] using this
  · simp at ht
theorem tokL_le {p : Int} {x : List Int} (hx : x.length = 64) : (tokL p x).length ≤ 64 := by
  unfold tokL
  split
  · exact (toks_len p (zto x) (zto_len x)).2
  · simp
theorem sy_len {l : List Int} {m : Nat} (hl : l.length = m * 64) : ∀ n, n ≤ m → (syF l n).length + (syR l n).length ≤ n * 64
  | 0, _ => by simp [syF, syR]
  | n + 1, h => by
    have ih := sy_len hl n (by omega)
    have h1 : (tkb l n).length ≤ 64 := tokL_le (seg_len l 64 n m hl (by omega))
    rw [syF_succ, syR_succ]
    simp
    omega
theorem take_next {T : List Tok} {i : Nat} {x : Tok} (hi : i < T.length) (h : T.take (i + 1) = T.take i ++ [x]) (A B : List Int) :
    (i = 0 → A ++ ((T.take (i + 1)).take 1).map (·.1) = (A ++ ((T.take i).take 1).map (·.1)) ++ [x.1] ∧ B ++ ((T.take (i + 1)).drop 1).map (·.1) = B ++ ((T.take i).drop 1).map (·.1)) ∧
    (i ≠ 0 → A ++ ((T.take (i + 1)).take 1).map (·.1) = A ++ ((T.take i).take 1).map (·.1) ∧ B ++ ((T.take (i + 1)).drop 1).map (·.1) = (B ++ ((T.take i).drop 1).map (·.1)) ++ [x.1]) := by
  have hl : (T.take i).length = i := by simp; omega
  rw [h]
  constructor
  · rintro rfl
    simp
  · intro h0
    rw [List.take_append_of_le_length (by omega), List.drop_append_of_le_length (by omega), List.map_append, ← List.append_assoc]
    exact ⟨rfl, rfl⟩
theorem cnt_bd (L : List Int) {q : Nat} (hq : q < 256) : 0 ≤ nth (cnt L) q ∧ nth (cnt L) q ≤ L.length := by
  rw [cnt_nth _ hq]
  have := List.count_le_length (a := (q : Int)) (l := L)
  omega
theorem refTokens_b (w0 : World) (l : List Int) (k : Nat) (p : Int) (h : bef l k = p) (hl : Len (seg l 64 k) 64) :
    Calls Tryd.prog 83 #[.int .i64 p, .agg (iv (seg l 64 k))] w0 fun e w => ∃ ad m c E, (tkb l k).length = m ∧ e = .returned (.tuple #[.slice ad m c, .int .i64 E]) ∧ St w0 w [own 69 3 ad m c ((flt (tkb l k)).map (Value.int .i64))] := by
  subst h
  refine (refTokens_any w0 (bef l k) (seg l 64 k) hl).mono ?_
  rintro e w ⟨ad, c, rfl, hS⟩
  exact ⟨ad, _, c, _, rfl, rfl, hS⟩
set_option maxRecDepth 100000 in
set_option maxHeartbeats 8000000 in
theorem refCounts_any (w0 : World) (ad : Option Addr) (n c : Nat) (l : List Int) (hn : n ≤ 1048576) (hv : Sl w0 64 (.slice ad n c) n (l.map (Value.int .i64))) :
    Calls Tryd.prog 65 #[.slice ad n c] w0 fun e w => ∃ g1 g2, e = .returned (.tuple #[.slice (some ⟨g1, 0, none⟩) 256 256, .slice (some ⟨g2, 0, none⟩) 256 256]) ∧ St w0 w [own 3 1 (some ⟨g1, 0, none⟩) 256 256 ((cnt (syF l n)).map (Value.int .i64)), own 3 1 (some ⟨g2, 0, none⟩) 256 256 ((cnt (syR l n)).map (Value.int .i64))] := by
  have hl : l.length = n * 64 := by have := hv.1; simpa using this
  have HL := hid hl
  clear hl
  have hS := St.start w0
  go_enter Tryd.func65, Tryd.ntmps65
  repeat' (first
    | ((with_reducible apply gt9 _ (.assign _)); (first | go_big_want | go_step); go_step) | ((fail_if_success with_reducible apply ga9); go_step))
  refine drawn_lit [] (fun _ => True) (by kernel_rfl) ?_
  replace hS := hS.drew
  focus
    refine branch [0, 1] (by kernel_rfl) (by simp) (.cons al9 rfl ?_ (.cons al9 rfl ?_ (.nil)))
    rotate_left 1
    focus
      (refine wp_make (o := ⟨some 14, _, _, _, _, _⟩) hS 24 _ _ rfl _ _ _ _ elz24 _ _ _ _ _ _ rfl rfl isn9 isn9 (by omega) (by omega) (by unfold maxLen; omega) ?_; clear hS; intro g14 w hS)
      refine ⟨fun _ h => h, ?_⟩
      refine drawn_move ?_
      go_step
      refine branch1 0 al9 rfl (by kernel_rfl) ?_
      (refine wp_make (o := ⟨some 13, _, _, _, _, _⟩) hS 24 _ _ rfl _ _ _ _ elz24 _ _ _ _ _ _ rfl rfl isn9 isn9 (by omega) (by omega) (by unfold maxLen; omega) ?_; clear hS; intro g13 w hS)
      refine ⟨fun _ h => h, ?_⟩
      refine drawn_move ?_
      go_step
      refine takeA 2 _ al9 (by kernel_rfl) (by kernel_rfl) (by kernel_rfl) (by exact fun _ _ _ _ h => h) rfl ?_
      go_step
      refine takeA 3 _ al9 (by kernel_rfl) (by kernel_rfl) (by kernel_rfl) (by exact fun _ _ _ _ h => h) rfl ?_
      go_step
      refine drawn_done (by kernel_rfl) ?_ _
    rotate_right 1
    focus
      (refine wp_make (o := ⟨some 13, _, _, _, _, _⟩) hS 24 _ _ rfl _ _ _ _ elz24 _ _ _ _ _ _ rfl rfl isn9 isn9 (by omega) (by omega) (by unfold maxLen; omega) ?_; clear hS; intro g13 w hS)
      refine ⟨fun _ h => h, ?_⟩
      refine drawn_move ?_
      go_step
      refine takeA 2 _ al9 (by kernel_rfl) (by kernel_rfl) (by kernel_rfl) (by exact fun _ _ _ _ h => h) rfl ?_
      go_step
      refine branch1 1 al9 rfl (by kernel_rfl) ?_
      (refine wp_make (o := ⟨some 14, _, _, _, _, _⟩) hS 24 _ _ rfl _ _ _ _ elz24 _ _ _ _ _ _ rfl rfl isn9 isn9 (by omega) (by omega) (by unfold maxLen; omega) ?_; clear hS; intro g14 w hS)
      refine ⟨fun _ h => h, ?_⟩
      refine drawn_move ?_
      go_step
      refine takeA 3 _ al9 (by kernel_rfl) (by kernel_rfl) (by kernel_rfl) (by exact fun _ _ _ _ h => h) rfl ?_
      go_step
      refine drawn_done (by kernel_rfl) ?_ _
  all_goals
    rw [show (256 * 1 : Nat) = 256 from rfl, ← cnt_nil] at hS
    replace hS := hS.sub (xs := [own 3 1 (some ⟨g13, 0, none⟩) 256 256 ((cnt []).map (Value.int .i64)), own 3 1 (some ⟨g14, 0, none⟩) 256 256 ((cnt []).map (Value.int .i64))]) sb9
    repeat' (first
      | ((with_reducible apply gt9 _ (.move _)); (first | go_big_want | go_step); go_step) | ((with_reducible apply gt9 _ (.call ⟨.builtin .len, _, _⟩)); (refine wvv9 (V.len Tryd.underlying22 rfl) ?_; go_step)) | ((fail_if_success with_reducible apply ga9); go_step))
    go_loopg [17] n (fun gk kv w => ∃ k : Nat, gk + k = n ∧ kv = .int .i64 k ∧ St w0 w [own 3 1 (some ⟨g13, 0, none⟩) 256 256 ((cnt (syF l k)).map (Value.int .i64)), own 3 1 (some ⟨g14, 0, none⟩) 256 256 ((cnt (syR l k)).map (Value.int .i64))])
    case atStart => exact ⟨0, rfl, rfl, hS⟩
    case round =>
      clear hS
      obtain ⟨k, hk, rfl, hS⟩ := hrel
      by_cases hlt : k < n
      · have ls : Len (seg l 64 k) 64 := seg_len l 64 k n HL.out hlt
        by_cases hk0 : k = 0
        · have HB : Hid (bef l k = 0) := hid (by unfold bef; rw [if_pos hk0])
          repeat' (first
            | ((with_reducible apply gt9 _ (.move _)); (first | go_big_want | go_step); go_step) | ((with_reducible apply gt9 _ (.assign _)); (first | go_big_want | go_step); go_step) | ((with_reducible apply gt9 _ (.binOp .lss _ _ _ _)); (refine wvv9 (V.lss rfl rfl) ?_; go_step)) | ((with_reducible apply gt9 (some 20) (.indexAddr 22 _ _)); (refine wpl_indexS (by with_reducible assumption) Tryd.underlying22 isz52 rfl rfl isn9 (by omega) rfl ?_; intro b20 o20 hl20 hc20; go_step)) | ((with_reducible apply gt9 _ (.binOp .gtr _ _ _ _)); (refine wvv9 (V.gtr rfl rfl) ?_; go_step)) | ((with_reducible apply gt9 _ (.load 52 _)); first | (refine wpl (by kernel_rfl) ?_; apply wp_loadRI hS 52 _ rfl _ _ rfl 64 (row_of rfl) _; (case hl => with_reducible assumption); (case hr => with_reducible assumption); refine put_move ?_; go_step) | (refine wpl (by kernel_rfl) ?_; apply wp_loadA hS 52 _ rfl _ rfl 64 (row_of rfl) _; (case hp => exact pl9); refine put_move ?_; go_step)) | ((with_reducible apply gt9 (some 7) (.alloc 52)); (refine wpl (by kernel_rfl) ?_; apply wp_allocA (o := ⟨some 7, _, _, _, _, _⟩) hS 52 rfl (List.replicate 64 0) 64 List.length_replicate za52; clear hS; intro g7 w hS; refine put_move ?_; go_step)) | ((with_reducible apply gt9 _ (.store 52 _ _)); (refine wpl (by kernel_rfl) ?_; apply wp_storeA hS 52 _ _ rfl _ rfl 64 (row_of rfl) _ _; (case hp => exact pl9); (case hy => rfl); (case hm => (repeat (first | assumption | exact Len.rep | apply Len.set | ((with_reducible show Len (_ :: _) _); exact rfl)))); (case hd => exact rfl); clear hS; intro w hS)) | ((fail_if_success with_reducible apply ga9); go_step))
          repeat' (first
            | ((with_reducible apply gt9 (some 33) _); refine wpl_call (f := 83) Tryd.call83 (by kernel_rfl) ?_; refine ⟨_, (refTokens_b _ l k _ HB.out ls), ?_⟩; rintro e w ⟨a5, m5, c5, E5, hm5, rfl, hS2⟩; have HM5 := hid hm5; replace hS := hS.call1 hS2; clear hS2 hm5; refine ⟨_, rfl, ?_⟩; refine put_move ?_; go_step) | ((with_reducible apply gt9 _ (.move _)); (first | go_big_want | go_step); go_step) | ((with_reducible apply gt9 _ (.assign _)); (first | go_big_want | go_step); go_step) | ((with_reducible apply gt9 _ (.extract _ _)); (refine wvv9 (V.extract rfl rfl) ?_; go_step)) | ((with_reducible apply gt9 _ (.call ⟨.builtin .len, _, _⟩)); (refine wvv9 (V.len Tryd.underlying100 rfl) ?_; go_step)) | ((fail_if_success with_reducible apply ga9); go_step))
          obtain ⟨T, hT⟩ : ∃ T, tkb l k = T := ⟨_, rfl⟩
          have HTE := hid hT
          rw [hT] at hS HM5
          have HSY := hid (show ∀ t ∈ T, 0 ≤ t.1 ∧ t.1 < 256 by rw [← hT]; exact tokL_sym ls)
          clear hT
          obtain ⟨gk1, hgk1⟩ : ∃ x, x = gk := ⟨_, rfl⟩
          subst hgk1
          go_loopg [38] m5 (fun gk kv w => ∃ i : Nat, gk + i = m5 ∧ kv = .int .i64 i ∧ St w0 w [own 69 3 a5 m5 c5 ((flt T).map (Value.int .i64)), own 3 1 (some ⟨g13, 0, none⟩) 256 256 ((cnt (syF l k ++ ((T.take i).take 1).map (·.1))).map (Value.int .i64)), own 3 1 (some ⟨g14, 0, none⟩) 256 256 ((cnt (syR l k ++ ((T.take i).drop 1).map (·.1))).map (Value.int .i64))])
          case atStart => exact ⟨0, rfl, rfl, by rw [show ((T.take 0).take 1).map (·.1) = ([] : List Int) by simp, show ((T.take 0).drop 1).map (·.1) = ([] : List Int) by simp, List.append_nil, List.append_nil]; exact hS.sub sb9⟩
          case round =>
            clear hS
            obtain ⟨i, hi, rfl, hS⟩ := hrel
            by_cases hlt2 : i < m5
            · obtain ⟨b5, rfl⟩ := own_some (a := a5) hS pl9 (by omega)
              obtain ⟨⟨s, v, y⟩, hx⟩ : ∃ x, T[i]? = some x := ⟨_, List.getElem?_eq_getElem (by rw [HM5.out]; exact hlt2)⟩
              have hseg := flt_get T i _ hx
              have hsy := HSY.out _ (List.mem_of_getElem? hx)
              dsimp only at hseg hsy
              obtain ⟨q, rfl⟩ : ∃ q : Nat, s = (q : Int) := ⟨s.toNat, by omega⟩
              have ht : T.take (i + 1) = T.take i ++ [((q : Int), v, y)] := by rw [List.take_add_one, hx]; rfl
              have HTK := hid ht
              clear hx ht
              have hnx := take_next (by rw [HM5.out]; exact hlt2) HTK.out (syF l k) (syR l k)
              dsimp only at hnx
              have hq : q < 256 := by omega
              have hsl := sy_len HL.out k (by omega)
              have hA := cnt_bd (syF l k ++ ((T.take i).take 1).map (·.1)) hq
              have hB := cnt_bd (syR l k ++ ((T.take i).drop 1).map (·.1)) hq
              have hTl : T.length ≤ 64 := by rw [← HTE.out]; exact tokL_le ls
              rw [List.length_append, List.length_map, List.length_take, List.length_take] at hA
              rw [List.length_append, List.length_map, List.length_drop, List.length_take] at hB
              have HCA := hid (cnt_snoc (syF l k ++ ((T.take i).take 1).map (·.1)) hq)
              have HCB := hid (cnt_snoc (syR l k ++ ((T.take i).drop 1).map (·.1)) hq)
              have HNX := hid hnx
              have hm5 : m5 ≤ 64 := by rw [← HM5.out]; exact hTl
              clear hnx
              repeat' (first
                | ((with_reducible apply gt9 _ (.move _)); (first | go_big_want | go_step); go_step) | ((with_reducible apply gt9 _ (.assign _)); (first | go_big_want | go_step); go_step) | ((with_reducible apply gt9 _ (.binOp .lss _ _ _ _)); (refine wvv9 (V.lss rfl rfl) ?_; go_step)) | ((with_reducible apply gt9 (some 41) (.indexAddr 100 _ _)); (refine wvv9 (V.indexSl Tryd.underlying100 isz69 rfl rfl isn9 (by omega) rfl nq9) ?_; go_step)) | ((with_reducible apply gt9 _ (.binOp .eql 3 _ _ _)); (refine wvv9 (V.eql rfl rfl) ?_; go_step)) | ((with_reducible apply gt9 _ (.load 69 _)); (refine wpl (by kernel_rfl) ?_; apply wp_loadROE hS 69 _ rfl _ _ rfl 3 (row_of rfl) _ _ _ _ _; (case hp => exact pl9); (case hi => omega); (case hl' => with_reducible assumption); refine put_move ?_; go_step)) | ((with_reducible apply gt9 (some 12) (.alloc 69)); (refine wpl (by kernel_rfl) ?_; apply wp_alloc (o := ⟨some 12, _, _, _, _, _⟩) hS 69 rfl (.agg #[.int .i64 0, .int .i64 0, .int .i64 0]) [.int .i64 0, .int .i64 0, .int .i64 0] (fun w => Tryd.zeroValue69 w) rfl; clear hS; intro g12 w hS; refine put_move ?_; go_step)) | ((with_reducible apply gt9 _ (.store 69 _ _)); (refine wpl (by kernel_rfl) ?_; apply wp_storeG hS 69 _ _ rfl _ rfl 3 (row_of rfl) _ _; (case hp => exact pl9); (case hy => rfl); (case hn => rfl); (case hn' => rfl); (case hv => rfl); (case hd => exact rfl); clear hS; intro w hS)) | ((fail_if_success with_reducible apply ga9); go_step))
              · skip
                repeat' (first
                  | ((with_reducible apply gt9 _ (.move _)); (first | go_big_want | go_step); go_step) | ((with_reducible apply gt9 _ (.fieldAddr 69 _ 0)); (refine wvv9 (V.fieldAddr fo69_0 rfl nq9) ?_; go_step)) | ((with_reducible apply gt9 (some 48) (.indexAddr 24 _ _)); (refine wvv9 (V.indexSl Tryd.underlying24 isz3 rfl rfl isn9 (by omega) (Nat.mul_one _) nq9) ?_; go_step)) | ((with_reducible apply gt9 _ (.binOp .add _ _ _ _)); (refine wvv9 (V.addI rfl rfl (by omega)) ?_; go_step)) | ((with_reducible apply gt9 (some 51) (.indexAddr 24 _ _)); (refine wvv9 (V.indexSl Tryd.underlying24 isz3 rfl rfl isn9 (by omega) (Nat.mul_one _) nq9) ?_; go_step)) | ((with_reducible apply gt9 _ (.load 3 _)); first | (refine wpl (by kernel_rfl) ?_; apply wp_load1OI hS 3 _ rfl _ _ rfl (one_of rfl) _ _ _ _ _; (case hp => exact pl9); (case hi => omega); refine put_move ?_; go_step) | (refine wpl (by kernel_rfl) ?_; apply wp_load1 hS 3 _ rfl _ _ rfl (one_of rfl) _; (case hp => exact pl9); (case hc => rfl); refine put_move ?_; go_step)) | ((with_reducible apply gt9 _ (.store 3 _ _)); (refine wpl (by kernel_rfl) ?_; apply wp_store1OI hS 3 _ _ rfl _ _ rfl (one_of rfl) _ _ _ _ _; (case hp => exact pl9); (case hy => rfl); (case hi => omega); (case hd => exact rfl); clear hS; intro w hS)) | ((fail_if_success with_reducible apply ga9); go_step))
                clear hA hB hsl hTl
                repeat' (first
                  | ((fail_if_success with_reducible apply ga9); go_step))
                go_roundg (gk - 1)
                case measure => omega
                case rel =>
                  refine ⟨i + 1, by omega, by go_num, ?_⟩
                  rw [(HNX.out.1 (by omega)).1, (HNX.out.1 (by omega)).2, ← HCA.out]
                  exact hS.sub sb9
              · skip
                repeat' (first
                  | ((with_reducible apply gt9 _ (.move _)); (first | go_big_want | go_step); go_step) | ((with_reducible apply gt9 _ (.fieldAddr 69 _ 0)); (refine wvv9 (V.fieldAddr fo69_0 rfl nq9) ?_; go_step)) | ((with_reducible apply gt9 (some 55) (.indexAddr 24 _ _)); (refine wvv9 (V.indexSl Tryd.underlying24 isz3 rfl rfl isn9 (by omega) (Nat.mul_one _) nq9) ?_; go_step)) | ((with_reducible apply gt9 _ (.binOp .add _ _ _ _)); (refine wvv9 (V.addI rfl rfl (by omega)) ?_; go_step)) | ((with_reducible apply gt9 (some 58) (.indexAddr 24 _ _)); (refine wvv9 (V.indexSl Tryd.underlying24 isz3 rfl rfl isn9 (by omega) (Nat.mul_one _) nq9) ?_; go_step)) | ((with_reducible apply gt9 _ (.load 3 _)); first | (refine wpl (by kernel_rfl) ?_; apply wp_load1OI hS 3 _ rfl _ _ rfl (one_of rfl) _ _ _ _ _; (case hp => exact pl9); (case hi => omega); refine put_move ?_; go_step) | (refine wpl (by kernel_rfl) ?_; apply wp_load1 hS 3 _ rfl _ _ rfl (one_of rfl) _; (case hp => exact pl9); (case hc => rfl); refine put_move ?_; go_step)) | ((with_reducible apply gt9 _ (.store 3 _ _)); (refine wpl (by kernel_rfl) ?_; apply wp_store1OI hS 3 _ _ rfl _ _ rfl (one_of rfl) _ _ _ _ _; (case hp => exact pl9); (case hy => rfl); (case hi => omega); (case hd => exact rfl); clear hS; intro w hS)) | ((fail_if_success with_reducible apply ga9); go_step))
                clear hA hB hsl hTl
                repeat' (first
                  | ((fail_if_success with_reducible apply ga9); go_step))
                go_roundg (gk - 1)
                case measure => omega
                case rel =>
                  refine ⟨i + 1, by omega, by go_num, ?_⟩
                  rw [(HNX.out.2 (by omega)).1, (HNX.out.2 (by omega)).2, ← HCB.out]
                  exact hS.sub sb9
            · obtain rfl : i = m5 := by omega
              rw [show T.take i = T by rw [← HM5.out]; exact List.take_length, ← HTE.out, ← syF_succ, ← syR_succ] at hS
              repeat' (first
                | ((with_reducible apply gt9 _ (.binOp .lss _ _ _ _)); (refine wvv9 (V.lss rfl rfl) ?_; go_step)) | ((fail_if_success with_reducible apply ga9); go_step))
              repeat' (first
                | ((with_reducible apply gt9 _ (.move _)); (first | go_big_want | go_step); go_step) | ((with_reducible apply gt9 _ (.binOp .add _ _ _ _)); (refine wvv9 (V.addI rfl rfl (by omega)) ?_; go_step)) | ((fail_if_success with_reducible apply ga9); go_step))
              go_roundg (gk1 - 1)
              case measure => omega
              case rel => exact ⟨k + 1, by omega, by go_num, hS.sub sb9⟩
        · have HB : Hid (bef l k = nth (seg l 64 (k - 1)) 0) := hid (by unfold bef; rw [if_neg hk0])
          repeat' (first
            | ((with_reducible apply gt9 _ (.move _)); (first | go_big_want | go_step); go_step) | ((with_reducible apply gt9 _ (.assign _)); (first | go_big_want | go_step); go_step) | ((with_reducible apply gt9 _ (.binOp .lss _ _ _ _)); (refine wvv9 (V.lss rfl rfl) ?_; go_step)) | ((with_reducible apply gt9 (some 20) (.indexAddr 22 _ _)); (refine wpl_indexS (by with_reducible assumption) Tryd.underlying22 isz52 rfl rfl isn9 (by omega) rfl ?_; intro b20 o20 hl20 hc20; go_step)) | ((with_reducible apply gt9 _ (.binOp .gtr _ _ _ _)); (refine wvv9 (V.gtr rfl rfl) ?_; go_step)) | ((with_reducible apply gt9 _ (.binOp .sub _ _ _ _)); (refine wvv9 (V.subI rfl rfl (by omega)) ?_; go_step)) | ((with_reducible apply gt9 (some 27) (.indexAddr 22 _ _)); (refine wpl_indexS (by with_reducible assumption) Tryd.underlying22 isz52 rfl rfl isn9 (by omega) rfl ?_; intro b27 o27 hl27 hc27; go_step)) | ((with_reducible apply gt9 (some 28) (.indexAddr 52 _ _)); (refine wvv9 (V.indexAr Tryd.underlying52 isz3 rfl rfl (show IsN 0 0 from rfl) (by omega) (show 0 * 1 = 0 from rfl) nq9) ?_; go_step)) | ((with_reducible apply gt9 _ (.load 52 _)); first | (refine wpl (by kernel_rfl) ?_; apply wp_loadRI hS 52 _ rfl _ _ rfl 64 (row_of rfl) _; (case hl => with_reducible assumption); (case hr => with_reducible assumption); refine put_move ?_; go_step) | (refine wpl (by kernel_rfl) ?_; apply wp_loadA hS 52 _ rfl _ rfl 64 (row_of rfl) _; (case hp => exact pl9); refine put_move ?_; go_step)) | ((with_reducible apply gt9 (some 7) (.alloc 52)); (refine wpl (by kernel_rfl) ?_; apply wp_allocA (o := ⟨some 7, _, _, _, _, _⟩) hS 52 rfl (List.replicate 64 0) 64 List.length_replicate za52; clear hS; intro g7 w hS; refine put_move ?_; go_step)) | ((with_reducible apply gt9 _ (.store 52 _ _)); (refine wpl (by kernel_rfl) ?_; apply wp_storeA hS 52 _ _ rfl _ rfl 64 (row_of rfl) _ _; (case hp => exact pl9); (case hy => rfl); (case hm => (repeat (first | assumption | exact Len.rep | apply Len.set | ((with_reducible show Len (_ :: _) _); exact rfl)))); (case hd => exact rfl); clear hS; intro w hS)) | ((with_reducible apply gt9 _ (.load 3 _)); (refine wpl (by kernel_rfl) ?_; apply wp_load1R0 hS 3 _ rfl _ _ rfl (one_of rfl) _ _; (case hl => with_reducible assumption); (case hr => with_reducible assumption); (case hf => omega); refine put_move ?_; go_step)) | ((fail_if_success with_reducible apply ga9); go_step))
          repeat' (first
            | ((with_reducible apply gt9 (some 33) _); refine wpl_call (f := 83) Tryd.call83 (by kernel_rfl) ?_; refine ⟨_, (refTokens_b _ l k _ HB.out ls), ?_⟩; rintro e w ⟨a5, m5, c5, E5, hm5, rfl, hS2⟩; have HM5 := hid hm5; replace hS := hS.call1 hS2; clear hS2 hm5; refine ⟨_, rfl, ?_⟩; refine put_move ?_; go_step) | ((with_reducible apply gt9 _ (.move _)); (first | go_big_want | go_step); go_step) | ((with_reducible apply gt9 _ (.assign _)); (first | go_big_want | go_step); go_step) | ((with_reducible apply gt9 _ (.extract _ _)); (refine wvv9 (V.extract rfl rfl) ?_; go_step)) | ((with_reducible apply gt9 _ (.call ⟨.builtin .len, _, _⟩)); (refine wvv9 (V.len Tryd.underlying100 rfl) ?_; go_step)) | ((fail_if_success with_reducible apply ga9); go_step))
          obtain ⟨T, hT⟩ : ∃ T, tkb l k = T := ⟨_, rfl⟩
          have HTE := hid hT
          rw [hT] at hS HM5
          have HSY := hid (show ∀ t ∈ T, 0 ≤ t.1 ∧ t.1 < 256 by rw [← hT]; exact tokL_sym ls)
          clear hT
          obtain ⟨gk1, hgk1⟩ : ∃ x, x = gk := ⟨_, rfl⟩
          subst hgk1
          go_loopg [38] m5 (fun gk kv w => ∃ i : Nat, gk + i = m5 ∧ kv = .int .i64 i ∧ St w0 w [own 69 3 a5 m5 c5 ((flt T).map (Value.int .i64)), own 3 1 (some ⟨g13, 0, none⟩) 256 256 ((cnt (syF l k ++ ((T.take i).take 1).map (·.1))).map (Value.int .i64)), own 3 1 (some ⟨g14, 0, none⟩) 256 256 ((cnt (syR l k ++ ((T.take i).drop 1).map (·.1))).map (Value.int .i64))])
          case atStart => exact ⟨0, rfl, rfl, by rw [show ((T.take 0).take 1).map (·.1) = ([] : List Int) by simp, show ((T.take 0).drop 1).map (·.1) = ([] : List Int) by simp, List.append_nil, List.append_nil]; exact hS.sub sb9⟩
          case round =>
            clear hS
            obtain ⟨i, hi, rfl, hS⟩ := hrel
            by_cases hlt2 : i < m5
            · obtain ⟨b5, rfl⟩ := own_some (a := a5) hS pl9 (by omega)
              obtain ⟨⟨s, v, y⟩, hx⟩ : ∃ x, T[i]? = some x := ⟨_, List.getElem?_eq_getElem (by rw [HM5.out]; exact hlt2)⟩
              have hseg := flt_get T i _ hx
              have hsy := HSY.out _ (List.mem_of_getElem? hx)
              dsimp only at hseg hsy
              obtain ⟨q, rfl⟩ : ∃ q : Nat, s = (q : Int) := ⟨s.toNat, by omega⟩
              have ht : T.take (i + 1) = T.take i ++ [((q : Int), v, y)] := by rw [List.take_add_one, hx]; rfl
              have HTK := hid ht
              clear hx ht
              have hnx := take_next (by rw [HM5.out]; exact hlt2) HTK.out (syF l k) (syR l k)
              dsimp only at hnx
              have hq : q < 256 := by omega
              have hsl := sy_len HL.out k (by omega)
              have hA := cnt_bd (syF l k ++ ((T.take i).take 1).map (·.1)) hq
              have hB := cnt_bd (syR l k ++ ((T.take i).drop 1).map (·.1)) hq
              have hTl : T.length ≤ 64 := by rw [← HTE.out]; exact tokL_le ls
              rw [List.length_append, List.length_map, List.length_take, List.length_take] at hA
              rw [List.length_append, List.length_map, List.length_drop, List.length_take] at hB
              have HCA := hid (cnt_snoc (syF l k ++ ((T.take i).take 1).map (·.1)) hq)
              have HCB := hid (cnt_snoc (syR l k ++ ((T.take i).drop 1).map (·.1)) hq)
              have HNX := hid hnx
              have hm5 : m5 ≤ 64 := by rw [← HM5.out]; exact hTl
              clear hnx
              repeat' (first
                | ((with_reducible apply gt9 _ (.move _)); (first | go_big_want | go_step); go_step) | ((with_reducible apply gt9 _ (.assign _)); (first | go_big_want | go_step); go_step) | ((with_reducible apply gt9 _ (.binOp .lss _ _ _ _)); (refine wvv9 (V.lss rfl rfl) ?_; go_step)) | ((with_reducible apply gt9 (some 41) (.indexAddr 100 _ _)); (refine wvv9 (V.indexSl Tryd.underlying100 isz69 rfl rfl isn9 (by omega) rfl nq9) ?_; go_step)) | ((with_reducible apply gt9 _ (.binOp .eql 3 _ _ _)); (refine wvv9 (V.eql rfl rfl) ?_; go_step)) | ((with_reducible apply gt9 _ (.load 69 _)); (refine wpl (by kernel_rfl) ?_; apply wp_loadROE hS 69 _ rfl _ _ rfl 3 (row_of rfl) _ _ _ _ _; (case hp => exact pl9); (case hi => omega); (case hl' => with_reducible assumption); refine put_move ?_; go_step)) | ((with_reducible apply gt9 (some 12) (.alloc 69)); (refine wpl (by kernel_rfl) ?_; apply wp_alloc (o := ⟨some 12, _, _, _, _, _⟩) hS 69 rfl (.agg #[.int .i64 0, .int .i64 0, .int .i64 0]) [.int .i64 0, .int .i64 0, .int .i64 0] (fun w => Tryd.zeroValue69 w) rfl; clear hS; intro g12 w hS; refine put_move ?_; go_step)) | ((with_reducible apply gt9 _ (.store 69 _ _)); (refine wpl (by kernel_rfl) ?_; apply wp_storeG hS 69 _ _ rfl _ rfl 3 (row_of rfl) _ _; (case hp => exact pl9); (case hy => rfl); (case hn => rfl); (case hn' => rfl); (case hv => rfl); (case hd => exact rfl); clear hS; intro w hS)) | ((fail_if_success with_reducible apply ga9); go_step))
              · skip
                repeat' (first
                  | ((with_reducible apply gt9 _ (.move _)); (first | go_big_want | go_step); go_step) | ((with_reducible apply gt9 _ (.fieldAddr 69 _ 0)); (refine wvv9 (V.fieldAddr fo69_0 rfl nq9) ?_; go_step)) | ((with_reducible apply gt9 (some 48) (.indexAddr 24 _ _)); (refine wvv9 (V.indexSl Tryd.underlying24 isz3 rfl rfl isn9 (by omega) (Nat.mul_one _) nq9) ?_; go_step)) | ((with_reducible apply gt9 _ (.binOp .add _ _ _ _)); (refine wvv9 (V.addI rfl rfl (by omega)) ?_; go_step)) | ((with_reducible apply gt9 (some 51) (.indexAddr 24 _ _)); (refine wvv9 (V.indexSl Tryd.underlying24 isz3 rfl rfl isn9 (by omega) (Nat.mul_one _) nq9) ?_; go_step)) | ((with_reducible apply gt9 _ (.load 3 _)); first | (refine wpl (by kernel_rfl) ?_; apply wp_load1OI hS 3 _ rfl _ _ rfl (one_of rfl) _ _ _ _ _; (case hp => exact pl9); (case hi => omega); refine put_move ?_; go_step) | (refine wpl (by kernel_rfl) ?_; apply wp_load1 hS 3 _ rfl _ _ rfl (one_of rfl) _; (case hp => exact pl9); (case hc => rfl); refine put_move ?_; go_step)) | ((with_reducible apply gt9 _ (.store 3 _ _)); (refine wpl (by kernel_rfl) ?_; apply wp_store1OI hS 3 _ _ rfl _ _ rfl (one_of rfl) _ _ _ _ _; (case hp => exact pl9); (case hy => rfl); (case hi => omega); (case hd => exact rfl); clear hS; intro w hS)) | ((fail_if_success with_reducible apply ga9); go_step))
                clear hA hB hsl hTl
                repeat' (first
                  | ((fail_if_success with_reducible apply ga9); go_step))
                go_roundg (gk - 1)
                case measure => omega
                case rel =>
                  refine ⟨i + 1, by omega, by go_num, ?_⟩
                  rw [(HNX.out.1 (by omega)).1, (HNX.out.1 (by omega)).2, ← HCA.out]
                  exact hS.sub sb9
              · skip
                repeat' (first
                  | ((with_reducible apply gt9 _ (.move _)); (first | go_big_want | go_step); go_step) | ((with_reducible apply gt9 _ (.fieldAddr 69 _ 0)); (refine wvv9 (V.fieldAddr fo69_0 rfl nq9) ?_; go_step)) | ((with_reducible apply gt9 (some 55) (.indexAddr 24 _ _)); (refine wvv9 (V.indexSl Tryd.underlying24 isz3 rfl rfl isn9 (by omega) (Nat.mul_one _) nq9) ?_; go_step)) | ((with_reducible apply gt9 _ (.binOp .add _ _ _ _)); (refine wvv9 (V.addI rfl rfl (by omega)) ?_; go_step)) | ((with_reducible apply gt9 (some 58) (.indexAddr 24 _ _)); (refine wvv9 (V.indexSl Tryd.underlying24 isz3 rfl rfl isn9 (by omega) (Nat.mul_one _) nq9) ?_; go_step)) | ((with_reducible apply gt9 _ (.load 3 _)); first | (refine wpl (by kernel_rfl) ?_; apply wp_load1OI hS 3 _ rfl _ _ rfl (one_of rfl) _ _ _ _ _; (case hp => exact pl9); (case hi => omega); refine put_move ?_; go_step) | (refine wpl (by kernel_rfl) ?_; apply wp_load1 hS 3 _ rfl _ _ rfl (one_of rfl) _; (case hp => exact pl9); (case hc => rfl); refine put_move ?_; go_step)) | ((with_reducible apply gt9 _ (.store 3 _ _)); (refine wpl (by kernel_rfl) ?_; apply wp_store1OI hS 3 _ _ rfl _ _ rfl (one_of rfl) _ _ _ _ _; (case hp => exact pl9); (case hy => rfl); (case hi => omega); (case hd => exact rfl); clear hS; intro w hS)) | ((fail_if_success with_reducible apply ga9); go_step))
                clear hA hB hsl hTl
                repeat' (first
                  | ((fail_if_success with_reducible apply ga9); go_step))
                go_roundg (gk - 1)
                case measure => omega
                case rel =>
                  refine ⟨i + 1, by omega, by go_num, ?_⟩
                  rw [(HNX.out.2 (by omega)).1, (HNX.out.2 (by omega)).2, ← HCB.out]
                  exact hS.sub sb9
            · obtain rfl : i = m5 := by omega
              rw [show T.take i = T by rw [← HM5.out]; exact List.take_length, ← HTE.out, ← syF_succ, ← syR_succ] at hS
              repeat' (first
                | ((with_reducible apply gt9 _ (.binOp .lss _ _ _ _)); (refine wvv9 (V.lss rfl rfl) ?_; go_step)) | ((fail_if_success with_reducible apply ga9); go_step))
              repeat' (first
                | ((with_reducible apply gt9 _ (.move _)); (first | go_big_want | go_step); go_step) | ((with_reducible apply gt9 _ (.binOp .add _ _ _ _)); (refine wvv9 (V.addI rfl rfl (by omega)) ?_; go_step)) | ((fail_if_success with_reducible apply ga9); go_step))
              go_roundg (gk1 - 1)
              case measure => omega
              case rel => exact ⟨k + 1, by omega, by go_num, hS.sub sb9⟩
      · obtain rfl : k = n := by omega
        repeat' (first
          | ((with_reducible apply gt9 _ (.move _)); (first | go_big_want | go_step); go_step) | ((with_reducible apply gt9 _ (.assign _)); (first | go_big_want | go_step); go_step) | ((with_reducible apply gt9 _ (.binOp .lss _ _ _ _)); (refine wvv9 (V.lss rfl rfl) ?_; go_step)) | ((fail_if_success with_reducible apply ga9); go_step))
        repeat' (first
          | ((fail_if_success with_reducible apply ga9); go_step))
        refine ret_all (xs := [_, _]) rfl (.cons (OneRes.tmp rfl) (.cons (OneRes.tmp rfl) (.nil))) (by simp) rfl ?_
        exact ⟨g13, g14, rfl, hS⟩
end Go.Proofs.YtehbjhocgnfpmaaDoor

/- The walks of the reference's parts, and of evenly and pieces. -/
namespace Go.Proofs.YtehbjhocgnfpmaaDoor
open Go.RowKit
set_option linter.unusedVariables false
/-- How many blocks each segment has. -/
def ptsA (every : Nat) : Nat → Nat → List Int
  | 0, _ => []
  | f + 1, n => if 0 < n then ((min n every : Nat) : Int) :: ptsA every f (n - min n every) else []
def pts (n every : Nat) : List Int := if every = 0 ∨ n = 0 then [(n : Int)] else ptsA every n n
theorem evenly_any (n : Int) (w : World) : Calls Tryd.prog 27 #[.int .i64 n] w fun e w' => e = .returned (.int .i64 (n % 101)) ∧ w = w' := by
  go_enter Tryd.func27, Tryd.ntmps27
  repeat' (first
    | ((with_reducible apply gt9 _ (.call ⟨.value (.func 32), _, _⟩)); refine wpl_call (f := 32) Tryd.call32 (by kernel_rfl) ?_; refine ⟨_, (rest_any n 101 _ (by omega) (by omega)), ?_⟩; rintro e w' ⟨rfl, rfl⟩; refine ⟨_, rfl, ?_⟩; refine put_move ?_; go_step) | ((with_reducible apply gt9 _ (.move _)); (first | go_big_want | go_step); go_step) | ((with_reducible apply gt9 _ (.assign _)); (first | go_big_want | go_step); go_step) | ((fail_if_success with_reducible apply ga9); go_step))
  go_ret
  exact ⟨rfl, rfl⟩
theorem ptsA_len (every : Nat) (h : 0 < every) : ∀ f n, (ptsA every f n).length ≤ n
  | 0, n => by simp [ptsA]
  | f + 1, n => by
    unfold ptsA
    by_cases h0 : 0 < n
    · rw [if_pos h0, List.length_cons]
      have := ptsA_len every h f (n - min n every)
      omega
    · rw [if_neg h0]; simp
set_option maxRecDepth 100000 in
set_option maxHeartbeats 4000000 in
theorem parts_any (w0 : World) (n every : Nat) (hn : n ≤ 1048576) (he : every ≤ 1048576) :
    Calls Tryd.prog 64 #[.int .i64 n, .int .i64 every] w0 fun e w => ∃ ad c m, (pts n every).length = m ∧ e = .returned (.slice ad m c) ∧ St w0 w [own 3 1 ad m c ((pts n every).map (Value.int .i64))] := by
  have hS := St.start w0
  by_cases h0 : every = 0 ∨ n = 0
  · have HP := hid (show pts n every = [(n : Int)] by unfold pts; rw [if_pos h0])
    go_enter Tryd.func64, Tryd.ntmps64
    repeat' (first
      | ((with_reducible apply gt9 (some 13) (.buildSlice _ _ _)); (refine wpl (by kernel_rfl) ?_; apply wp_buildSliceO (o := ⟨some 13, _, _, _, _, _⟩) hS 24 1 _ rfl 3 1 8 el24 _ _; (case hvs => (repeat (first | exact Parts.nil | (apply Parts.agg; (rfl); (rfl)) | (apply Parts.one; exact isv9; (rfl); (rfl))))); (case hn => rfl); (case hn0 => decide); (case hns => decide); clear hS; intro g13 w hS; refine put_move ?_; go_step)) | go_skip | ((with_reducible apply gt9 _ (.move _)); (first | go_big_want | go_step); go_step) | ((with_reducible apply gt9 _ (.assign _)); (first | go_big_want | go_step); go_step) | ((with_reducible apply gt9 _ (.pick _ _ _)); first | (refine wplPickT rfl (by kernel_rfl) ?_; go_step) | (refine wplPickF rfl (by kernel_rfl) ?_; go_step)) | ((with_reducible apply gt9 (some 7) (.binOp .eql 3 _ _ _)); (refine wplD _ (V.eql rfl rfl) (by kernel_rfl) (fun hB => ?_) (fun hB => ?_) <;> (try (have hF : False := (by omega); cases hF)) <;> go_step)) | ((with_reducible apply gt9 _ (.binOp .eql 3 _ _ _)); (refine wvv9 (V.eql rfl rfl) ?_; go_step)) | ((fail_if_success with_reducible apply ga9); go_step))
    all_goals
      go_ret
      refine ⟨_, _, 1, by rw [HP.out]; rfl, rfl, ?_⟩
      rw [HP.out]
      exact hS.sub (xs := [own 3 1 (some ⟨g13, 0, none⟩) 1 1 [.int .i64 (n : Nat)]]) sb9
  · have HP := hid (show pts n every = ptsA every n n by unfold pts; rw [if_neg h0])
    go_enter Tryd.func64, Tryd.ntmps64
    repeat' (first
      | ((with_reducible apply gt9 _ (.move _)); (first | go_big_want | go_step); go_step) | ((with_reducible apply gt9 _ (.assign _)); (first | go_big_want | go_step); go_step) | ((with_reducible apply gt9 _ (.pick _ _ _)); (refine wplPickF rfl (by kernel_rfl) ?_; go_step)) | ((with_reducible apply gt9 (some 7) (.binOp .eql 3 _ _ _)); (refine wplD _ (V.eql rfl rfl) (by kernel_rfl) (fun hB => ?_) (fun hB => ?_) <;> (try (have hF : False := (by omega); cases hF)) <;> go_step)) | ((with_reducible apply gt9 _ (.binOp .eql 3 _ _ _)); (refine wvv9 (V.eql rfl rfl) ?_; go_step)) | ((fail_if_success with_reducible apply ga9); go_step))
    repeat' (first
      | ((fail_if_success with_reducible apply ga9); go_step))
    replace hS := hS.nilk 3 1 .i64
    have he1 : 0 < every := by omega
    go_loopg [0, 5] n (fun gk nv ov w => ∃ (r m : Nat) (o : List Int) (ad : Option Addr) (c : Nat), nv = .int .i64 r ∧ ov = .slice ad m c ∧ r ≤ gk ∧ gk ≤ n ∧ m + r ≤ n ∧ Hid (o.length = m) ∧ Hid (pts n every = o ++ ptsA every gk r) ∧ St w0 w [own 3 1 ad m c (o.map (Value.int .i64))])
    case atStart => exact ⟨n, 0, [], none, 0, rfl, rfl, Nat.le_refl _, Nat.le_refl _, by omega, hid rfl, hid (by rw [HP.out]; rfl), hS⟩
    case round =>
      clear hS
      obtain ⟨r, m, o, ad, c, rfl, rfl, hr, hg, hm, HO, HA, hS⟩ := hrel
      by_cases hr0 : 0 < r
      · obtain ⟨f, rfl⟩ : ∃ f, gk = f + 1 := ⟨gk - 1, by omega⟩
        have ha := HA.out
        rw [ptsA, if_pos hr0] at ha
        obtain ⟨q, hq⟩ : ∃ q, min r every = q := ⟨_, rfl⟩
        have hq1 : 1 ≤ q ∧ q ≤ r := by omega
        rw [hq] at ha
        have HA2 := hid ha
        have HQ := hid hq
        clear ha
        repeat' (first
          | ((with_reducible apply gt9 (some 19) (.call ⟨.builtin .min, _, _⟩)); (refine wplV (.int _ (((q : Nat) : Int))) (V.as (V.min rfl rfl) (by omega)) rfl ?_; go_step)) | ((with_reducible apply gt9 (some 25) (.call ⟨.builtin .min, _, _⟩)); (refine wplV (.int _ (((q : Nat) : Int))) (V.as (V.min rfl rfl) (by omega)) rfl ?_; go_step)) | ((with_reducible apply gt9 (some 26) (.binOp .sub _ _ _ _)); (refine wplV (.int _ (((r - q : Nat) : Int))) (V.as (V.subI rfl rfl (by omega)) (by omega)) rfl ?_; go_step)) | ((with_reducible apply gt9 _ (.move _)); (first | go_big_want | go_step); go_step) | ((with_reducible apply gt9 _ (.assign _)); (first | go_big_want | go_step); go_step) | ((with_reducible apply gt9 _ (.binOp .gtr _ _ _ _)); (refine wvv9 (V.gtr rfl rfl) ?_; go_step)) | ((with_reducible apply gt9 (some 20) (.buildSlice 24 _ _)); (refine wpl (by kernel_rfl) ?_; apply wp_buildSlice1 (o := ⟨some 20, _, _, _, _, _⟩) hS 24 1 _ rfl 3 1 8 el24 _ _; (case hvs => (repeat (first | exact Parts.nil | (apply Parts.agg; (rfl); (rfl)) | (apply Parts.one; exact isv9; (rfl); (rfl))))); (case hn => rfl); (case hn0 => decide); (case hns => decide); clear hS; intro g20 w hS; refine put_move ?_; go_step)) | ((with_reducible apply gt9 (some 21) (.call ⟨.builtin .append, _, _⟩)); (refine wpl (by kernel_rfl) ?_; apply wp_append (o := ⟨some 21, _, _, _, _, _⟩) hS _ _ 24 rfl 3 1 8 el24 _ _ _ _ rfl; (case hp => exact pl9); (case hx => exact rfl); (case hm => (first | exact hS.slBlk pl9 (by rfl) (by decide) | exact hS.sl pl9 | with_reducible assumption | exact Sl.ext (by with_reducible assumption) hS.1 | exact Sl.nil _ _ | exact Sl.ext (by assumption) hS.1 | assumption)); (case h1 => (first | exact oneAll rfl | exact oneMap _ _ | (intro u hu; cases hu))); (case h63 => unfold maxLen; omega); (case hb => omega); clear hS; intro ad21 c21 w hS; (first | simp only [mapk1] at hS | simp only [mapk2] at hS | simp only [mapk3] at hS | simp only [mapk4] at hS | simp only [mapkl] at hS | skip); refine put_move ?_; go_step)) | ((fail_if_success with_reducible apply ga9); go_step))
        go_roundg f
        case measure => omega
        case rel => exact ⟨r - q, m + 1, o ++ [(q : Int)], ad21, c21, rfl, rfl, by omega, by omega, by omega, hid (by rw [List.length_append, HO.out]; rfl), hid (by rw [HA2.out]; simp), hS.sub sb9⟩
      · have hp : pts n every = o := by
          rw [HA.out]
          have : ptsA every gk r = [] := by
            cases gk with
            | zero => rfl
            | succ f => rw [ptsA, if_neg hr0]
          rw [this, List.append_nil]
        have HPO := hid hp
        clear hp
        repeat' (first
          | ((with_reducible apply gt9 _ (.move _)); (first | go_big_want | go_step); go_step) | ((with_reducible apply gt9 _ (.assign _)); (first | go_big_want | go_step); go_step) | ((with_reducible apply gt9 _ (.binOp .gtr _ _ _ _)); (refine wvv9 (V.gtr rfl rfl) ?_; go_step)) | ((fail_if_success with_reducible apply ga9); go_step))
        repeat' (first
          | ((fail_if_success with_reducible apply ga9); go_step))
        go_ret
        refine ⟨_, _, m, by rw [HPO.out]; exact HO.out, rfl, ?_⟩
        rw [HPO.out]
        exact hS.sub sb9
end Go.Proofs.YtehbjhocgnfpmaaDoor

/- The walk of the reference's FrameCounts. -/
namespace Go.Proofs.YtehbjhocgnfpmaaDoor
open Go.RowKit
set_option linter.unusedVariables false
/-- The symbols of segments, one behind the other. -/
def frF (l : List Int) : List Int → List Int
  | [] => []
  | q :: ps => syF l q.toNat ++ frF (l.drop (q.toNat * 64)) ps
def frR (l : List Int) : List Int → List Int
  | [] => []
  | q :: ps => syR l q.toNat ++ frR (l.drop (q.toNat * 64)) ps
theorem seg_take {l : List Int} {q k : Nat} (h : k < q) : seg (l.take (q * 64)) 64 k = seg l 64 k := by
  unfold seg
  rw [List.drop_take, List.take_take, Nat.min_eq_left (by omega)]
theorem tkb_take {l : List Int} {q k : Nat} (h : k < q) : tkb (l.take (q * 64)) k = tkb l k := by
  unfold tkb bef
  rw [seg_take h]
  by_cases h0 : k = 0
  · rw [if_pos h0, if_pos h0]
  · rw [if_neg h0, if_neg h0, seg_take (by omega)]
theorem syF_take (l : List Int) (q : Nat) : syF (l.take (q * 64)) q = syF l q := by
  unfold syF
  have : ∀ n, n ≤ q → (List.range n).flatMap (fun k => ((tkb (l.take (q * 64)) k).take 1).map (·.1)) = (List.range n).flatMap (fun k => ((tkb l k).take 1).map (·.1)) := by
    intro n
    induction n with
    | zero => intro _; rfl
    | succ n ih =>
      intro hn
      rw [List.range_succ, List.flatMap_append, List.flatMap_append, ih (by omega)]
      simp [tkb_take (l := l) (show n < q by omega)]
  exact this q (Nat.le_refl _)
theorem syR_take (l : List Int) (q : Nat) : syR (l.take (q * 64)) q = syR l q := by
  unfold syR
  have : ∀ n, n ≤ q → (List.range n).flatMap (fun k => ((tkb (l.take (q * 64)) k).drop 1).map (·.1)) = (List.range n).flatMap (fun k => ((tkb l k).drop 1).map (·.1)) := by
    intro n
    induction n with
    | zero => intro _; rfl
    | succ n ih =>
      intro hn
      rw [List.range_succ, List.flatMap_append, List.flatMap_append, ih (by omega)]
      simp [tkb_take (l := l) (show n < q by omega)]
  exact this q (Nat.le_refl _)
/-- The parts are of the blocks that are left. -/
def ptsOk : Nat → List Int → Prop
  | _, [] => True
  | r, q :: ps => 0 ≤ q ∧ q.toNat ≤ r ∧ ptsOk (r - q.toNat) ps
theorem ptsA_ok (every : Nat) : ∀ f n, ptsOk n (ptsA every f n)
  | 0, n => trivial
  | f + 1, n => by
    unfold ptsA
    by_cases h0 : 0 < n
    · rw [if_pos h0]
      exact ⟨by omega, by omega, by rw [Int.toNat_natCast]; exact ptsA_ok every f _⟩
    · rw [if_neg h0]; trivial
theorem pts_ok (n every : Nat) : ptsOk n (pts n every) := by
  unfold pts
  split
  · exact ⟨by omega, by omega, trivial⟩
  · exact ptsA_ok every n n
theorem pts_len (n every : Nat) : (pts n every).length ≤ n + 1 := by
  unfold pts
  by_cases h : every = 0 ∨ n = 0
  · rw [if_pos h]; simp
  · rw [if_neg h]
    have := ptsA_len every (by omega) n n
    omega
theorem cnt_add {A X : List Int} {s : Nat} (h : s < 256) : nth (cnt A) s + nth (cnt X) s = nth (cnt (A ++ X)) s := by
  rw [cnt_nth _ h, cnt_nth _ h, cnt_nth _ h, List.count_append]; push_cast; rfl
theorem call_two {W w w' : World} {rs : List Res} {r s : Res} (h : St W w rs) (h' : St w w' [r, s]) : St W w' (r :: s :: rs) := h.call h'
set_option maxRecDepth 100000 in
set_option maxHeartbeats 8000000 in
theorem frameCounts_any (w0 : World) (ad : Option Addr) (n c : Nat) (l : List Int) (every : Nat) (hn : n ≤ 1048576) (he : every ≤ 1048576) (hv : Sl w0 64 (.slice ad n c) n (l.map (Value.int .i64))) :
    Calls Tryd.prog 46 #[.slice ad n c, .int .i64 every] w0 fun e w => ∃ g1 g2, e = .returned (.tuple #[.slice (some ⟨g1, 0, none⟩) 256 256, .slice (some ⟨g2, 0, none⟩) 256 256]) ∧ St w0 w [own 3 1 (some ⟨g1, 0, none⟩) 256 256 ((cnt (frF l (pts n every))).map (Value.int .i64)), own 3 1 (some ⟨g2, 0, none⟩) 256 256 ((cnt (frR l (pts n every))).map (Value.int .i64))] := by
  have hl : l.length = n * 64 := by have := hv.1; simpa using this
  have HL := hid hl
  clear hl
  have hps := pts_ok n every
  obtain ⟨P, hP⟩ : ∃ P, pts n every = P := ⟨_, rfl⟩
  rw [hP] at hps ⊢
  have HPS := hid hps
  have HPE := hid hP
  clear hP hps
  have hS := St.start w0
  go_enter Tryd.func46, Tryd.ntmps46
  repeat' (first
    | ((with_reducible apply gt9 _ (.assign _)); (first | go_big_want | go_step); go_step) | ((fail_if_success with_reducible apply ga9); go_step))
  apply wp_join2 (rs := fun g13 g14 => [own 3 1 (some ⟨g13, 0, none⟩) 256 256 ((cnt []).map (Value.int .i64)), own 3 1 (some ⟨g14, 0, none⟩) 256 256 ((cnt []).map (Value.int .i64))])
  · skip
    refine drawn_lit [] (fun _ => True) (by kernel_rfl) ?_
    replace hS := hS.drew
    focus
      refine branch [0, 1] (by kernel_rfl) (by simp) (.cons al9 rfl ?_ (.cons al9 rfl ?_ (.nil)))
      rotate_left 1
      focus
        (refine wp_make (o := ⟨some 14, _, _, _, _, _⟩) hS 24 _ _ rfl _ _ _ _ elz24 _ _ _ _ _ _ rfl rfl isn9 isn9 (by omega) (by omega) (by unfold maxLen; omega) ?_; clear hS; intro g14 w hS)
        refine ⟨fun _ h => h, ?_⟩
        refine drawn_move ?_
        go_step
        refine branch1 0 al9 rfl (by kernel_rfl) ?_
        (refine wp_make (o := ⟨some 13, _, _, _, _, _⟩) hS 24 _ _ rfl _ _ _ _ elz24 _ _ _ _ _ _ rfl rfl isn9 isn9 (by omega) (by omega) (by unfold maxLen; omega) ?_; clear hS; intro g13 w hS)
        refine ⟨fun _ h => h, ?_⟩
        refine drawn_move ?_
        go_step
        refine takeA 2 _ al9 (by kernel_rfl) (by kernel_rfl) (by kernel_rfl) (fun _ _ _ _ h => nomatch h.1) rfl ?_
        go_step
        refine takeA 3 _ al9 (by kernel_rfl) (by kernel_rfl) (by kernel_rfl) (fun _ _ _ _ h => nomatch h.1) rfl ?_
        go_step
        refine drawn_done (by kernel_rfl) ?_ _
        exact ⟨rfl, g13, g14, rfl, by rw [cnt_nil]; exact hS.sub sb9⟩
      rotate_right 1
      focus
        (refine wp_make (o := ⟨some 13, _, _, _, _, _⟩) hS 24 _ _ rfl _ _ _ _ elz24 _ _ _ _ _ _ rfl rfl isn9 isn9 (by omega) (by omega) (by unfold maxLen; omega) ?_; clear hS; intro g13 w hS)
        refine ⟨fun _ h => h, ?_⟩
        refine drawn_move ?_
        go_step
        refine takeA 2 _ al9 (by kernel_rfl) (by kernel_rfl) (by kernel_rfl) (fun _ _ _ _ h => nomatch h.1) rfl ?_
        go_step
        refine branch1 1 al9 rfl (by kernel_rfl) ?_
        (refine wp_make (o := ⟨some 14, _, _, _, _, _⟩) hS 24 _ _ rfl _ _ _ _ elz24 _ _ _ _ _ _ rfl rfl isn9 isn9 (by omega) (by omega) (by unfold maxLen; omega) ?_; clear hS; intro g14 w hS)
        refine ⟨fun _ h => h, ?_⟩
        refine drawn_move ?_
        go_step
        refine takeA 3 _ al9 (by kernel_rfl) (by kernel_rfl) (by kernel_rfl) (fun _ _ _ _ h => nomatch h.1) rfl ?_
        go_step
        refine drawn_done (by kernel_rfl) ?_ _
        exact ⟨rfl, g13, g14, rfl, by rw [cnt_nil]; exact hS.sub sb9⟩
  clear hS
  intro g13 g14 w hS
  · skip
    repeat' (first
      | ((with_reducible apply gt9 _ (.call ⟨.value (.func 64), _, _⟩)); refine wpl_call (f := 64) Tryd.call64 (by kernel_rfl) ?_; refine ⟨_, (parts_any _ n every hn he), ?_⟩; rintro e w ⟨a8, c8, m8, hm8, rfl, hS2⟩; rw [HPE.out] at hm8 hS2; have HM8 := hid hm8; replace hS := hS.call1 hS2; clear hS2 hm8; refine ⟨_, rfl, ?_⟩; refine put_move ?_; go_step) | ((with_reducible apply gt9 _ (.move _)); (first | go_big_want | go_step); go_step) | ((with_reducible apply gt9 _ (.call ⟨.builtin .len, _, _⟩)); (refine wvv9 (V.len Tryd.underlying22 rfl) ?_; go_step)) | ((with_reducible apply gt9 _ (.call ⟨.builtin .len, _, _⟩)); (refine wvv9 (V.len Tryd.underlying24 rfl) ?_; go_step)) | ((fail_if_success with_reducible apply ga9); go_step))
    have hm8b : m8 ≤ n + 1 := by rw [← HM8.out, ← HPE.out]; exact pts_len n every
    go_loopg [0, 20] m8 (fun gk sv kv w => ∃ (k r : Nat) (ad : Option Addr) (c : Nat) (L A B : List Int), gk + k = m8 ∧ kv = .int .i64 k ∧ sv = .slice ad r c ∧ r ≤ n ∧ A.length + r * 64 ≤ n * 64 ∧ B.length + r * 64 ≤ n * 64 ∧ Sl w0 64 (.slice ad r c) r (L.map (Value.int .i64)) ∧ Hid (ptsOk r (P.drop k)) ∧ Hid (frF l P = A ++ frF L (P.drop k)) ∧ Hid (frR l P = B ++ frR L (P.drop k)) ∧ St w0 w [own 3 1 a8 m8 c8 (P.map (Value.int .i64)), own 3 1 (some ⟨g13, 0, none⟩) 256 256 ((cnt A).map (Value.int .i64)), own 3 1 (some ⟨g14, 0, none⟩) 256 256 ((cnt B).map (Value.int .i64))])
    case atStart => exact ⟨0, n, ad, c, l, [], [], rfl, rfl, rfl, Nat.le_refl _, by simp, by simp, hv, HPS, hid rfl, hid rfl, hS⟩
    case round =>
      clear hS
      obtain ⟨k, r, ad3, c3, L, A, B, hk, rfl, rfl, hrn, hAl, hBl, hv3, HO, HF, HR, hS⟩ := hrel
      by_cases hlt : k < m8
      · have hLl : L.length = r * 64 := by have := hv3.1; simpa using this
        have hdr : P.drop k = nth P k :: P.drop (k + 1) := by
          rw [List.drop_eq_getElem_cons (by rw [HM8.out]; omega)]
          simp [nth, List.getD, HM8.out, hlt]
        obtain ⟨q, hq⟩ : ∃ q, nth P k = q := ⟨_, rfl⟩
        rw [hq] at hdr
        have ho := HO.out
        have hf := HF.out
        have hr := HR.out
        rw [hdr] at ho hf hr
        obtain ⟨o1, o2, o3⟩ := ho
        rw [frF] at hf
        rw [frR] at hr
        obtain ⟨b, rfl⟩ : ∃ b : Nat, q = (b : Int) := ⟨q.toNat, by omega⟩
        rw [Int.toNat_natCast] at o2 o3 hf hr
        have HQ := hid hq
        have HO2 := hid o3
        have HF2 := hid hf
        have HR2 := hid hr
        clear HO HF HR hdr hq o3 hf hr
        have hcc := hv3.cutAt 0 b (by omega) (by omega)
        rw [show ((L.map (Value.int .i64)).drop (0 * 64)).take ((b - 0) * 64) = (L.take (b * 64)).map (Value.int .i64) by simp] at hcc
        have hc2 := hv3.cutAt b r (by omega) (by omega)
        rw [show ((L.map (Value.int .i64)).drop (b * 64)).take ((r - b) * 64) = (L.drop (b * 64)).map (Value.int .i64) by rw [← List.map_drop, List.take_of_length_le]; simp; omega] at hc2
        have hsy := sy_len hLl b o2
        have hrc : r ≤ c3 := by
          obtain ⟨_, a', c', e1, hnc, _⟩ := hv3
          cases e1
          exact hnc
        have HX1 := hid (syF_take L b)
        have HX2 := hid (syR_take L b)
        obtain ⟨b8, rfl⟩ := own_some (a := a8) hS pl9 (by omega)
        repeat' (first
          | ((with_reducible apply gt9 _ (.move _)); (first | go_big_want | go_step); go_step) | ((with_reducible apply gt9 _ (.assign _)); (first | go_big_want | go_step); go_step) | ((with_reducible apply gt9 _ (.binOp .lss _ _ _ _)); (refine wvv9 (V.lss rfl rfl) ?_; go_step)) | ((with_reducible apply gt9 (some 22) (.indexAddr 24 _ _)); (refine wvv9 (V.indexSl Tryd.underlying24 isz3 rfl rfl isn9 (by omega) (Nat.mul_one _) nq9) ?_; go_step)) | ((with_reducible apply gt9 _ (.load 3 _)); (refine wpl (by kernel_rfl) ?_; apply wp_load1OI hS 3 _ rfl _ _ rfl (one_of rfl) _ _ _ _ _; (case hp => exact pl9); (case hi => omega); refine put_move ?_; go_step)) | ((fail_if_success with_reducible apply ga9); go_step))
        rw [HQ.out]
        repeat' (first
          | ((with_reducible apply gt9 (some 28) _); refine wpl_call (f := 65) Tryd.call65 (by kernel_rfl) ?_; refine ⟨_, (refCounts_any _ (cutAt ad3 c3 0 64) (b - 0) (c3 - 0) (L.take (b * 64)) (by omega) (hcc.ext hS.1)), ?_⟩; rintro e w ⟨g1, g2, rfl, hS2⟩; rw [Nat.sub_zero, HX1.out, HX2.out] at hS2; replace hS := call_two hS hS2; clear hS2; refine ⟨_, rfl, ?_⟩; refine put_move ?_; go_step) | ((with_reducible apply gt9 _ (.move _)); (first | go_big_want | go_step); go_step) | ((with_reducible apply gt9 _ (.assign _)); (first | go_big_want | go_step); go_step) | ((with_reducible apply gt9 _ (.slice 22 _ _ _ _)); (refine wvv9 (V.slice Tryd.underlying22 isz52 rfl (by (first | exact Lo.none | exact Lo.some rfl isn9)) (by (first | exact Up.none | exact Up.some rfl isn9)) (by omega) (by omega)) ?_; go_step)) | ((with_reducible apply gt9 _ (.extract _ _)); (refine wvv9 (V.extract rfl rfl) ?_; go_step)) | ((with_reducible apply gt9 _ (.call ⟨.builtin .len, _, _⟩)); (refine wvv9 (V.len Tryd.underlying24 rfl) ?_; go_step)) | ((fail_if_success with_reducible apply ga9); go_step))
        obtain ⟨gk1, hgk1⟩ : ∃ x, x = gk := ⟨_, rfl⟩
        subst hgk1
        obtain ⟨X, hX⟩ : ∃ X, syF L b = X := ⟨_, rfl⟩
        obtain ⟨Y, hY⟩ : ∃ X, syR L b = X := ⟨_, rfl⟩
        rw [hX, hY] at hS hsy
        rw [hX] at HF2
        rw [hY] at HR2
        clear hX hY HX1 HX2 hcc
        go_loopg [36] 256 (fun gk kv w => ∃ (i : Nat) (l1 l2 : List Int), gk + i = 256 ∧ kv = .int .i64 i ∧ Hid (l1.length = 256) ∧ Hid (l2.length = 256) ∧ Hid (∀ j, j < 256 → nth l1 j = if j < i then nth (cnt (A ++ X)) j else nth (cnt A) j) ∧ Hid (∀ j, j < 256 → nth l2 j = if j < i then nth (cnt (B ++ Y)) j else nth (cnt B) j) ∧ St w0 w [own 3 1 (some ⟨b8, 0, none⟩) m8 c8 (P.map (Value.int .i64)), own 3 1 (some ⟨g13, 0, none⟩) 256 256 (l1.map (Value.int .i64)), own 3 1 (some ⟨g14, 0, none⟩) 256 256 (l2.map (Value.int .i64)), own 3 1 (some ⟨g1, 0, none⟩) 256 256 ((cnt X).map (Value.int .i64)), own 3 1 (some ⟨g2, 0, none⟩) 256 256 ((cnt Y).map (Value.int .i64))])
        case atStart => exact ⟨0, cnt A, cnt B, rfl, rfl, hid (cnt_len _), hid (cnt_len _), hid (fun j hj => by rw [if_neg (by omega)]), hid (fun j hj => by rw [if_neg (by omega)]), hS.sub sb9⟩
        case round =>
          clear hS
          obtain ⟨i, l1, l2, hi, rfl, HL1, HL2, HV1, HV2, hS⟩ := hrel
          by_cases hlt2 : i < 256
          · have e1 := HV1.out i hlt2
            have e2 := HV2.out i hlt2
            rw [if_neg (by omega)] at e1 e2
            have a1 := cnt_bd A hlt2
            have a2 := cnt_bd B hlt2
            have a3 := cnt_bd X hlt2
            have a4 := cnt_bd Y hlt2
            rw [← e1] at a1
            rw [← e2] at a2
            have HA1 := hid (show nth l1 i + nth (cnt X) i = nth (cnt (A ++ X)) i by rw [e1]; exact cnt_add hlt2)
            have HA2 := hid (show nth l2 i + nth (cnt Y) i = nth (cnt (B ++ Y)) i by rw [e2]; exact cnt_add hlt2)
            clear e1 e2
            repeat' (first
              | ((with_reducible apply gt9 _ (.move _)); (first | go_big_want | go_step); go_step) | ((with_reducible apply gt9 _ (.assign _)); (first | go_big_want | go_step); go_step) | ((with_reducible apply gt9 _ (.binOp .lss _ _ _ _)); (refine wvv9 (V.lss rfl rfl) ?_; go_step)) | ((fail_if_success with_reducible apply ga9); go_step))
            refine drawn_lit [10] (fun w => St w0 w [own 3 1 (some ⟨g13, 0, none⟩) 256 256 (l1.map (Value.int .i64)), own 3 1 (some ⟨g1, 0, none⟩) 256 256 ((cnt X).map (Value.int .i64))]) (by kernel_rfl) ?_
            replace hS := hS.drew
            focus
              refine takeM 0 _ al9 (by kernel_rfl) (by kernel_rfl) (by kernel_rfl) (by exact fun _ _ _ _ h => h) rfl ?_
              go_step
              refine takeM 1 _ al9 (by kernel_rfl) (by kernel_rfl) (by kernel_rfl) (by exact fun _ _ _ _ h => h) rfl ?_
              go_step
              (refine takeV 2 _ al9 (by kernel_rfl) (by kernel_rfl) (by kernel_rfl) (by exact fun _ _ _ _ h => h) (V.indexSl Tryd.underlying24 isz3 rfl rfl isn9 (by omega) (Nat.mul_one _) nq9) rfl ?_)
              go_step
              apply takeS 3 al9 (by kernel_rfl) (by kernel_rfl) (by kernel_rfl) (by exact fun _ _ _ _ h => h) [8, 9, 10] (by kernel_rfl) (hS.sub sb9)
              case hfr => intro w hS; ((refine wpl (by kernel_rfl) ?_; apply wp_load1OI hS 3 _ rfl _ _ rfl (one_of rfl) _ _ _ _ _; (case hp => exact pl9); (case hi => omega); refine put_move ?_; go_step)); refine wpList_nil ?_; exact ⟨rfl, rfl⟩
              case hd => rfl
              refine takeM 4 _ al9 (by kernel_rfl) (by kernel_rfl) (by kernel_rfl) (by exact fun _ _ _ _ h => h) rfl ?_
              go_step
              refine takeM 5 _ al9 (by kernel_rfl) (by kernel_rfl) (by kernel_rfl) (by exact fun _ _ _ _ h => h) rfl ?_
              go_step
              (refine takeV 6 _ al9 (by kernel_rfl) (by kernel_rfl) (by kernel_rfl) (by exact fun _ _ _ _ h => h) (V.indexSl Tryd.underlying24 isz3 rfl rfl isn9 (by omega) (Nat.mul_one _) nq9) rfl ?_)
              go_step
              apply takeS 7 al9 (by kernel_rfl) (by kernel_rfl) (by kernel_rfl) (by exact fun _ _ _ _ h => h) [8, 9, 10] (by kernel_rfl) (hS.sub sb9)
              case hfr => intro w hS; ((refine wpl (by kernel_rfl) ?_; apply wp_load1OI hS 3 _ rfl _ _ rfl (one_of rfl) _ _ _ _ _; (case hp => exact pl9); (case hi => omega); refine put_move ?_; go_step)); refine wpList_nil ?_; exact ⟨rfl, rfl⟩
              case hd => rfl
              (refine takeV 8 _ al9 (by kernel_rfl) (by kernel_rfl) (by kernel_rfl) (by exact fun _ _ _ _ h => h) (V.addI rfl rfl (by omega)) rfl ?_)
              go_step
              (refine takeV 9 _ al9 (by kernel_rfl) (by kernel_rfl) (by kernel_rfl) (by exact fun _ _ _ _ h => h) (V.indexSl Tryd.underlying24 isz3 rfl rfl isn9 (by omega) (Nat.mul_one _) nq9) rfl ?_)
              go_step
              refine branch1 10 al9 rfl (by kernel_rfl) ?_
              (refine wp_store1OI hS 3 _ _ rfl _ _ rfl (one_of rfl) _ _ _ _ _ pl9 _ (by rfl) (by omega) rfl ?_; clear hS; intro w hS)
              refine ⟨fun h => absurd (by decide) h, ?_⟩
              refine drawn_done (by kernel_rfl) ?_ _
            repeat' ((fail_if_success with_reducible apply ga9); go_step)
            refine drawn_lit [10] (fun w => St w0 w [own 3 1 (some ⟨g14, 0, none⟩) 256 256 (l2.map (Value.int .i64)), own 3 1 (some ⟨g2, 0, none⟩) 256 256 ((cnt Y).map (Value.int .i64))]) (by kernel_rfl) ?_
            replace hS := hS.drew
            focus
              refine takeM 0 _ al9 (by kernel_rfl) (by kernel_rfl) (by kernel_rfl) (by exact fun _ _ _ _ h => h) rfl ?_
              go_step
              refine takeM 1 _ al9 (by kernel_rfl) (by kernel_rfl) (by kernel_rfl) (by exact fun _ _ _ _ h => h) rfl ?_
              go_step
              (refine takeV 2 _ al9 (by kernel_rfl) (by kernel_rfl) (by kernel_rfl) (by exact fun _ _ _ _ h => h) (V.indexSl Tryd.underlying24 isz3 rfl rfl isn9 (by omega) (Nat.mul_one _) nq9) rfl ?_)
              go_step
              apply takeS 3 al9 (by kernel_rfl) (by kernel_rfl) (by kernel_rfl) (by exact fun _ _ _ _ h => h) [8, 9, 10] (by kernel_rfl) (hS.sub sb9)
              case hfr => intro w hS; ((refine wpl (by kernel_rfl) ?_; apply wp_load1OI hS 3 _ rfl _ _ rfl (one_of rfl) _ _ _ _ _; (case hp => exact pl9); (case hi => omega); refine put_move ?_; go_step)); refine wpList_nil ?_; exact ⟨rfl, rfl⟩
              case hd => rfl
              refine takeM 4 _ al9 (by kernel_rfl) (by kernel_rfl) (by kernel_rfl) (by exact fun _ _ _ _ h => h) rfl ?_
              go_step
              refine takeM 5 _ al9 (by kernel_rfl) (by kernel_rfl) (by kernel_rfl) (by exact fun _ _ _ _ h => h) rfl ?_
              go_step
              (refine takeV 6 _ al9 (by kernel_rfl) (by kernel_rfl) (by kernel_rfl) (by exact fun _ _ _ _ h => h) (V.indexSl Tryd.underlying24 isz3 rfl rfl isn9 (by omega) (Nat.mul_one _) nq9) rfl ?_)
              go_step
              apply takeS 7 al9 (by kernel_rfl) (by kernel_rfl) (by kernel_rfl) (by exact fun _ _ _ _ h => h) [8, 9, 10] (by kernel_rfl) (hS.sub sb9)
              case hfr => intro w hS; ((refine wpl (by kernel_rfl) ?_; apply wp_load1OI hS 3 _ rfl _ _ rfl (one_of rfl) _ _ _ _ _; (case hp => exact pl9); (case hi => omega); refine put_move ?_; go_step)); refine wpList_nil ?_; exact ⟨rfl, rfl⟩
              case hd => rfl
              (refine takeV 8 _ al9 (by kernel_rfl) (by kernel_rfl) (by kernel_rfl) (by exact fun _ _ _ _ h => h) (V.addI rfl rfl (by omega)) rfl ?_)
              go_step
              (refine takeV 9 _ al9 (by kernel_rfl) (by kernel_rfl) (by kernel_rfl) (by exact fun _ _ _ _ h => h) (V.indexSl Tryd.underlying24 isz3 rfl rfl isn9 (by omega) (Nat.mul_one _) nq9) rfl ?_)
              go_step
              refine branch1 10 al9 rfl (by kernel_rfl) ?_
              (refine wp_store1OI hS 3 _ _ rfl _ _ rfl (one_of rfl) _ _ _ _ _ pl9 _ (by rfl) (by omega) rfl ?_; clear hS; intro w hS)
              refine ⟨fun h => absurd (by decide) h, ?_⟩
              refine drawn_done (by kernel_rfl) ?_ _
            repeat' (first
              | ((with_reducible apply gt9 _ (.move _)); (first | go_big_want | go_step); go_step) | ((with_reducible apply gt9 _ (.binOp .add _ _ _ _)); (refine wvv9 (V.addI rfl rfl (by omega)) ?_; go_step)) | ((fail_if_success with_reducible apply ga9); go_step))
            rw [HA1.out, HA2.out] at hS
            have nset : ∀ (l : List Int) (D E : List Int), l.length = 256 → (∀ j, j < 256 → nth l j = if j < i then nth (cnt (D ++ E)) j else nth (cnt D) j) → ∀ j, j < 256 → nth (l.set i (nth (cnt (D ++ E)) i)) j = if j < i + 1 then nth (cnt (D ++ E)) j else nth (cnt D) j := fun l D E h1 h2 j hj => by
              rw [nth_set _ _ _ _ (by rw [h1]; exact hlt2)]
              by_cases h : i = j
              · subst h; rw [if_pos rfl, if_pos (by omega)]
              · rw [if_neg h, h2 j hj]
                by_cases h3 : j < i
                · rw [if_pos h3, if_pos (by omega)]
                · rw [if_neg h3, if_neg (by omega)]
            go_roundg (gk - 1)
            case measure => omega
            case rel => exact ⟨i + 1, l1.set i (nth (cnt (A ++ X)) i), l2.set i (nth (cnt (B ++ Y)) i), by omega, by go_num, hid (by rw [List.length_set]; exact HL1.out), hid (by rw [List.length_set]; exact HL2.out), hid (nset _ _ _ HL1.out HV1.out), hid (nset _ _ _ HL2.out HV2.out), hS.sub sb9⟩
          · obtain rfl : i = 256 := by omega
            have q1 : l1 = cnt (A ++ X) := cnt_ext HL1.out (cnt_len _) fun j hj => by rw [HV1.out j hj, if_pos hj]
            have q2 : l2 = cnt (B ++ Y) := cnt_ext HL2.out (cnt_len _) fun j hj => by rw [HV2.out j hj, if_pos hj]
            rw [q1, q2] at hS
            repeat' (first
              | ((with_reducible apply gt9 _ (.binOp .lss _ _ _ _)); (refine wvv9 (V.lss rfl rfl) ?_; go_step)) | ((fail_if_success with_reducible apply ga9); go_step))
            repeat' (first
              | ((with_reducible apply gt9 _ (.move _)); (first | go_big_want | go_step); go_step) | ((with_reducible apply gt9 _ (.binOp .add _ _ _ _)); (refine wvv9 (V.addI rfl rfl (by omega)) ?_; go_step)) | ((fail_if_success with_reducible apply ga9); go_step))
            go_roundg (gk1 - 1)
            case measure => omega
            case rel => exact ⟨k + 1, r - b, cutAt ad3 c3 b 64, c3 - b, L.drop (b * 64), A ++ X, B ++ Y, by omega, by go_num, rfl, by omega, by rw [List.length_append]; omega, by rw [List.length_append]; omega, hc2, HO2, hid (by rw [HF2.out, List.append_assoc]), hid (by rw [HR2.out, List.append_assoc]), hS.sub sb9⟩
      · obtain rfl : k = m8 := by omega
        have hf := HF.out
        have hr := HR.out
        rw [show P.drop k = [] by rw [List.drop_eq_nil_iff, HM8.out]; omega] at hf hr
        rw [frF, List.append_nil] at hf
        rw [frR, List.append_nil] at hr
        have HF2 := hid hf
        have HR2 := hid hr
        clear hf hr
        repeat' (first
          | ((with_reducible apply gt9 _ (.move _)); (first | go_big_want | go_step); go_step) | ((with_reducible apply gt9 _ (.assign _)); (first | go_big_want | go_step); go_step) | ((with_reducible apply gt9 _ (.binOp .lss _ _ _ _)); (refine wvv9 (V.lss rfl rfl) ?_; go_step)) | ((fail_if_success with_reducible apply ga9); go_step))
        repeat' (first
          | ((fail_if_success with_reducible apply ga9); go_step))
        refine ret_all (xs := [_, _]) rfl (.cons (OneRes.tmp rfl) (.cons (OneRes.tmp rfl) (.nil))) (by simp) rfl ?_
        refine ⟨g13, g14, rfl, ?_⟩
        rw [HF2.out, HR2.out]
        exact hS.sub sb9
end Go.Proofs.YtehbjhocgnfpmaaDoor

/- Sorting in place, in plain lists: places turned, an element moved, a rotation, a merge (SymMerge). -/
namespace Go.Proofs.YtehbjhocgnfpmaaDoor
set_option linter.unusedVariables false
section
variable {α : Type} [Inhabited α]
/-- the element at a place -/
def elt (l : List α) (i : Nat) : α := l.getD i default
theorem elt_set (l : List α) (i j : Nat) (z : α) (h : i < l.length) : elt (l.set i z) j = if i = j then z else elt l j := by
  unfold elt
  simp only [List.getD_eq_getElem?_getD, List.getElem?_set]
  split
  · simp
  · rfl
theorem elt_app1 (l m : List α) (i : Nat) (h : i < l.length) : elt (l ++ m) i = elt l i := by simp [elt, List.getElem?_append_left h]
theorem elt_app2 (l m : List α) (i : Nat) (h : l.length ≤ i) : elt (l ++ m) i = elt m (i - l.length) := by simp [elt, List.getElem?_append_right h]
theorem elt_mem {l : List α} {i : Nat} (h : i < l.length) : elt l i ∈ l := by simp [elt, h]
theorem elt_of_mem {l : List α} {x : α} (h : x ∈ l) : ∃ i, i < l.length ∧ elt l i = x := by
  obtain ⟨i, hi, e⟩ := List.getElem_of_mem h
  exact ⟨i, hi, by simp [elt, hi, e]⟩
theorem elt_ext {l m : List α} (h : l.length = m.length) (k : ∀ i, i < l.length → elt l i = elt m i) : l = m := by
  apply List.ext_getElem h
  intro i h1 h2
  have := k i h1
  simpa [elt, h1, h2] using this
theorem elt_take (l : List α) (n i : Nat) (h : i < n) : elt (l.take n) i = elt l i := by simp [elt, h]
theorem elt_drop (l : List α) (n i : Nat) : elt (l.drop n) i = elt l (n + i) := by simp [elt]
/-- the same but for the order of what lies from a up to b -/
structure Rg (a b : Nat) (P P' : List α) : Prop where
  len : P'.length = P.length
  out : ∀ x, x < a ∨ b ≤ x → elt P' x = elt P x
  perm : ((P'.drop a).take (b - a)).Perm ((P.drop a).take (b - a))
theorem Rg.refl (a b : Nat) (P : List α) : Rg a b P P := ⟨rfl, fun _ _ => rfl, List.Perm.refl _⟩
theorem Rg.trans {a b : Nat} {P Q R : List α} (h : Rg a b P Q) (k : Rg a b Q R) : Rg a b P R :=
  ⟨k.len.trans h.len, fun x hx => (k.out x hx).trans (h.out x hx), k.perm.trans h.perm⟩
/-- where an element of the range came from -/
theorem Rg.from {a b : Nat} {P P' : List α} (h : Rg a b P P') (hb : b ≤ P.length) {x : Nat} (h1 : a ≤ x) (h2 : x < b) : ∃ y, a ≤ y ∧ y < b ∧ elt P' x = elt P y := by
  have hl := h.len
  have e : elt P' x = elt ((P'.drop a).take (b - a)) (x - a) := by rw [elt_take _ _ _ (by omega), elt_drop]; congr 1; omega
  have hm : elt P' x ∈ (P'.drop a).take (b - a) := by rw [e]; exact elt_mem (by simp; omega)
  obtain ⟨i, hi, e2⟩ := elt_of_mem (h.perm.mem_iff.1 hm)
  simp at hi
  exact ⟨a + i, by omega, by omega, by rw [← e2, elt_take _ _ _ (by omega), elt_drop]⟩
/-- a range within a greater one -/
theorem Rg.wide {a b c d : Nat} {P P' : List α} (h : Rg a b P P') (hca : c ≤ a) (hbd : b ≤ d) (hab : a ≤ b) (hd : b ≤ P.length) : Rg c d P P' := by
  refine ⟨h.len, fun x hx => h.out x (by omega), ?_⟩
  have cut : ∀ Q : List α, (Q.drop c).take (d - c) = (Q.drop c).take (a - c) ++ ((Q.drop a).take (b - a) ++ (Q.drop b).take (d - b)) := fun Q => by
    have e1 : d - c = (a - c) + ((b - a) + (d - b)) := by omega
    rw [e1, List.take_add, List.take_add, List.drop_drop, List.drop_drop]
    congr 4 <;> omega
  have hl := h.len
  rw [cut, cut]
  have e1 : (P'.drop c).take (a - c) = (P.drop c).take (a - c) := elt_ext (by simp [hl]) fun i hi => by
    simp at hi; rw [elt_take _ _ _ (by omega), elt_take _ _ _ (by omega), elt_drop, elt_drop, h.out _ (by omega)]
  have e2 : (P'.drop b).take (d - b) = (P.drop b).take (d - b) := elt_ext (by simp [hl]) fun i hi => by
    simp at hi; rw [elt_take _ _ _ (by omega), elt_take _ _ _ (by omega), elt_drop, elt_drop, h.out _ (by omega)]
  rw [e1, e2]
  exact List.Perm.append_left _ (List.Perm.append_right _ h.perm)
theorem Rg.all {P P' : List α} (h : Rg 0 P.length P P') : P'.Perm P := by
  have := h.perm
  simp only [List.drop_zero, Nat.sub_zero, List.take_length] at this
  rwa [← h.len, List.take_length] at this
/-- two places turned -/
def swp (P : List α) (i j : Nat) : List α := (P.set i (elt P j)).set j (elt P i)
theorem swp_len (P : List α) (i j : Nat) : (swp P i j).length = P.length := by simp [swp]
theorem elt_swp (P : List α) (i j x : Nat) (hi : i < P.length) (hj : j < P.length) : elt (swp P i j) x = if j = x then elt P i else if i = x then elt P j else elt P x := by
  unfold swp
  rw [elt_set _ _ _ _ (by simpa using hj), elt_set _ _ _ _ hi]
theorem set_perm (l : List α) (i : Nat) (z : α) (h : i < l.length) : (elt l i :: l.set i z).Perm (z :: l) := by
  induction l generalizing i with
  | nil => simp at h
  | cons a l ih =>
    cases i with
    | zero => simp only [elt, List.getD_cons_zero, List.set_cons_zero]; exact List.Perm.swap _ _ _
    | succ i =>
      have := ih i (by simpa using h)
      simp only [List.set_cons_succ]
      have e : elt (a :: l) (i + 1) = elt l i := by simp [elt]
      rw [e]
      exact (List.Perm.swap _ _ _).trans ((this.cons a).trans (List.Perm.swap _ _ _))
theorem swp_perm (P : List α) (i j : Nat) (hi : i < P.length) (hj : j < P.length) : (swp P i j).Perm P := by
  unfold swp
  have h1 := set_perm (P.set i (elt P j)) j (elt P i) (by simpa using hj)
  have h2 := set_perm P i (elt P j) hi
  rw [elt_set _ _ _ _ hi] at h1
  have e : (if i = j then elt P j else elt P j) = elt P j := by split <;> rfl
  rw [e] at h1
  exact (h1.trans h2).cons_inv
theorem swp_mid (P : List α) (a b i j : Nat) (hi : a ≤ i) (hib : i < b) (hj : a ≤ j) (hjb : j < b) (hb : b ≤ P.length) : Rg a b P (swp P i j) := by
  refine ⟨swp_len P i j, fun x hx => by rw [elt_swp _ _ _ _ (by omega) (by omega), if_neg (by omega), if_neg (by omega)], ?_⟩
  have e : ((swp P i j).drop a).take (b - a) = swp ((P.drop a).take (b - a)) (i - a) (j - a) := by
    refine elt_ext (by simp [swp_len]) fun x hx => ?_
    simp [swp_len] at hx
    rw [elt_take _ _ _ (by omega), elt_drop, elt_swp _ _ _ _ (by omega) (by omega), elt_swp _ _ _ _ (by simp; omega) (by simp; omega), elt_take _ _ (i - a) (by omega), elt_take _ _ (j - a) (by omega), elt_take _ _ x (by omega), elt_drop, elt_drop, elt_drop]
    rw [show a + (i - a) = i by omega, show a + (j - a) = j by omega]
    by_cases h1 : j = a + x
    · rw [if_pos h1, if_pos (show j - a = x by omega)]
    · rw [if_neg h1, if_neg (show ¬ j - a = x by omega)]
      by_cases h2 : i = a + x
      · rw [if_pos h2, if_pos (show i - a = x by omega)]
      · rw [if_neg h2, if_neg (show ¬ i - a = x by omega)]
  rw [e]
  exact swp_perm _ _ _ (by simp; omega) (by simp; omega)
variable (key : α → Int)
def Asc (lo hi : Nat) (P : List α) : Prop := ∀ i j, lo ≤ i → i ≤ j → j < hi → key (elt P i) ≤ key (elt P j)
variable {key}
theorem Asc.same {lo hi : Nat} {P Q : List α} (h : Asc key lo hi P) (e : ∀ x, lo ≤ x → x < hi → elt Q x = elt P x) : Asc key lo hi Q := fun i j h1 h2 h3 => by
  rw [e i h1 (by omega), e j (by omega) h3]; exact h i j h1 h2 h3
theorem Asc.sub {lo hi lo' hi' : Nat} {P : List α} (h : Asc key lo hi P) (h1 : lo ≤ lo') (h2 : hi' ≤ hi) : Asc key lo' hi' P := fun i j k1 k2 k3 => h i j (by omega) k2 (by omega)
theorem Asc.pair {P : List α} (h : Asc key 0 P.length P) : P.Pairwise (fun a b => key a ≤ key b) := by
  rw [List.pairwise_iff_getElem]
  intro i j hi hj hij
  have := h i j (by omega) (by omega) hj
  simpa [elt, hi, hj] using this
/-- a rotation, by places -/
theorem rot_at (A U V B : List α) (x : Nat) : elt (A ++ (V ++ (U ++ B))) x = if x < A.length then elt (A ++ (U ++ (V ++ B))) x else if x < A.length + V.length then elt (A ++ (U ++ (V ++ B))) (x + U.length) else if x < A.length + V.length + U.length then elt (A ++ (U ++ (V ++ B))) (x - V.length) else elt (A ++ (U ++ (V ++ B))) x := by
  by_cases h1 : x < A.length
  · rw [if_pos h1, elt_app1 _ _ _ h1, elt_app1 _ _ _ h1]
  · rw [if_neg h1, elt_app2 _ _ _ (by omega)]
    by_cases h2 : x < A.length + V.length
    · rw [if_pos h2, elt_app1 _ _ _ (by omega), elt_app2 A _ _ (by omega), elt_app2 U _ _ (by omega), elt_app1 V _ _ (by omega)]; congr 1; omega
    · rw [if_neg h2, elt_app2 _ _ _ (by omega)]
      by_cases h3 : x < A.length + V.length + U.length
      · rw [if_pos h3, elt_app1 _ _ _ (by omega), elt_app2 A _ _ (by omega), elt_app1 U _ _ (by omega)]; congr 1; omega
      · rw [if_neg h3, elt_app2 U _ _ (by omega), elt_app2 A _ _ (by omega), elt_app2 U _ _ (by omega), elt_app2 V _ _ (by omega)]; congr 1; omega
/-- what a rotation is -/
def Rot (a m b : Nat) (P P' : List α) : Prop := ∃ A U V B, P = A ++ (U ++ (V ++ B)) ∧ P' = A ++ (V ++ (U ++ B)) ∧ A.length = a ∧ U.length = m - a ∧ V.length = b - m
theorem Rot.rg {a m b : Nat} {P P' : List α} (h : Rot a m b P P') (h1 : a ≤ m) (h2 : m ≤ b) : Rg a b P P' := by
  obtain ⟨A, U, V, B, rfl, rfl, rfl, hu, hv⟩ := h
  refine ⟨by simp; omega, fun x hx => ?_, ?_⟩
  · rw [rot_at]
    rcases hx with hx | hx
    · rw [if_pos hx]
    · rw [if_neg (by omega), if_neg (by omega), if_neg (by omega)]
  · rw [List.drop_left' rfl, List.drop_left' rfl, ← List.append_assoc, ← List.append_assoc, List.take_left' (by simp; omega), List.take_left' (by simp; omega)]
    exact List.perm_append_comm
theorem Rot.at {a m b : Nat} {P P' : List α} (h : Rot a m b P P') (h1 : a ≤ m) (h2 : m ≤ b) (x : Nat) : elt P' x = if x < a then elt P x else if x < a + (b - m) then elt P (x + (m - a)) else if x < b then elt P (x - (b - m)) else elt P x := by
  obtain ⟨A, U, V, B, rfl, rfl, rfl, hu, hv⟩ := h
  rw [rot_at, hu, hv]
  rw [show A.length + (b - m) + (m - A.length) = b by omega]
theorem Rot.triv {β : Type} {a m b : Nat} {P : List β} (h1 : a ≤ m) (h2 : m ≤ b) (hb : b ≤ P.length) (h : m = a ∨ m = b) : Rot a m b P P := by
  refine ⟨P.take a, (P.drop a).take (m - a), (P.drop m).take (b - m), P.drop b, ?_, ?_, by simp; omega, by simp; omega, by simp; omega⟩
  · have e1 : (P.drop m).take (b - m) ++ P.drop b = P.drop m := by
      have := List.take_append_drop (b - m) (P.drop m)
      rw [List.drop_drop, show m + (b - m) = b by omega] at this; exact this
    have e2 : (P.drop a).take (m - a) ++ P.drop m = P.drop a := by
      have := List.take_append_drop (m - a) (P.drop a)
      rw [List.drop_drop, show a + (m - a) = m by omega] at this; exact this
    rw [e1, e2, List.take_append_drop]
  · rcases h with rfl | rfl
    · rw [Nat.sub_self, List.take_zero, List.nil_append]
      have e1 : (P.drop m).take (b - m) ++ P.drop b = P.drop m := by
        have := List.take_append_drop (b - m) (P.drop m)
        rw [List.drop_drop, show m + (b - m) = b by omega] at this; exact this
      rw [e1, List.take_append_drop]
    · rw [Nat.sub_self, List.take_zero, List.nil_append]
      have e2 : (P.drop a).take (m - a) ++ P.drop m = P.drop a := by
        have := List.take_append_drop (m - a) (P.drop a)
        rw [List.drop_drop, show a + (m - a) = m by omega] at this; exact this
      rw [e2, List.take_append_drop]
/-- SYMMERGE: behind the search and the rotation each part can be merged by itself. -/
theorem sym_parts {a m b mid st en : Nat} {P Q : List α} (h1 : Asc key a m P) (h2 : Asc key m b P) (ham : a < m) (hmb : m < b) (hmid : mid = (a + b) / 2) (hen : en = mid + m - st) (hs1 : a ≤ st) (hs2 : st ≤ m) (hs3 : st ≤ mid) (he1 : m ≤ en) (he2 : en ≤ b)
    (hlo : a < st → m ≤ en → en < b → key (elt P (st - 1)) ≤ key (elt P en)) (hhi : m < en → st < m → key (elt P (en - 1)) ≤ key (elt P st)) (hr : Rot st m en P Q) :
    Asc key a st Q ∧ Asc key st mid Q ∧ Asc key mid en Q ∧ Asc key en b Q ∧ ∀ x y, a ≤ x → x < mid → mid ≤ y → y < b → key (elt Q x) ≤ key (elt Q y) := by
  have ha := hr.at hs2 he1
  have em : st + (en - m) = mid := by omega
  rw [em] at ha
  have hA : ∀ x, x < st → elt Q x = elt P x := fun x h => by rw [ha, if_pos h]
  have hB : ∀ x, st ≤ x → x < mid → elt Q x = elt P (x + (m - st)) := fun x h h' => by rw [ha, if_neg (by omega), if_pos h']
  have hC : ∀ x, mid ≤ x → x < en → elt Q x = elt P (x - (en - m)) := fun x h h' => by rw [ha, if_neg (by omega), if_neg (by omega), if_pos h']
  have hD : ∀ x, en ≤ x → elt Q x = elt P x := fun x h => by rw [ha, if_neg (by omega), if_neg (by omega), if_neg (by omega)]
  clear ha hr
  refine ⟨h1.sub (Nat.le_refl _) hs2 |>.same fun x _ hx => hA x hx, ?_, ?_, h2.sub he1 (Nat.le_refl _) |>.same fun x hx _ => hD x hx, ?_⟩
  · intro i j k1 k2 k3
    rw [hB i k1 (by omega), hB j (by omega) k3]
    exact h2 _ _ (by omega) (by omega) (by omega)
  · intro i j k1 k2 k3
    rw [hC i k1 (by omega), hC j (by omega) k3]
    exact h1 _ _ (by omega) (by omega) (by omega)
  · intro x y k1 k2 k3 k4
    by_cases c1 : x < st
    · rw [hA x c1]
      by_cases c2 : y < en
      · rw [hC y k3 c2]; exact h1 _ _ (by omega) (by omega) (by omega)
      · rw [hD y (by omega)]
        have t1 := h1 x (st - 1) k1 (by omega) (by omega)
        have t2 := hlo (by omega) he1 (by omega)
        have t3 := h2 en y he1 (by omega) k4
        omega
    · rw [hB x (by omega) k2]
      by_cases c2 : y < en
      · rw [hC y k3 c2]
        have t1 := h2 (x + (m - st)) (en - 1) (by omega) (by omega) (by omega)
        have t2 := hhi (by omega) (by omega)
        have t3 := h1 st (y - (en - m)) hs1 (by omega) (by omega)
        omega
      · rw [hD y (by omega)]; exact h2 _ _ (by omega) (by omega) (by omega)
theorem sym_join {a mid b : Nat} {Q R S : List α} (h1 : a ≤ mid) (h2 : mid ≤ b) (hb : b ≤ Q.length) (hx : ∀ x y, a ≤ x → x < mid → mid ≤ y → y < b → key (elt Q x) ≤ key (elt Q y)) (r1 : Rg a mid Q R) (r2 : Rg mid b R S) (s1 : Asc key a mid R) (s2 : Asc key mid b S) : Asc key a b S ∧ Rg a b Q S := by
  refine ⟨fun i j k1 k2 k3 => ?_, (r1.wide (Nat.le_refl _) h2 h1 (by omega)).trans (r2.wide h1 (Nat.le_refl _) h2 (by rw [r1.len]; omega))⟩
  by_cases c1 : j < mid
  · rw [r2.out i (by omega), r2.out j (by omega)]; exact s1 i j k1 k2 c1
  · by_cases c2 : i < mid
    · obtain ⟨x, x1, x2, ex⟩ := r1.from (by omega) k1 c2
      obtain ⟨y, y1, y2, ey⟩ := r2.from (by rw [r1.len]; omega) (show mid ≤ j by omega) k3
      rw [r2.out i (by omega), ex, ey, r1.out y (by omega)]
      exact hx x y x1 x2 y1 y2
    · exact s2 i j (by omega) k2 k3
/-- one element moved down into what is sorted -/
theorem ins_asc {lo i p : Nat} {P Q : List α} (h1 : Asc key lo i P) (hp1 : lo ≤ p) (hp2 : p ≤ i) (e1 : ∀ x, x < p → elt Q x = elt P x) (e2 : elt Q p = elt P i) (e3 : ∀ x, p < x → x ≤ i → elt Q x = elt P (x - 1))
    (hlo : lo < p → key (elt P (p - 1)) ≤ key (elt P i)) (hhi : p < i → key (elt P i) ≤ key (elt P p)) : Asc key lo (i + 1) Q := by
  intro x y k1 k2 k3
  by_cases c1 : x < p
  · rw [e1 x c1]
    by_cases c2 : y < p
    · rw [e1 y c2]; exact h1 x y k1 k2 (by omega)
    · by_cases c3 : y = p
      · rw [c3, e2]; have := h1 x (p - 1) k1 (by omega) (by omega); have := hlo (by omega); omega
      · rw [e3 y (by omega) (by omega)]; exact h1 x (y - 1) k1 (by omega) (by omega)
  · by_cases c2 : x = p
    · rw [c2, e2]
      by_cases c3 : y = p
      · rw [c3, e2]; exact Int.le_refl _
      · rw [e3 y (by omega) (by omega)]
        have := h1 p (y - 1) (by omega) (by omega) (by omega); have := hhi (by omega); omega
    · rw [e3 x (by omega) (by omega), e3 y (by omega) (by omega)]
      exact h1 (x - 1) (y - 1) (by omega) (by omega) (by omega)
end
section
variable {α : Type} [Inhabited α] {key : α → Int}
/-- the element i moved down to j -/
structure Dn (i j : Nat) (P Q : List α) : Prop where
  len : Q.length = P.length
  lo : ∀ x, x < j → elt Q x = elt P x
  eq : elt Q j = elt P i
  mid : ∀ x, j < x → x ≤ i → elt Q x = elt P (x - 1)
  hi : ∀ x, i < x → elt Q x = elt P x
theorem Dn.refl (i : Nat) (P : List α) : Dn i i P P := ⟨rfl, fun _ _ => rfl, rfl, fun x h1 h2 => by omega, fun _ _ => rfl⟩
theorem Dn.step {i j : Nat} {P Q : List α} (h : Dn i j P Q) (h1 : 0 < j) (h2 : j ≤ i) (h3 : i < P.length) : Dn i (j - 1) P (swp Q j (j - 1)) := by
  have hl := h.len
  have e := fun x => elt_swp Q j (j - 1) x (by omega) (by omega)
  refine ⟨by rw [swp_len, hl], fun x hx => ?_, ?_, fun x k1 k2 => ?_, fun x hx => ?_⟩
  · rw [e, if_neg (by omega), if_neg (by omega), h.lo x (by omega)]
  · rw [e, if_pos rfl, h.eq]
  · rw [e, if_neg (by omega)]
    by_cases c : j = x
    · rw [if_pos c, h.lo _ (by omega), c]
    · rw [if_neg c, h.mid x (by omega) k2]
  · rw [e, if_neg (by omega), if_neg (by omega), h.hi x hx]
theorem Dn.asc {lo i p : Nat} {P Q : List α} (h : Dn i p P Q) (h1 : Asc key lo i P) (hp1 : lo ≤ p) (hp2 : p ≤ i) (hlo : lo < p → key (elt P (p - 1)) ≤ key (elt P i)) (hhi : p < i → key (elt P i) ≤ key (elt P p)) : Asc key lo (i + 1) Q :=
  ins_asc h1 hp1 hp2 h.lo h.eq h.mid hlo hhi
/-- the element a moved up to k -/
structure Upw (a k : Nat) (P Q : List α) : Prop where
  len : Q.length = P.length
  lo : ∀ x, x < a → elt Q x = elt P x
  mid : ∀ x, a ≤ x → x < k → elt Q x = elt P (x + 1)
  eq : elt Q k = elt P a
  hi : ∀ x, k < x → elt Q x = elt P x
theorem Upw.refl (i : Nat) (P : List α) : Upw i i P P := ⟨rfl, fun _ _ => rfl, fun x h1 h2 => by omega, rfl, fun _ _ => rfl⟩
theorem Upw.step {a k : Nat} {P Q : List α} (h : Upw a k P Q) (h1 : a ≤ k) (h3 : k + 1 < P.length) : Upw a (k + 1) P (swp Q k (k + 1)) := by
  have hl := h.len
  have e := fun x => elt_swp Q k (k + 1) x (by omega) (by omega)
  refine ⟨by rw [swp_len, hl], fun x hx => ?_, fun x k1 k2 => ?_, ?_, fun x hx => ?_⟩
  · rw [e, if_neg (by omega), if_neg (by omega), h.lo x hx]
  · rw [e, if_neg (by omega)]
    by_cases c : k = x
    · rw [if_pos c, h.hi _ (by omega), c]
    · rw [if_neg c, h.mid x k1 (by omega)]
  · rw [e, if_pos rfl, h.eq]
  · rw [e, if_neg (by omega), if_neg (by omega), h.hi x (by omega)]
theorem Upw.asc {a p b : Nat} {P Q : List α} (h : Upw a p P Q) (h1 : Asc key (a + 1) b P) (hp1 : a ≤ p) (hp2 : p < b) (hlo : a < p → key (elt P p) ≤ key (elt P a)) (hhi : p + 1 < b → key (elt P a) ≤ key (elt P (p + 1))) : Asc key a b Q := by
  intro x y k1 k2 k3
  by_cases c1 : x < p
  · rw [h.mid x k1 c1]
    by_cases c2 : y < p
    · rw [h.mid y (by omega) c2]; exact h1 _ _ (by omega) (by omega) (by omega)
    · by_cases c3 : y = p
      · rw [c3, h.eq]; have := h1 (x + 1) p (by omega) (by omega) (by omega); have := hlo (by omega); omega
      · rw [h.hi y (by omega)]; exact h1 _ _ (by omega) (by omega) (by omega)
  · by_cases c2 : x = p
    · rw [c2, h.eq]
      by_cases c3 : y = p
      · rw [c3, h.eq]; exact Int.le_refl _
      · rw [h.hi y (by omega)]
        have := hhi (by omega); have := h1 (p + 1) y (by omega) (by omega) (by omega); omega
    · rw [h.hi x (by omega), h.hi y (by omega)]; exact h1 _ _ (by omega) (by omega) (by omega)
/-- t places from a on and from b on turned -/
structure Swr (a b t : Nat) (P Q : List α) : Prop where
  len : Q.length = P.length
  one : ∀ x, a ≤ x → x < a + t → elt Q x = elt P (x - a + b)
  two : ∀ x, b ≤ x → x < b + t → elt Q x = elt P (x - b + a)
  out : ∀ x, (x < a ∨ a + t ≤ x) → (x < b ∨ b + t ≤ x) → elt Q x = elt P x
theorem Swr.refl (a b : Nat) (P : List α) : Swr a b 0 P P := ⟨rfl, fun x h1 h2 => by omega, fun x h1 h2 => by omega, fun _ _ _ => rfl⟩
theorem Swr.step {a b t : Nat} {P Q : List α} (h : Swr a b t P Q) (h1 : a + t < b) (h2 : b + t < P.length) : Swr a b (t + 1) P (swp Q (a + t) (b + t)) := by
  have hl := h.len
  have e := fun x => elt_swp Q (a + t) (b + t) x (by omega) (by omega)
  refine ⟨by rw [swp_len, hl], fun x k1 k2 => ?_, fun x k1 k2 => ?_, fun x k1 k2 => ?_⟩
  · rw [e, if_neg (by omega)]
    by_cases c : a + t = x
    · rw [if_pos c, h.out _ (by omega) (by omega)]; congr 1; omega
    · rw [if_neg c, h.one x k1 (by omega)]
  · rw [e]
    by_cases c : b + t = x
    · rw [if_pos c, h.out _ (by omega) (by omega)]; congr 1; omega
    · rw [if_neg c, if_neg (by omega), h.two x k1 (by omega)]
  · rw [e, if_neg (by omega), if_neg (by omega), h.out x (by omega) (by omega)]
theorem Swr.blocks {A U C V B Q : List α} {n : Nat} (hu : U.length = n) (hv : V.length = n) (h : Swr A.length (A.length + n + C.length) n (A ++ (U ++ (C ++ (V ++ B)))) Q) : Q = A ++ (V ++ (C ++ (U ++ B))) := by
  have hl := h.len
  refine elt_ext (by rw [hl]; simp; omega) fun x hx => ?_
  rw [hl] at hx
  simp at hx
  by_cases c1 : x < A.length
  · rw [h.out x (by omega) (by omega), elt_app1 _ _ _ c1, elt_app1 _ _ _ c1]
  · rw [elt_app2 A (V ++ (C ++ (U ++ B))) _ (by omega)]
    by_cases c2 : x < A.length + n
    · rw [h.one x (by omega) c2, elt_app1 V _ _ (by omega), elt_app2 A _ _ (by omega), elt_app2 U _ _ (by omega), elt_app2 C _ _ (by omega), elt_app1 V _ _ (by omega)]; congr 1; omega
    · rw [elt_app2 V (C ++ (U ++ B)) _ (by omega)]
      by_cases c3 : x < A.length + n + C.length
      · rw [h.out x (by omega) (by omega), elt_app1 C (U ++ B) _ (by omega), elt_app2 A _ _ (by omega), elt_app2 U _ _ (by omega), elt_app1 C _ _ (by omega)]; congr 1; omega
      · rw [elt_app2 C (U ++ B) _ (by omega)]
        by_cases c4 : x < A.length + n + C.length + n
        · rw [h.two x (by omega) c4, elt_app1 U B _ (by omega), elt_app2 A _ _ (by omega), elt_app1 U _ _ (by omega)]; congr 1; omega
        · rw [h.out x (by omega) (by omega), elt_app2 U B _ (by omega), elt_app2 A _ _ (by omega), elt_app2 U _ _ (by omega), elt_app2 C _ _ (by omega), elt_app2 V _ _ (by omega)]; congr 1; omega
/-- one step of a rotation -/
theorem Rot.left {A U V B Q : List α} {i j : Nat} (hu : U.length = i) (hv : V.length = j) (hij : j ≤ i) (h : Swr A.length (A.length + i) j (A ++ (U ++ (V ++ B))) Q) :
    ∃ U1 U2, U = U1 ++ U2 ∧ U1.length = j ∧ U2.length = i - j ∧ Q = (A ++ V) ++ (U2 ++ (U1 ++ B)) ∧ A ++ (V ++ (U ++ B)) = (A ++ V) ++ (U1 ++ (U2 ++ B)) := by
  have e : U = U.take j ++ U.drop j := (List.take_append_drop _ _).symm
  refine ⟨U.take j, U.drop j, e, by simp; omega, by simp; omega, ?_, ?_⟩
  · rw [e, List.append_assoc] at h
    have := Swr.blocks (A := A) (U := U.take j) (C := U.drop j) (V := V) (B := B) (n := j) (Q := Q) (by simp; omega) hv (by
      rw [show A.length + j + (U.drop j).length = A.length + i by simp; omega]; exact h)
    rw [this, List.append_assoc]
  · conv => lhs; rw [e]
    simp only [List.append_assoc]
theorem Rot.right {A U V B Q : List α} {i j : Nat} (hu : U.length = i) (hv : V.length = j) (hij : i ≤ j) (h : Swr A.length (A.length + j) i (A ++ (U ++ (V ++ B))) Q) :
    ∃ V1 V2, V = V1 ++ V2 ∧ V1.length = j - i ∧ V2.length = i ∧ Q = A ++ (V2 ++ (V1 ++ (U ++ B))) ∧ A ++ (V ++ (U ++ B)) = A ++ (V1 ++ (V2 ++ (U ++ B))) := by
  have e : V = V.take (j - i) ++ V.drop (j - i) := (List.take_append_drop _ _).symm
  refine ⟨V.take (j - i), V.drop (j - i), e, by simp; omega, by simp; omega, ?_, ?_⟩
  · rw [e, List.append_assoc] at h
    have := Swr.blocks (A := A) (U := U) (C := V.take (j - i)) (V := V.drop (j - i)) (B := B) (n := i) (Q := Q) hu (by simp; omega) (by
      rw [show A.length + i + (V.take (j - i)).length = A.length + j by simp; omega]; exact h)
    exact this
  · conv => lhs; rw [e]
    simp only [List.append_assoc]
end
end Go.Proofs.YtehbjhocgnfpmaaDoor

/- Rows of records: elements of s cells, each the encoding of something. -/
namespace Go.Proofs.YtehbjhocgnfpmaaDoor
set_option maxRecDepth 100000
open Go.RowKit
set_option linter.unusedVariables false
theorem flat_len {α : Type} (enc : α → List Value) (m : Nat) (he : ∀ x, (enc x).length = m) (l : List α) : (l.flatMap enc).length = l.length * m := by
  induction l with
  | nil => simp
  | cons x l ih => rw [List.flatMap_cons, List.length_append, ih, he, List.length_cons, Nat.add_mul, Nat.one_mul, Nat.add_comm]
theorem setCells_row (w : World) (g : Nat) (t : TypeId) (A B D : List Value) : ∀ (vs B A : List Value) (w : World) (cur : Array Value), w.heap[g]? = some (.cells cur t) → cur.toList = A ++ (B ++ D) → B.length = vs.length → ∃ cur' : Array Value, (w.setCells g A.length vs).heap[g]? = some (.cells cur' t) ∧ cur'.toList = A ++ (vs ++ D) ∧ Only [g] w (w.setCells g A.length vs)
  | [], [], A, w, cur, h, e, _ => ⟨cur, h, e, ⟨rfl, rfl, rfl, Nat.le_refl _, fun _ _ _ => rfl⟩⟩
  | [], _ :: _, A, w, cur, h, e, hl => by simp at hl
  | _ :: _, [], A, w, cur, h, e, hl => by simp at hl
  | v :: vs, b :: B, A, w, cur, h, e, hl => by
    have h1 := heap_setCell_same w g A.length cur t v h
    have e1 : (cur.setIfInBounds A.length v).toList = (A ++ [v]) ++ (B ++ D) := by
      rw [Array.toList_setIfInBounds, e]; simp
    obtain ⟨cur', h2, h3, h4⟩ := setCells_row w g t A B D vs B (A ++ [v]) _ _ h1 e1 (by simpa using hl)
    have e2 : w.setCells g A.length (v :: vs) = (w.setCell ⟨g, A.length, none⟩ v).setCells g (A ++ [v]).length vs := by
      rw [World.setCells, List.length_append]; rfl
    rw [e2]
    have h5 := Only.setCell w ⟨g, A.length, none⟩ v
    exact ⟨cur', h2, by rw [h3]; simp, ⟨h4.os.trans h5.os, h4.tape.trans h5.tape, h4.output.trans h5.output, Nat.le_trans h5.size h4.size, fun k hk hm => (h4.block k (Nat.lt_of_lt_of_le hk h5.size) hm).trans (h5.block k hk hm)⟩⟩
section
variable {α : Type} [Inhabited α]
theorem flat_at (enc : α → List Value) (m : Nat) (he : ∀ x, (enc x).length = m) : ∀ (l : List α) (j : Nat), j < l.length → ((l.flatMap enc).drop (j * m)).take m = enc (elt l j)
  | [], j, h => by simp at h
  | x :: l, 0, h => by rw [Nat.zero_mul, List.drop_zero, List.flatMap_cons, List.take_left' (he x)]; simp [elt]
  | x :: l, j + 1, h => by
    rw [List.flatMap_cons, Nat.add_mul, Nat.one_mul, Nat.add_comm, ← List.drop_drop, List.drop_left' (he x), flat_at enc m he l j (by simpa using h)]
    simp [elt]
theorem flat_set (enc : α → List Value) (m : Nat) (he : ∀ x, (enc x).length = m) (z : α) : ∀ (l : List α) (j : Nat), j < l.length → ∃ A B, l.flatMap enc = A ++ (enc (elt l j) ++ B) ∧ (l.set j z).flatMap enc = A ++ (enc z ++ B) ∧ A.length = j * m
  | [], j, h => by simp at h
  | x :: l, 0, h => ⟨[], l.flatMap enc, by simp [elt], by simp, by simp⟩
  | x :: l, j + 1, h => by
    obtain ⟨A, B, e1, e2, e3⟩ := flat_set enc m he z l j (by simpa using h)
    refine ⟨enc x ++ A, B, ?_, ?_, ?_⟩
    · rw [List.flatMap_cons, e1, List.append_assoc]; simp [elt]
    · rw [List.set_cons_succ, List.flatMap_cons, e2, List.append_assoc]
    · rw [List.length_append, he, e3, Nat.add_mul, Nat.one_mul, Nat.add_comm]
end
section
variable {α : Type} {P : Program} {W w : World} {rs rs' : List Res} {Q : Exit → Act → World → Prop} {K : Act → World → Prop} {o : Oper} {a : Act}
theorem own_recs {e : TypeId} {n c m : Nat} {ad : Option Addr} {enc : α → List Value} {l : List α} (hS : St W w rs) (hp : Pull (own e m ad n c (l.flatMap enc)) rs rs') (he : ∀ x, (enc x).length = m) (hm : 0 < m) : l.length = n := by
  have := (hS.own hp).1
  rw [flat_len enc m he] at this
  exact Nat.eq_of_mul_eq_mul_right hm this
theorem wp_loadE (hS : St W w rs) (ty : TypeId) (x : Operand) (ho : o.op = .load ty x) (g q : Nat) (hx : a.eval x = .pointer (some ⟨g, q, none⟩)) (m : Nat) (h1 : RowN P ty m) (e : TypeId) (n c : Nat) (l : List α) (enc : α → List Value) (hp : Pull (own e m (some ⟨g, 0, none⟩) n c (l.flatMap enc)) rs rs')
    (inst : Inhabited α) (he : ∀ x, (enc x).length = m) (j : Nat) (hq : q = j * m) (hj : j < n) (h : K (a.put o.dst (.agg (enc (elt l j)).toArray)) w) : o.wp P a w K Q := by
  subst hq
  have hl := (hS.own hp).1
  rw [flat_len enc m he] at hl
  refine wp_loadR ty x ho g _ hx m h1 (enc (elt l j)) (he _) ?_ h
  have := own_range (off := j * m) (m := m) hS hp
  rcases Nat.eq_zero_or_pos m with h0 | h0
  · have e0 : enc (elt l j) = [] := List.eq_nil_of_length_eq_zero (by rw [he, h0])
    rw [e0]; intro i v hv; simp at hv
  · have hln : l.length = n := Nat.eq_of_mul_eq_mul_right h0 hl
    rwa [flat_at enc m he l j (by omega)] at this
theorem wp_load1E (hS : St W w rs) (ty : TypeId) (x : Operand) (ho : o.op = .load ty x) (g q : Nat) (hx : a.eval x = .pointer (some ⟨g, q, none⟩)) (h1 : One P ty) (e : TypeId) (m n c : Nat) (l : List α) (enc : α → List Value) (hp : Pull (own e m (some ⟨g, 0, none⟩) n c (l.flatMap enc)) rs rs')
    (inst : Inhabited α) (he : ∀ x, (enc x).length = m) (j f : Nat) (hq : q = j * m + f) (hj : j < n) (v : Value) (hv : (enc (elt l j))[f]? = some v) (h : K (a.put o.dst v) w) : o.wp P a w K Q := by
  subst hq
  have hf : f < m := by rw [← he (elt l j)]; exact (List.getElem?_eq_some_iff.1 hv).1
  have hl := own_recs hS hp he (by omega)
  refine wp_load1O hS ty x ho g _ hx h1 e m n c _ hp v ?_ h
  have := flat_at enc m he l j (by omega)
  rw [← this, List.getElem?_take, if_pos hf, List.getElem?_drop] at hv
  exact hv
theorem wp_load1E0 (hS : St W w rs) (ty : TypeId) (x : Operand) (ho : o.op = .load ty x) (g q : Nat) (hx : a.eval x = .pointer (some ⟨g, q, none⟩)) (h1 : One P ty) (e : TypeId) (m n c : Nat) (l : List α) (enc : α → List Value) (hp : Pull (own e m (some ⟨g, 0, none⟩) n c (l.flatMap enc)) rs rs')
    (inst : Inhabited α) (he : ∀ x, (enc x).length = m) (j : Nat) (hq : q = j * m) (hj : j < n) (v : Value) (hv : (enc (elt l j))[0]? = some v) (h : K (a.put o.dst v) w) : o.wp P a w K Q :=
  wp_load1E hS ty x ho g q hx h1 e m n c l enc hp inst he j 0 hq hj v hv h
theorem wp_storeE (hS : St W w rs) (ty : TypeId) (x y : Operand) (ho : o.op = .store ty x y) (g q : Nat) (hx : a.eval x = .pointer (some ⟨g, q, none⟩)) (m : Nat) (h1 : RowN P ty m) (e : TypeId) (n c : Nat) (l : List α) (enc : α → List Value) (hp : Pull (own e m (some ⟨g, 0, none⟩) n c (l.flatMap enc)) rs rs')
    (inst : Inhabited α) (he : ∀ x, (enc x).length = m) (hone : ∀ x, (enc x).all (·.oneCell') = true) (j : Nat) (hq : q = j * m) (hj : j < n) (z : α) (hy : a.eval y = .agg (enc z).toArray) (hd : o.dst = none) (h : ∀ w', St W w' (own e m (some ⟨g, 0, none⟩) n c ((l.set j z).flatMap enc) :: rs') → K a w') : o.wp P a w K Q := by
  subst hq
  have hown := hS.own hp
  have hlen := hown.1
  rw [flat_len enc m he] at hlen
  rcases hown.2 with ⟨h2, _⟩ | ⟨g', cap, cur, h2, hb, hg, hn, hc, hsz, htake⟩
  · cases h2
  · cases h2
    have hln : m = 0 ∨ l.length = n := by
      rcases Nat.eq_zero_or_pos m with h0 | h0
      · exact .inl h0
      · exact .inr (Nat.eq_of_mul_eq_mul_right h0 hlen)
    have hjm : j * m + m ≤ n * m := by have := Nat.mul_le_mul_right m hj; rwa [Nat.succ_mul] at this
    have hcm : n * m ≤ c * m := Nat.mul_le_mul_right m hn
    refine wp_store_mid ty x y ho g (j * m) (enc z).toArray hx hy ?_ (by rw [h1.2]; simp [he]) (by simpa using hone z) ?_
    · intro i hi
      rw [List.size_toArray, he] at hi
      refine ⟨?_, frozen_of_row w g _ cur e hg⟩
      have := own_cell hS hp (k := j * m + i) (v := (l.flatMap enc)[j * m + i]'(by rw [flat_len enc m he]; omega)) (by rw [List.getElem?_eq_getElem])
      rw [this]; rfl
    · rw [show a.put o.dst undef = a by rw [hd]; rfl]
      refine h _ ?_
      refine St.change (rs1 := [own e m (some ⟨g, 0, none⟩) n c ((l.set j z).flatMap enc)]) (hS.pull hp) fun f1 k1 _ _ => ?_
      obtain ⟨rfl, _⟩ := k1
      rcases hln with h0 | hln
      · have e0 : ∀ y, enc y = [] := fun y => List.eq_nil_of_length_eq_zero (by rw [he, h0])
        have e1 : ∀ l : List α, l.flatMap enc = [] := fun l => List.eq_nil_of_length_eq_zero (by rw [flat_len enc m he, h0, Nat.mul_zero])
        rw [e0, e1]
        refine ⟨[g], ⟨[g], [], rfl, ⟨rfl, by simp [h0], .inr ⟨g, c, cur, rfl, hb, hg, hn, hc, hsz, by rw [h0]; simp⟩⟩, rfl⟩, by simp, fun b hb => .inl hb, ⟨rfl, rfl, rfl, Nat.le_refl _, fun _ _ _ => rfl⟩⟩
      · obtain ⟨A, B, e1, e2, e3⟩ := flat_set enc m he z l j (by omega)
        have ecur : cur.toList = A ++ (enc (elt l j) ++ (B ++ cur.toList.drop (n * m))) := by
          conv => lhs; rw [← List.take_append_drop (n * m) cur.toList, htake, e1]
          simp
        obtain ⟨cur', k2, k3, k4⟩ := setCells_row w g e [] [] (B ++ cur.toList.drop (n * m)) (enc z) (enc (elt l j)) A w cur hg ecur (by rw [he, he])
        rw [← e3]
        have hAB : (A ++ (enc z ++ B)).length = n * m := by rw [← e2, flat_len enc m he, List.length_set, hln]
        refine ⟨[g], ⟨[g], [], rfl, ⟨rfl, by rw [flat_len enc m he, List.length_set, hln], .inr ⟨g, c, cur', rfl, hb, k2, hn, hc, ?_, ?_⟩⟩, rfl⟩, by simp, fun b hb => .inl hb, k4⟩
        · have a1 := congrArg List.length k3
          have a2 := congrArg List.length ecur
          simp only [List.length_append, Array.length_toList, he] at a1 a2
          omega
        · have a3 : cur'.toList = (A ++ (enc z ++ B)) ++ cur.toList.drop (n * m) := by rw [k3]; simp
          rw [a3, List.take_left' hAB, e2]
end
/-- A record of an integer and a slice. -/
structure PkV where
  w : Int
  ad : Option Addr
  n : Nat
  c : Nat
instance : Inhabited PkV := ⟨⟨0, none, 0, 0⟩⟩
def pkE (p : PkV) : List Value := [.int .i64 p.w, .slice p.ad p.n p.c]
theorem pkE_len : ∀ p, (pkE p).length = 2 := fun _ => rfl
theorem pkE_one : ∀ p, (pkE p).all (·.oneCell') = true := fun _ => rfl
end Go.Proofs.YtehbjhocgnfpmaaDoor

/- The walks of slices.SortStableFunc over packs: insertion, rotation, SymMerge. -/
namespace Go.Proofs.YtehbjhocgnfpmaaDoor
set_option maxRecDepth 100000
open Go.RowKit
set_option linter.unusedVariables false
def cmpv (x y : Int) : Int := if x < y then -1 else if y < x then 1 else 0
theorem isNaN_any (w : World) (x : Int) : Calls Tryd.prog 102 #[.int .i64 x] w fun e w' => e = .returned (.bool false) ∧ Ext w w' := by
  have hS := St.start w
  go_enter Tryd.func102, Tryd.ntmps102
  repeat' (first
    | ((with_reducible apply gt9 _ (.move _)); (first | go_big_want | go_step); go_step) | ((with_reducible apply gt9 _ (.assign _)); (first | go_big_want | go_step); go_step) | ((with_reducible apply gt9 _ (.binOp .neq 3 _ _ _)); (refine wvv9 (V.neq rfl rfl) ?_; go_step)) | ((fail_if_success with_reducible apply ga9); go_step))
  all_goals go_ret
  all_goals exact ⟨by simp, hS.1⟩
theorem compare_any (w : World) (x y : Int) : Calls Tryd.prog 85 #[.int .i64 x, .int .i64 y] w fun e w' => e = .returned (.int .i64 (cmpv x y)) ∧ Ext w w' := by
  have hS := St.start w
  go_enter Tryd.func85, Tryd.ntmps85
  repeat' (first
    | ((with_reducible apply gt9 _ (.call ⟨.value (.func 102), _, _⟩)); refine wpl_call (f := 102) Tryd.call102 (by kernel_rfl) ?_; refine ⟨_, (isNaN_any _ _), ?_⟩; rintro e w ⟨rfl, hE2⟩; replace hS := hS.ext hE2; clear hE2; refine ⟨_, rfl, ?_⟩; refine put_move ?_; go_step) | ((with_reducible apply gt9 _ (.move _)); (first | go_big_want | go_step); go_step) | ((with_reducible apply gt9 _ (.assign _)); (first | go_big_want | go_step); go_step) | ((with_reducible apply gt9 _ (.binOp .lss _ _ _ _)); (refine wvv9 (V.lss rfl rfl) ?_; go_step)) | ((with_reducible apply gt9 _ (.binOp .gtr _ _ _ _)); (refine wvv9 (V.gtr rfl rfl) ?_; go_step)) | ((fail_if_success with_reducible apply ga9); go_step))
  all_goals go_ret
  all_goals (refine ⟨?_, hS.1⟩; unfold cmpv; first | (rw [if_pos (by omega)]; rfl) | (rw [if_neg (by omega), if_pos (by omega)]; rfl) | (rw [if_neg (by omega), if_neg (by omega)]; rfl))
theorem byWeight_any (w : World) (p q : PkV) : Calls Tryd.prog 67 #[.agg (pkE p).toArray, .agg (pkE q).toArray] w fun e w' => e = .returned (.int .i64 (cmpv p.w q.w)) ∧ Ext w w' := by
  have hS := St.start w
  obtain ⟨x, ap, np, cp⟩ := p
  obtain ⟨y, aq, nq, cq⟩ := q
  simp only [pkE]
  go_enter Tryd.func67, Tryd.ntmps67
  repeat' (first
    | ((with_reducible apply gt9 _ (.call ⟨.value (.func 85), _, _⟩)); refine wpl_call (f := 85) Tryd.call85 (by kernel_rfl) ?_; refine ⟨_, (compare_any _ _ _), ?_⟩; rintro e w ⟨rfl, hE2⟩; replace hS := hS.ext hE2; clear hE2; refine ⟨_, rfl, ?_⟩; refine put_move ?_; go_step) | ((with_reducible apply gt9 _ (.assign _)); (first | go_big_want | go_step); go_step) | ((with_reducible apply gt9 _ (.fieldAddr 133 _ 0)); (refine wvv9 (V.fieldAddr fo133_0 rfl nq9) ?_; go_step)) | ((with_reducible apply gt9 (some 2) (.box 133 _)); (refine wpl (by kernel_rfl) ?_; apply wp_boxG (o := ⟨some 2, _, _, _, _, _⟩) hS 133 _ rfl _ rfl; clear hS; intro g2 w hS; refine put_move ?_; go_step)) | ((with_reducible apply gt9 (some 3) (.box 133 _)); (refine wpl (by kernel_rfl) ?_; apply wp_boxG (o := ⟨some 3, _, _, _, _, _⟩) hS 133 _ rfl _ rfl; clear hS; intro g3 w hS; refine put_move ?_; go_step)) | ((with_reducible apply gt9 _ (.load 3 _)); (refine wpl (by kernel_rfl) ?_; apply wp_load1 hS 3 _ rfl _ _ rfl (one_of rfl) _; (case hp => exact pl9); (case hc => rfl); refine put_move ?_; go_step)) | ((fail_if_success with_reducible apply ga9); go_step))
  all_goals go_ret
  all_goals exact ⟨rfl, hS.1⟩
/-- The packs of the call's own. -/
abbrev pks (g n c : Nat) (P : List PkV) : Res := own 133 2 (some ⟨g, 0, none⟩) n c (P.flatMap pkE)
theorem swapRange_any (W w0 : World) (rs rs' : List Res) (g n c a b k : Nat) (P : List PkV) (hS : St W w0 rs) (hp : Pull (pks g n c P) rs rs') (hab : a + k ≤ b) (hb : b + k ≤ n) (hn : n ≤ 1000000) (K : Value) :
    Calls Tryd.prog 112 #[.slice (some ⟨g, 0, none⟩) n c, .int .i64 a, .int .i64 b, .int .i64 k, K] w0 fun e w => e = .returned (.tuple #[]) ∧ ∃ Q, Swr a b k P Q ∧ St W w (pks g n c Q :: rs') := by
  replace hS := hS.pull hp
  have he := pkE_len
  have h1e := pkE_one
  have hPl := own_recs hS Pull.head pkE_len (by decide)
  go_enter Tryd.func112, Tryd.ntmps112
  repeat' (first
    | ((with_reducible apply gt9 _ (.assign _)); (first | go_big_want | go_step); go_step) | ((fail_if_success with_reducible apply ga9); go_step))
  go_loopg [10] k (fun gk iv w => ∃ (i : Nat) (Q : List PkV), gk + i = k ∧ iv = .int .i64 i ∧ Swr a b i P Q ∧ St W w (pks g n c Q :: rs'))
  case atStart => exact ⟨0, P, by omega, rfl, Swr.refl a b P, hS⟩
  case round =>
    clear hS
    obtain ⟨i, Q, hi, rfl, hQ, hS⟩ := hrel
    by_cases hlt : i < k
    · have hQ2 := hQ.step (by omega) (by omega)
      have HQ := hid hQ2
      clear hQ hQ2
      repeat' (first
        | ((with_reducible apply gt9 _ (.move _)); (first | go_big_want | go_step); go_step) | ((with_reducible apply gt9 (some 13) (.binOp .lss _ _ _ _)); (refine wvv9 (V.lss rfl rfl) ?_; go_step)) | ((fail_if_success with_reducible apply ga9); go_step))
      refine drawn_lit [21, 23] (fun w => St W w (pks g n c Q :: rs')) (by kernel_rfl) ?_
      replace hS := hS.drew
      focus
        refine takeM 0 _ al9 (by kernel_rfl) (by kernel_rfl) (by kernel_rfl) (by exact fun _ _ _ _ h => h) rfl ?_
        go_step
        refine takeM 1 _ al9 (by kernel_rfl) (by kernel_rfl) (by kernel_rfl) (by exact fun _ _ _ _ h => h) rfl ?_
        go_step
        refine takeM 2 _ al9 (by kernel_rfl) (by kernel_rfl) (by kernel_rfl) (by exact fun _ _ _ _ h => h) rfl ?_
        go_step
        (refine takeV 3 (.int _ (((a + i : Nat) : Int))) al9 (by kernel_rfl) (by kernel_rfl) (by kernel_rfl) (by exact fun _ _ _ _ h => h) (V.as (V.addI rfl rfl (by omega)) (by omega)) rfl ?_)
        go_step
        refine takeM 4 _ al9 (by kernel_rfl) (by kernel_rfl) (by kernel_rfl) (by exact fun _ _ _ _ h => h) rfl ?_
        go_step
        refine takeM 5 _ al9 (by kernel_rfl) (by kernel_rfl) (by kernel_rfl) (by exact fun _ _ _ _ h => h) rfl ?_
        go_step
        refine takeM 6 _ al9 (by kernel_rfl) (by kernel_rfl) (by kernel_rfl) (by exact fun _ _ _ _ h => h) rfl ?_
        go_step
        (refine takeV 7 (.int _ (((b + i : Nat) : Int))) al9 (by kernel_rfl) (by kernel_rfl) (by kernel_rfl) (by exact fun _ _ _ _ h => h) (V.as (V.addI rfl rfl (by omega)) (by omega)) rfl ?_)
        go_step
        refine takeM 8 _ al9 (by kernel_rfl) (by kernel_rfl) (by kernel_rfl) (by exact fun _ _ _ _ h => h) rfl ?_
        go_step
        refine takeM 9 _ al9 (by kernel_rfl) (by kernel_rfl) (by kernel_rfl) (by exact fun _ _ _ _ h => h) rfl ?_
        go_step
        refine takeM 10 _ al9 (by kernel_rfl) (by kernel_rfl) (by kernel_rfl) (by exact fun _ _ _ _ h => h) rfl ?_
        go_step
        (refine takeV 11 (.int _ (((b + i : Nat) : Int))) al9 (by kernel_rfl) (by kernel_rfl) (by kernel_rfl) (by exact fun _ _ _ _ h => h) (V.as (V.addI rfl rfl (by omega)) (by omega)) rfl ?_)
        go_step
        (refine takeV 12 _ al9 (by kernel_rfl) (by kernel_rfl) (by kernel_rfl) (by exact fun _ _ _ _ h => h) (V.indexSl Tryd.underlying134 isz133 rfl rfl isn9 (by omega) rfl nq9) rfl ?_)
        go_step
        apply takeS 13 al9 (by kernel_rfl) (by kernel_rfl) (by kernel_rfl) (by exact fun _ _ _ _ h => h) [20, 21, 22, 23] (by kernel_rfl) (hS.sub sb9)
        case hfr => intro w hS; ((refine wpl (by kernel_rfl) ?_; apply wp_loadE hS 133 _ rfl _ _ rfl 2 (row_of rfl) _ _ _ _ _; (case hp => exact pl9); (case inst => infer_instance); (case he => with_reducible assumption); (case hq => exact rfl); (case hj => omega); refine put_move ?_; go_step)); refine wpList_nil ?_; exact ⟨rfl, rfl⟩
        case hd => rfl
        refine takeM 14 _ al9 (by kernel_rfl) (by kernel_rfl) (by kernel_rfl) (by exact fun _ _ _ _ h => h) rfl ?_
        go_step
        refine takeM 15 _ al9 (by kernel_rfl) (by kernel_rfl) (by kernel_rfl) (by exact fun _ _ _ _ h => h) rfl ?_
        go_step
        refine takeM 16 _ al9 (by kernel_rfl) (by kernel_rfl) (by kernel_rfl) (by exact fun _ _ _ _ h => h) rfl ?_
        go_step
        (refine takeV 17 (.int _ (((a + i : Nat) : Int))) al9 (by kernel_rfl) (by kernel_rfl) (by kernel_rfl) (by exact fun _ _ _ _ h => h) (V.as (V.addI rfl rfl (by omega)) (by omega)) rfl ?_)
        go_step
        (refine takeV 18 _ al9 (by kernel_rfl) (by kernel_rfl) (by kernel_rfl) (by exact fun _ _ _ _ h => h) (V.indexSl Tryd.underlying134 isz133 rfl rfl isn9 (by omega) rfl nq9) rfl ?_)
        go_step
        apply takeS 19 al9 (by kernel_rfl) (by kernel_rfl) (by kernel_rfl) (by exact fun _ _ _ _ h => h) [20, 21, 22, 23] (by kernel_rfl) (hS.sub sb9)
        case hfr => intro w hS; ((refine wpl (by kernel_rfl) ?_; apply wp_loadE hS 133 _ rfl _ _ rfl 2 (row_of rfl) _ _ _ _ _; (case hp => exact pl9); (case inst => infer_instance); (case he => with_reducible assumption); (case hq => exact rfl); (case hj => omega); refine put_move ?_; go_step)); refine wpList_nil ?_; exact ⟨rfl, rfl⟩
        case hd => rfl
        (refine takeV 20 _ al9 (by kernel_rfl) (by kernel_rfl) (by kernel_rfl) (by exact fun _ _ _ _ h => h) (V.indexSl Tryd.underlying134 isz133 rfl rfl isn9 (by omega) rfl nq9) rfl ?_)
        go_step
        refine branch1 21 al9 rfl (by kernel_rfl) ?_
        (apply wp_storeE hS 133 _ _ rfl _ _ rfl 2 (row_of rfl) _ _ _ _ _; (case hp => exact pl9); (case inst => infer_instance); (case he => with_reducible assumption); (case hone => with_reducible assumption); (case hq => exact rfl); (case hj => omega); (case hy => exact rfl); (case hd => exact rfl); clear hS; intro w hS)
        refine ⟨fun h => absurd (by decide) h, ?_⟩
        (refine takeV 22 _ al9 (by kernel_rfl) (by kernel_rfl) (by kernel_rfl) (by exact fun _ _ _ _ h => h) (V.indexSl Tryd.underlying134 isz133 rfl rfl isn9 (by omega) rfl nq9) rfl ?_)
        go_step
        refine branch1 23 al9 rfl (by kernel_rfl) ?_
        (apply wp_storeE hS 133 _ _ rfl _ _ rfl 2 (row_of rfl) _ _ _ _ _; (case hp => exact pl9); (case inst => infer_instance); (case he => with_reducible assumption); (case hone => with_reducible assumption); (case hq => exact rfl); (case hj => omega); (case hy => exact rfl); (case hd => exact rfl); clear hS; intro w hS)
        refine ⟨fun h => absurd (by decide) h, ?_⟩
        refine drawn_done (by kernel_rfl) ?_ _
      repeat' (first
        | ((with_reducible apply gt9 _ (.move _)); (first | go_big_want | go_step); go_step) | ((with_reducible apply gt9 _ (.assign _)); (first | go_big_want | go_step); go_step) | ((with_reducible apply gt9 (some 15) (.binOp .add _ _ _ _)); (refine wvv9 (V.addI rfl rfl (by omega)) ?_; go_step)) | ((fail_if_success with_reducible apply ga9); go_step))
      go_roundg (gk - 1)
      case measure => omega
      case rel => exact ⟨i + 1, swp Q (a + i) (b + i), by omega, by go_num, HQ.out, hS⟩
    · obtain rfl : i = k := by omega
      repeat' (first
        | ((with_reducible apply gt9 _ (.move _)); (first | go_big_want | go_step); go_step) | ((with_reducible apply gt9 (some 13) (.binOp .lss _ _ _ _)); (refine wvv9 (V.lss rfl rfl) ?_; go_step)) | ((fail_if_success with_reducible apply ga9); go_step))
      go_end0
      exact ⟨rfl, Q, hQ, hS⟩
theorem rotate_any (W w0 : World) (rs rs' : List Res) (g n c a m b : Nat) (P : List PkV) (hS : St W w0 rs) (hp : Pull (pks g n c P) rs rs') (ham : a < m) (hmb : m < b) (hb : b ≤ n) (hn : n ≤ 1000000) (K : Value) :
    Calls Tryd.prog 109 #[.slice (some ⟨g, 0, none⟩) n c, .int .i64 a, .int .i64 m, .int .i64 b, K] w0 fun e w => e = .returned (.tuple #[]) ∧ ∃ Q, Rot a m b P Q ∧ St W w (pks g n c Q :: rs') := by
  replace hS := hS.pull hp
  have hPl := own_recs hS Pull.head pkE_len (by decide)
  obtain ⟨A0, U0, V0, B0, hP, hA0, hU0, hV0⟩ : ∃ A U Y B : List PkV, P = A ++ (U ++ (Y ++ B)) ∧ A.length = a ∧ U.length = m - a ∧ Y.length = b - m :=
    ⟨P.take a, (P.drop a).take (m - a), ((P.drop a).drop (m - a)).take (b - m), ((P.drop a).drop (m - a)).drop (b - m), by rw [List.take_append_drop, List.take_append_drop, List.take_append_drop], by simp; omega, by simp; omega, by simp; omega⟩
  have HG : Hid (∀ Q, Q = A0 ++ (V0 ++ (U0 ++ B0)) → Rot a m b P Q) := fun Q h => ⟨A0, U0, V0, B0, hP, h, hA0, hU0, hV0⟩
  obtain ⟨T, hT⟩ : ∃ T, A0 ++ (V0 ++ (U0 ++ B0)) = T := ⟨_, rfl⟩
  rw [hT] at HG
  rw [hP] at hS hPl
  clear hP hp
  go_enter Tryd.func109, Tryd.ntmps109
  repeat' (first
    | ((with_reducible apply gt9 (some 14) (.binOp .sub _ _ _ _)); (refine wplV (.int _ (((m - a : Nat) : Int))) (V.as (V.subI rfl rfl (by omega)) (by omega)) rfl ?_; go_step)) | ((with_reducible apply gt9 (some 17) (.binOp .sub _ _ _ _)); (refine wplV (.int _ (((b - m : Nat) : Int))) (V.as (V.subI rfl rfl (by omega)) (by omega)) rfl ?_; go_step)) | ((with_reducible apply gt9 _ (.move _)); (first | go_big_want | go_step); go_step) | ((with_reducible apply gt9 _ (.assign _)); (first | go_big_want | go_step); go_step) | ((fail_if_success with_reducible apply ga9); go_step))
  go_loopg [10, 11] (b - a) (fun gk iv jv w => ∃ (i j x : Nat) (A U Y B : List PkV), gk = i + j ∧ iv = .int .i64 i ∧ jv = .int .i64 j ∧ A.length = x ∧ U.length = i ∧ Y.length = j ∧ x + i = m ∧ m + j ≤ b ∧ 1 ≤ i ∧ 1 ≤ j ∧ A ++ (Y ++ (U ++ B)) = T ∧ St W w (pks g n c (A ++ (U ++ (Y ++ B))) :: rs'))
  case atStart => exact ⟨m - a, b - m, a, A0, U0, V0, B0, by omega, rfl, rfl, hA0, hU0, hV0, by omega, by omega, by omega, by omega, hT, hS⟩
  case round =>
    clear hS hT hU0 hV0 hA0 hPl
    obtain ⟨i, j, x, A, U, Y, B, hk, rfl, rfl, hA, hU, hV, hxm, hmj, hi1, hj1, hT, hS⟩ := hrel
    by_cases hij : i = j
    · skip
      repeat' (first
        | ((with_reducible apply gt9 _ (.move _)); (first | go_big_want | go_step); go_step) | ((with_reducible apply gt9 (some 20) (.binOp .neq 3 _ _ _)); (refine wvv9 (V.neq rfl rfl) ?_; go_step)) | ((fail_if_success with_reducible apply ga9); go_step))
      repeat' (first
        | ((with_reducible apply gt9 (some 53) (.binOp .sub _ _ _ _)); (refine wplV (.int _ (((x : Nat) : Int))) (V.as (V.subI rfl rfl (by omega)) (by omega)) rfl ?_; go_step)) | ((with_reducible apply gt9 _ (.call ⟨.value (.func 112), _, _⟩)); refine wpl_call (f := 112) Tryd.call112 (by kernel_rfl) ?_; refine ⟨_, (swapRange_any W _ _ rs' g n c x m i _ hS Pull.head (by omega) (by omega) hn K), ?_⟩; rintro e w ⟨rfl, Q, hQ, hS2⟩; replace hS := hS2; clear hS2; refine ⟨_, rfl, ?_⟩; refine put_move ?_; go_step) | ((with_reducible apply gt9 _ (.move _)); (first | go_big_want | go_step); go_step) | ((fail_if_success with_reducible apply ga9); go_step))
      go_end0
      refine ⟨rfl, Q, HG.out Q ?_, hS⟩
      rw [← hxm, ← hA] at hQ
      rw [hij] at hQ
      obtain ⟨U1, U2, e1, e2, e3, e4, e5⟩ := Rot.left (hij ▸ hU) hV (Nat.le_refl _) hQ
      have : U2 = [] := List.eq_nil_of_length_eq_zero (by omega)
      subst this
      rw [e4, ← hT, e5]
      simp
    · by_cases hlt : j < i
      · skip
        repeat' (first
          | ((with_reducible apply gt9 _ (.move _)); (first | go_big_want | go_step); go_step) | ((with_reducible apply gt9 (some 20) (.binOp .neq 3 _ _ _)); (refine wvv9 (V.neq rfl rfl) ?_; go_step)) | ((with_reducible apply gt9 (some 23) (.binOp .gtr _ _ _ _)); (refine wvv9 (V.gtr rfl rfl) ?_; go_step)) | ((fail_if_success with_reducible apply ga9); go_step))
        repeat' (first
          | ((with_reducible apply gt9 (some 27) (.binOp .sub _ _ _ _)); (refine wplV (.int _ (((x : Nat) : Int))) (V.as (V.subI rfl rfl (by omega)) (by omega)) rfl ?_; go_step)) | ((with_reducible apply gt9 (some 34) (.binOp .sub _ _ _ _)); (refine wplV (.int _ (((i - j : Nat) : Int))) (V.as (V.subI rfl rfl (by omega)) (by omega)) rfl ?_; go_step)) | ((with_reducible apply gt9 _ (.call ⟨.value (.func 112), _, _⟩)); refine wpl_call (f := 112) Tryd.call112 (by kernel_rfl) ?_; refine ⟨_, (swapRange_any W _ _ rs' g n c x m j _ hS Pull.head (by omega) (by omega) hn K), ?_⟩; rintro e w ⟨rfl, Q, hQ, hS2⟩; replace hS := hS2; clear hS2; refine ⟨_, rfl, ?_⟩; refine put_move ?_; go_step) | ((with_reducible apply gt9 _ (.move _)); (first | go_big_want | go_step); go_step) | ((with_reducible apply gt9 _ (.assign _)); (first | go_big_want | go_step); go_step) | ((fail_if_success with_reducible apply ga9); go_step))
        rw [← hxm, ← hA] at hQ
        obtain ⟨U1, U2, e1, e2, e3, e4, e5⟩ := Rot.left hU hV (by omega) hQ
        rw [e4] at hS
        rw [e5] at hT
        clear hQ e1 e4 e5
        go_roundg (gk - j)
        case measure => omega
        case rel => exact ⟨i - j, j, x + j, A ++ Y, U2, U1, B, by omega, rfl, rfl, by simp; omega, e3, e2, by omega, by omega, by omega, by omega, hT, hS⟩
      · skip
        repeat' (first
          | ((with_reducible apply gt9 _ (.move _)); (first | go_big_want | go_step); go_step) | ((with_reducible apply gt9 (some 20) (.binOp .neq 3 _ _ _)); (refine wvv9 (V.neq rfl rfl) ?_; go_step)) | ((with_reducible apply gt9 (some 23) (.binOp .gtr _ _ _ _)); (refine wvv9 (V.gtr rfl rfl) ?_; go_step)) | ((fail_if_success with_reducible apply ga9); go_step))
        repeat' (first
          | ((with_reducible apply gt9 (some 38) (.binOp .sub _ _ _ _)); (refine wplV (.int _ (((x : Nat) : Int))) (V.as (V.subI rfl rfl (by omega)) (by omega)) rfl ?_; go_step)) | ((with_reducible apply gt9 (some 43) (.binOp .sub _ _ _ _)); (refine wplV (.int _ (((x + j : Nat) : Int))) (V.as (V.subI rfl rfl (by omega)) (by omega)) rfl ?_; go_step)) | ((with_reducible apply gt9 (some 49) (.binOp .sub _ _ _ _)); (refine wplV (.int _ (((j - i : Nat) : Int))) (V.as (V.subI rfl rfl (by omega)) (by omega)) rfl ?_; go_step)) | ((with_reducible apply gt9 _ (.call ⟨.value (.func 112), _, _⟩)); refine wpl_call (f := 112) Tryd.call112 (by kernel_rfl) ?_; refine ⟨_, (swapRange_any W _ _ rs' g n c x (x + j) i _ hS Pull.head (by omega) (by omega) hn K), ?_⟩; rintro e w ⟨rfl, Q, hQ, hS2⟩; replace hS := hS2; clear hS2; refine ⟨_, rfl, ?_⟩; refine put_move ?_; go_step) | ((with_reducible apply gt9 _ (.move _)); (first | go_big_want | go_step); go_step) | ((with_reducible apply gt9 _ (.assign _)); (first | go_big_want | go_step); go_step) | ((with_reducible apply gt9 (some 41) (.binOp .add _ _ _ _)); (refine wvv9 (V.addI rfl rfl (by omega)) ?_; go_step)) | ((fail_if_success with_reducible apply ga9); go_step))
        rw [← hA] at hQ
        obtain ⟨V1, V2, e1, e2, e3, e4, e5⟩ := Rot.right hU hV (by omega) hQ
        rw [e4] at hS
        rw [e5] at hT
        clear hQ e1 e4 e5
        go_roundg (gk - i)
        case measure => omega
        case rel => exact ⟨i, j - i, x, A, V2, V1, U ++ B, by omega, rfl, rfl, hA, e3, e2, by omega, by omega, by omega, by omega, hT, hS⟩
abbrev byW : Value := .func (.func 67) #[] #[]
abbrev wk (P : List PkV) (i : Nat) : Int := (elt P i).w
theorem cmpv_lt (x y : Int) : cmpv x y < 0 ↔ x < y := by unfold cmpv; constructor <;> intro h <;> (repeat' split at h) <;> (repeat' split) <;> omega
theorem insSort_any (W w0 : World) (rs rs' : List Res) (g n c a b : Nat) (P : List PkV) (hS : St W w0 rs) (hp : Pull (pks g n c P) rs rs') (hab : a ≤ b) (hb : b ≤ n) (hn : n ≤ 1000000) :
    Calls Tryd.prog 100 #[.slice (some ⟨g, 0, none⟩) n c, .int .i64 a, .int .i64 b, byW] w0 fun e w => e = .returned (.tuple #[]) ∧ ∃ Q, Asc PkV.w a b Q ∧ Rg a b P Q ∧ St W w (pks g n c Q :: rs') := by
  replace hS := hS.pull hp
  have he := pkE_len
  have h1e := pkE_one
  have hPl := own_recs hS Pull.head pkE_len (by decide)
  go_enter Tryd.func100, Tryd.ntmps100
  repeat' (first
    | ((with_reducible apply gt9 (some 11) (.binOp .add _ _ _ _)); (refine wplV (.int _ (((a + 1 : Nat) : Int))) (V.as (V.addI rfl rfl (by omega)) (by omega)) rfl ?_; go_step)) | ((with_reducible apply gt9 _ (.move _)); (first | go_big_want | go_step); go_step) | ((with_reducible apply gt9 _ (.assign _)); (first | go_big_want | go_step); go_step) | ((fail_if_success with_reducible apply ga9); go_step))
  go_loopg [8] (b - a) (fun gk iv w => ∃ (i : Nat) (Q : List PkV), gk + i = b + 1 ∧ a < i ∧ iv = .int .i64 i ∧ Asc PkV.w a i Q ∧ Rg a b P Q ∧ St W w (pks g n c Q :: rs'))
  case atStart => exact ⟨a + 1, P, by omega, by omega, rfl, fun x y h1 h2 h3 => by rw [show x = y by omega]; exact Int.le_refl _, Rg.refl a b P, hS⟩
  case round =>
    clear hS
    obtain ⟨i, Q, hi, hai, rfl, hA, hR, hS⟩ := hrel
    by_cases hlt : i < b
    · obtain ⟨gk1, hgk1⟩ : ∃ x, x = gk := ⟨_, rfl⟩
      subst hgk1
      have hQl := hR.len
      have HA := hid hA
      have HR := hid hR
      clear hA hR
      repeat' (first
        | ((with_reducible apply gt9 _ (.move _)); (first | go_big_want | go_step); go_step) | ((with_reducible apply gt9 _ (.assign _)); (first | go_big_want | go_step); go_step) | ((with_reducible apply gt9 (some 14) (.binOp .lss _ _ _ _)); (refine wvv9 (V.lss rfl rfl) ?_; go_step)) | ((fail_if_success with_reducible apply ga9); go_step))
      repeat' (first
        | ((fail_if_success with_reducible apply ga9); go_step))
      go_loopg [9] (i - a) (fun gk jv w => ∃ (j : Nat) (Z : List PkV), gk + a = j ∧ j ≤ i ∧ jv = .int .i64 j ∧ Dn i j Q Z ∧ (j < i → wk Q i ≤ wk Q j) ∧ Rg a b P Z ∧ St W w (pks g n c Z :: rs'))
      case atStart => exact ⟨i, Q, by omega, by omega, rfl, Dn.refl i Q, fun h => by omega, HR.out, hS⟩
      case round =>
        clear hS
        obtain ⟨j, Z, hj, hji, rfl, hD, hhi, hR, hS⟩ := hrel
        by_cases hja : a < j
        · obtain ⟨q, rfl⟩ : ∃ q, j = q + 1 := ⟨j - 1, by omega⟩
          obtain ⟨v, hv⟩ : ∃ v, cmpv (elt Z (q + 1)).w (elt Z q).w = v := ⟨_, rfl⟩
          have hv2 := cmpv_lt (elt Z (q + 1)).w (elt Z q).w
          rw [hv] at hv2
          rw [hD.eq, hD.lo q (by omega)] at hv2
          have HV := hid hv
          have HV2 := hid hv2
          have HD := hid hD
          have HR2 := hid hR
          have HH := hid hhi
          clear hv hv2 hD hR hhi
          repeat' (first
            | ((fail_if_success with_reducible apply ga9); go_step))
          refine drawn_lit [14] (fun w => St W w (pks g n c Z :: rs')) (by kernel_rfl) ?_
          replace hS := hS.drew
          focus
            refine takeM 0 _ al9 (by kernel_rfl) (by kernel_rfl) (by kernel_rfl) (by exact fun _ _ _ _ h => h) rfl ?_
            go_step
            refine takeM 1 _ al9 (by kernel_rfl) (by kernel_rfl) (by kernel_rfl) (by exact fun _ _ _ _ h => h) rfl ?_
            go_step
            (refine takeD 2 _ al9 (by kernel_rfl) (by kernel_rfl) (by kernel_rfl) (by exact fun _ _ _ _ h => h) (V.gtr rfl rfl) rfl (fun hB => ?_) (fun hB => ?_))
            rotate_left 1
            focus
              (try (have hF : False := (by omega); cases hF))
              all_goals
                go_step
                refine takeM 3 _ al9 (by kernel_rfl) (by kernel_rfl) (by kernel_rfl) (by exact fun _ _ _ _ h => h) rfl ?_
                go_step
                refine takeN 4 al9 (by kernel_rfl) (by kernel_rfl) (by kernel_rfl) (by exact fun _ _ _ _ h => h) rfl ?_
                go_step
                refine takeN 5 al9 (by kernel_rfl) (by kernel_rfl) (by kernel_rfl) (by exact fun _ _ _ _ h => h) rfl ?_
                go_step
                refine takeN 6 al9 (by kernel_rfl) (by kernel_rfl) (by kernel_rfl) (by exact fun _ _ _ _ h => h) rfl ?_
                go_step
                refine takeN 7 al9 (by kernel_rfl) (by kernel_rfl) (by kernel_rfl) (by exact fun _ _ _ _ h => h) rfl ?_
                go_step
                refine takeN 8 al9 (by kernel_rfl) (by kernel_rfl) (by kernel_rfl) (by exact fun _ _ _ _ h => h) rfl ?_
                go_step
                refine takeN 9 al9 (by kernel_rfl) (by kernel_rfl) (by kernel_rfl) (by exact fun _ _ _ _ h => h) rfl ?_
                go_step
                refine takeN 10 al9 (by kernel_rfl) (by kernel_rfl) (by kernel_rfl) (by exact fun _ _ _ _ h => h) rfl ?_
                go_step
                refine takeN 11 al9 (by kernel_rfl) (by kernel_rfl) (by kernel_rfl) (by exact fun _ _ _ _ h => h) rfl ?_
                go_step
                refine takeN 12 al9 (by kernel_rfl) (by kernel_rfl) (by kernel_rfl) (by exact fun _ _ _ _ h => h) rfl ?_
                go_step
                refine takeN 13 al9 (by kernel_rfl) (by kernel_rfl) (by kernel_rfl) (by exact fun _ _ _ _ h => h) rfl ?_
                go_step
                refine takeN 14 al9 (by kernel_rfl) (by kernel_rfl) (by kernel_rfl) (by exact fun _ _ _ _ h => h) rfl ?_
                go_step
                refine takeN 15 al9 (by kernel_rfl) (by kernel_rfl) (by kernel_rfl) (by exact fun _ _ _ _ h => h) rfl ?_
                go_step
                refine takePickF 16 al9 (by kernel_rfl) (by kernel_rfl) (by kernel_rfl) (by exact fun _ _ _ _ h => h) rfl rfl ?_
                go_step
                refine drawn_done (by kernel_rfl) ?_ _
            rotate_right 1
            focus
              (try (have hF : False := (by omega); cases hF))
              all_goals
                go_step
                refine takeM 3 _ al9 (by kernel_rfl) (by kernel_rfl) (by kernel_rfl) (by exact fun _ _ _ _ h => h) rfl ?_
                go_step
                refine takeM 4 _ al9 (by kernel_rfl) (by kernel_rfl) (by kernel_rfl) (by exact fun _ _ _ _ h => h) rfl ?_
                go_step
                refine takeM 5 _ al9 (by kernel_rfl) (by kernel_rfl) (by kernel_rfl) (by exact fun _ _ _ _ h => h) rfl ?_
                go_step
                refine takeM 6 _ al9 (by kernel_rfl) (by kernel_rfl) (by kernel_rfl) (by exact fun _ _ _ _ h => h) rfl ?_
                go_step
                (refine takeV 7 _ al9 (by kernel_rfl) (by kernel_rfl) (by kernel_rfl) (by exact fun _ _ _ _ h => h) (V.indexSl Tryd.underlying134 isz133 rfl rfl isn9 (by omega) rfl nq9) rfl ?_)
                go_step
                apply takeS 8 al9 (by kernel_rfl) (by kernel_rfl) (by kernel_rfl) (by exact fun _ _ _ _ h => h) [14, 15, 16] (by kernel_rfl) (hS.sub sb9)
                case hfr => intro w hS; ((refine wpl (by kernel_rfl) ?_; apply wp_loadE hS 133 _ rfl _ _ rfl 2 (row_of rfl) _ _ _ _ _; (case hp => exact pl9); (case inst => infer_instance); (case he => with_reducible assumption); (case hq => exact rfl); (case hj => omega); refine put_move ?_; go_step)); refine wpList_nil ?_; exact ⟨rfl, rfl⟩
                case hd => rfl
                refine takeM 9 _ al9 (by kernel_rfl) (by kernel_rfl) (by kernel_rfl) (by exact fun _ _ _ _ h => h) rfl ?_
                go_step
                refine takeM 10 _ al9 (by kernel_rfl) (by kernel_rfl) (by kernel_rfl) (by exact fun _ _ _ _ h => h) rfl ?_
                go_step
                (refine takeV 11 (.int _ (((q : Nat) : Int))) al9 (by kernel_rfl) (by kernel_rfl) (by kernel_rfl) (by exact fun _ _ _ _ h => h) (V.as (V.subI rfl rfl (by omega)) (by omega)) rfl ?_)
                go_step
                (refine takeV 12 _ al9 (by kernel_rfl) (by kernel_rfl) (by kernel_rfl) (by exact fun _ _ _ _ h => h) (V.indexSl Tryd.underlying134 isz133 rfl rfl isn9 (by omega) rfl nq9) rfl ?_)
                go_step
                apply takeS 13 al9 (by kernel_rfl) (by kernel_rfl) (by kernel_rfl) (by exact fun _ _ _ _ h => h) [14, 15, 16] (by kernel_rfl) (hS.sub sb9)
                case hfr => intro w hS; ((refine wpl (by kernel_rfl) ?_; apply wp_loadE hS 133 _ rfl _ _ rfl 2 (row_of rfl) _ _ _ _ _; (case hp => exact pl9); (case inst => infer_instance); (case he => with_reducible assumption); (case hq => exact rfl); (case hj => omega); refine put_move ?_; go_step)); refine wpList_nil ?_; exact ⟨rfl, rfl⟩
                case hd => rfl
                refine branch1 14 al9 rfl (by kernel_rfl) ?_
                refine wp_callV (f := 67) rfl rfl Tryd.call67 (byWeight_any _ (elt Z (q + 1)) (elt Z q)) ?_; rintro e w ⟨rfl, hE⟩; replace hS := hS.ext hE; clear hE; rw [HV.out]; refine ⟨_, rfl, ?_⟩
                refine ⟨fun h => absurd (by decide) h, ?_⟩
                refine drawn_move ?_
                go_step
                (refine takeV 15 _ al9 (by kernel_rfl) (by kernel_rfl) (by kernel_rfl) (by exact fun _ _ _ _ h => h) (V.lss rfl rfl) rfl ?_)
                go_step
                refine takePickT 16 al9 (by kernel_rfl) (by kernel_rfl) (by kernel_rfl) (by exact fun _ _ _ _ h => h) rfl rfl ?_
                go_step
                refine drawn_done (by kernel_rfl) ?_ _
          by_cases hc : v < 0
          · skip
            repeat' (first
              | ((fail_if_success with_reducible apply ga9); go_step))
            refine drawn_lit [15, 17] (fun w => St W w (pks g n c Z :: rs')) (by kernel_rfl) ?_
            replace hS := hS.drew
            focus
              refine takeM 0 _ al9 (by kernel_rfl) (by kernel_rfl) (by kernel_rfl) (by exact fun _ _ _ _ h => h) rfl ?_
              go_step
              refine takeM 1 _ al9 (by kernel_rfl) (by kernel_rfl) (by kernel_rfl) (by exact fun _ _ _ _ h => h) rfl ?_
              go_step
              refine takeM 2 _ al9 (by kernel_rfl) (by kernel_rfl) (by kernel_rfl) (by exact fun _ _ _ _ h => h) rfl ?_
              go_step
              refine takeM 3 _ al9 (by kernel_rfl) (by kernel_rfl) (by kernel_rfl) (by exact fun _ _ _ _ h => h) rfl ?_
              go_step
              (refine takeV 4 (.int _ (((q : Nat) : Int))) al9 (by kernel_rfl) (by kernel_rfl) (by kernel_rfl) (by exact fun _ _ _ _ h => h) (V.as (V.subI rfl rfl (by omega)) (by omega)) rfl ?_)
              go_step
              refine takeM 5 _ al9 (by kernel_rfl) (by kernel_rfl) (by kernel_rfl) (by exact fun _ _ _ _ h => h) rfl ?_
              go_step
              refine takeM 6 _ al9 (by kernel_rfl) (by kernel_rfl) (by kernel_rfl) (by exact fun _ _ _ _ h => h) rfl ?_
              go_step
              (refine takeV 7 (.int _ (((q : Nat) : Int))) al9 (by kernel_rfl) (by kernel_rfl) (by kernel_rfl) (by exact fun _ _ _ _ h => h) (V.as (V.subI rfl rfl (by omega)) (by omega)) rfl ?_)
              go_step
              (refine takeV 8 _ al9 (by kernel_rfl) (by kernel_rfl) (by kernel_rfl) (by exact fun _ _ _ _ h => h) (V.indexSl Tryd.underlying134 isz133 rfl rfl isn9 (by omega) rfl nq9) rfl ?_)
              go_step
              apply takeS 9 al9 (by kernel_rfl) (by kernel_rfl) (by kernel_rfl) (by exact fun _ _ _ _ h => h) [14, 15, 16, 17] (by kernel_rfl) (hS.sub sb9)
              case hfr => intro w hS; ((refine wpl (by kernel_rfl) ?_; apply wp_loadE hS 133 _ rfl _ _ rfl 2 (row_of rfl) _ _ _ _ _; (case hp => exact pl9); (case inst => infer_instance); (case he => with_reducible assumption); (case hq => exact rfl); (case hj => omega); refine put_move ?_; go_step)); refine wpList_nil ?_; exact ⟨rfl, rfl⟩
              case hd => rfl
              refine takeM 10 _ al9 (by kernel_rfl) (by kernel_rfl) (by kernel_rfl) (by exact fun _ _ _ _ h => h) rfl ?_
              go_step
              refine takeM 11 _ al9 (by kernel_rfl) (by kernel_rfl) (by kernel_rfl) (by exact fun _ _ _ _ h => h) rfl ?_
              go_step
              (refine takeV 12 _ al9 (by kernel_rfl) (by kernel_rfl) (by kernel_rfl) (by exact fun _ _ _ _ h => h) (V.indexSl Tryd.underlying134 isz133 rfl rfl isn9 (by omega) rfl nq9) rfl ?_)
              go_step
              apply takeS 13 al9 (by kernel_rfl) (by kernel_rfl) (by kernel_rfl) (by exact fun _ _ _ _ h => h) [14, 15, 16, 17] (by kernel_rfl) (hS.sub sb9)
              case hfr => intro w hS; ((refine wpl (by kernel_rfl) ?_; apply wp_loadE hS 133 _ rfl _ _ rfl 2 (row_of rfl) _ _ _ _ _; (case hp => exact pl9); (case inst => infer_instance); (case he => with_reducible assumption); (case hq => exact rfl); (case hj => omega); refine put_move ?_; go_step)); refine wpList_nil ?_; exact ⟨rfl, rfl⟩
              case hd => rfl
              (refine takeV 14 _ al9 (by kernel_rfl) (by kernel_rfl) (by kernel_rfl) (by exact fun _ _ _ _ h => h) (V.indexSl Tryd.underlying134 isz133 rfl rfl isn9 (by omega) rfl nq9) rfl ?_)
              go_step
              refine branch1 15 al9 rfl (by kernel_rfl) ?_
              (apply wp_storeE hS 133 _ _ rfl _ _ rfl 2 (row_of rfl) _ _ _ _ _; (case hp => exact pl9); (case inst => infer_instance); (case he => with_reducible assumption); (case hone => with_reducible assumption); (case hq => exact rfl); (case hj => omega); (case hy => exact rfl); (case hd => exact rfl); clear hS; intro w hS)
              refine ⟨fun h => absurd (by decide) h, ?_⟩
              (refine takeV 16 _ al9 (by kernel_rfl) (by kernel_rfl) (by kernel_rfl) (by exact fun _ _ _ _ h => h) (V.indexSl Tryd.underlying134 isz133 rfl rfl isn9 (by omega) rfl nq9) rfl ?_)
              go_step
              refine branch1 17 al9 rfl (by kernel_rfl) ?_
              (apply wp_storeE hS 133 _ _ rfl _ _ rfl 2 (row_of rfl) _ _ _ _ _; (case hp => exact pl9); (case inst => infer_instance); (case he => with_reducible assumption); (case hone => with_reducible assumption); (case hq => exact rfl); (case hj => omega); (case hy => exact rfl); (case hd => exact rfl); clear hS; intro w hS)
              refine ⟨fun h => absurd (by decide) h, ?_⟩
              refine drawn_done (by kernel_rfl) ?_ _
            repeat' (first
              | ((with_reducible apply gt9 (some 36) (.binOp .sub _ _ _ _)); (refine wplV (.int _ (((q : Nat) : Int))) (V.as (V.subI rfl rfl (by omega)) (by omega)) rfl ?_; go_step)) | ((with_reducible apply gt9 _ (.move _)); (first | go_big_want | go_step); go_step) | ((with_reducible apply gt9 _ (.assign _)); (first | go_big_want | go_step); go_step) | ((fail_if_success with_reducible apply ga9); go_step))
            go_roundg (gk - 1)
            case measure => omega
            case rel => exact ⟨q, swp Z (q + 1) q, by omega, by omega, by go_num, HD.out.step (by omega) (by omega) (by omega), fun _ => by have := HV2.out.1 hc; exact Int.le_of_lt this, HR2.out.trans (swp_mid _ _ _ _ _ (by omega) (by omega) (by omega) (by omega) (by rw [HR2.out.len]; omega)), hS⟩
          · skip
            repeat' (first
              | ((with_reducible apply gt9 (some 16) (.binOp .add _ _ _ _)); (refine wplV (.int _ (((i + 1 : Nat) : Int))) (V.as (V.addI rfl rfl (by omega)) (by omega)) rfl ?_; go_step)) | ((with_reducible apply gt9 _ (.move _)); (first | go_big_want | go_step); go_step) | ((with_reducible apply gt9 _ (.assign _)); (first | go_big_want | go_step); go_step) | ((fail_if_success with_reducible apply ga9); go_step))
            go_roundg (gk1 - 1)
            case measure => omega
            case rel =>
              refine ⟨i + 1, Z, by omega, by omega, by go_num, HD.out.asc HA.out (by omega) (by omega) (fun _ => ?_) (fun _ => HH.out (by omega)), HR2.out, hS⟩
              have := HV2.out
              show (elt Q (q + 1 - 1)).w ≤ (elt Q i).w
              rw [Nat.add_sub_cancel]
              omega
        · obtain rfl : j = a := by omega
          repeat' (first
            | ((fail_if_success with_reducible apply ga9); go_step))
          refine drawn_lit [14] (fun w => St W w (pks g n c Z :: rs')) (by kernel_rfl) ?_
          replace hS := hS.drew
          focus
            refine takeM 0 _ al9 (by kernel_rfl) (by kernel_rfl) (by kernel_rfl) (by exact fun _ _ _ _ h => h) rfl ?_
            go_step
            refine takeM 1 _ al9 (by kernel_rfl) (by kernel_rfl) (by kernel_rfl) (by exact fun _ _ _ _ h => h) rfl ?_
            go_step
            (refine takeD 2 _ al9 (by kernel_rfl) (by kernel_rfl) (by kernel_rfl) (by exact fun _ _ _ _ h => h) (V.gtr rfl rfl) rfl (fun hB => ?_) (fun hB => ?_))
            rotate_left 1
            focus
              (try (have hF : False := (by omega); cases hF))
              all_goals
                go_step
                refine takeM 3 _ al9 (by kernel_rfl) (by kernel_rfl) (by kernel_rfl) (by exact fun _ _ _ _ h => h) rfl ?_
                go_step
                refine takeN 4 al9 (by kernel_rfl) (by kernel_rfl) (by kernel_rfl) (by exact fun _ _ _ _ h => h) rfl ?_
                go_step
                refine takeN 5 al9 (by kernel_rfl) (by kernel_rfl) (by kernel_rfl) (by exact fun _ _ _ _ h => h) rfl ?_
                go_step
                refine takeN 6 al9 (by kernel_rfl) (by kernel_rfl) (by kernel_rfl) (by exact fun _ _ _ _ h => h) rfl ?_
                go_step
                refine takeN 7 al9 (by kernel_rfl) (by kernel_rfl) (by kernel_rfl) (by exact fun _ _ _ _ h => h) rfl ?_
                go_step
                refine takeN 8 al9 (by kernel_rfl) (by kernel_rfl) (by kernel_rfl) (by exact fun _ _ _ _ h => h) rfl ?_
                go_step
                refine takeN 9 al9 (by kernel_rfl) (by kernel_rfl) (by kernel_rfl) (by exact fun _ _ _ _ h => h) rfl ?_
                go_step
                refine takeN 10 al9 (by kernel_rfl) (by kernel_rfl) (by kernel_rfl) (by exact fun _ _ _ _ h => h) rfl ?_
                go_step
                refine takeN 11 al9 (by kernel_rfl) (by kernel_rfl) (by kernel_rfl) (by exact fun _ _ _ _ h => h) rfl ?_
                go_step
                refine takeN 12 al9 (by kernel_rfl) (by kernel_rfl) (by kernel_rfl) (by exact fun _ _ _ _ h => h) rfl ?_
                go_step
                refine takeN 13 al9 (by kernel_rfl) (by kernel_rfl) (by kernel_rfl) (by exact fun _ _ _ _ h => h) rfl ?_
                go_step
                refine takeN 14 al9 (by kernel_rfl) (by kernel_rfl) (by kernel_rfl) (by exact fun _ _ _ _ h => h) rfl ?_
                go_step
                refine takeN 15 al9 (by kernel_rfl) (by kernel_rfl) (by kernel_rfl) (by exact fun _ _ _ _ h => h) rfl ?_
                go_step
                refine takePickF 16 al9 (by kernel_rfl) (by kernel_rfl) (by kernel_rfl) (by exact fun _ _ _ _ h => h) rfl rfl ?_
                go_step
                refine drawn_done (by kernel_rfl) ?_ _
            rotate_right 1
            focus
              (try (have hF : False := (by omega); cases hF))
              all_goals
                go_step
                refine takeM 3 _ al9 (by kernel_rfl) (by kernel_rfl) (by kernel_rfl) (by exact fun _ _ _ _ h => h) rfl ?_
                go_step
                refine takeM 4 _ al9 (by kernel_rfl) (by kernel_rfl) (by kernel_rfl) (by exact fun _ _ _ _ h => h) rfl ?_
                go_step
                refine takeM 5 _ al9 (by kernel_rfl) (by kernel_rfl) (by kernel_rfl) (by exact fun _ _ _ _ h => h) rfl ?_
                go_step
                refine takeM 6 _ al9 (by kernel_rfl) (by kernel_rfl) (by kernel_rfl) (by exact fun _ _ _ _ h => h) rfl ?_
                go_step
                first | (refine takeV 7 _ al9 (by kernel_rfl) (by kernel_rfl) (by kernel_rfl) (by exact fun _ _ _ _ h => h) (V.indexSl Tryd.underlying134 isz133 rfl rfl isn9 (by omega) rfl nq9) rfl ?_)
                go_step
                apply takeS 8 al9 (by kernel_rfl) (by kernel_rfl) (by kernel_rfl) (by exact fun _ _ _ _ h => h) [14, 15, 16] (by kernel_rfl) (hS.sub sb9)
                case hfr => intro w hS; (first | (refine wpl (by kernel_rfl) ?_; apply wp_loadE hS 133 _ rfl _ _ rfl 2 (row_of rfl) _ _ _ _ _; (case hp => exact pl9); (case inst => infer_instance); (case he => with_reducible assumption); (case hq => exact rfl); (case hj => omega); refine put_move ?_; go_step) | (refine wpl (by kernel_rfl) ?_; apply wp_loadA hS 133 _ rfl _ rfl 2 (row_of rfl) _; (case hp => exact pl9); refine put_move ?_; go_step) | (refine wpl (by kernel_rfl) ?_; apply wp_loadG hS 133 _ rfl _ rfl 2 (row_of rfl) _; (case hp => exact pl9); (case hn => rfl); refine put_move ?_; go_step) | (refine wpl (by kernel_rfl) ?_; apply wp_loadRW hS 133 _ rfl _ _ rfl 2 (row_of rfl) _; (case hc => with_reducible assumption); (case hn => rfl); refine put_move ?_; go_step)); refine wpList_nil ?_; exact ⟨rfl, rfl⟩
                case hd => rfl
                refine takeM 9 _ al9 (by kernel_rfl) (by kernel_rfl) (by kernel_rfl) (by exact fun _ _ _ _ h => h) rfl ?_
                go_step
                refine takeM 10 _ al9 (by kernel_rfl) (by kernel_rfl) (by kernel_rfl) (by exact fun _ _ _ _ h => h) rfl ?_
                go_step
                first | (refine takeV 11 _ al9 (by kernel_rfl) (by kernel_rfl) (by kernel_rfl) (by exact fun _ _ _ _ h => h) (V.subI rfl rfl (by omega)) rfl ?_) | (refine takeV 11 _ al9 (by kernel_rfl) (by kernel_rfl) (by kernel_rfl) (by exact fun _ _ _ _ h => h) (V.subR (by decide) rfl rfl) rfl ?_)
                go_step
                first | (refine takeV 12 _ al9 (by kernel_rfl) (by kernel_rfl) (by kernel_rfl) (by exact fun _ _ _ _ h => h) (V.indexSl Tryd.underlying134 isz133 rfl rfl isn9 (by omega) rfl nq9) rfl ?_)
                go_step
                apply takeS 13 al9 (by kernel_rfl) (by kernel_rfl) (by kernel_rfl) (by exact fun _ _ _ _ h => h) [14, 15, 16] (by kernel_rfl) (hS.sub sb9)
                case hfr => intro w hS; (first | (refine wpl (by kernel_rfl) ?_; apply wp_loadE hS 133 _ rfl _ _ rfl 2 (row_of rfl) _ _ _ _ _; (case hp => exact pl9); (case inst => infer_instance); (case he => with_reducible assumption); (case hq => exact rfl); (case hj => omega); refine put_move ?_; go_step) | (refine wpl (by kernel_rfl) ?_; apply wp_loadA hS 133 _ rfl _ rfl 2 (row_of rfl) _; (case hp => exact pl9); refine put_move ?_; go_step) | (refine wpl (by kernel_rfl) ?_; apply wp_loadG hS 133 _ rfl _ rfl 2 (row_of rfl) _; (case hp => exact pl9); (case hn => rfl); refine put_move ?_; go_step) | (refine wpl (by kernel_rfl) ?_; apply wp_loadRW hS 133 _ rfl _ _ rfl 2 (row_of rfl) _; (case hc => with_reducible assumption); (case hn => rfl); refine put_move ?_; go_step)); refine wpList_nil ?_; exact ⟨rfl, rfl⟩
                case hd => rfl
                refine branch1 14 al9 rfl (by kernel_rfl) ?_
                fail "no law: Op.call { callee := Callee.value (Operand.tmp 22), args := #"
                refine ⟨fun h => absurd (by decide) h, ?_⟩
                refine drawn_move ?_
                go_step
                first | (refine takeV 15 _ al9 (by kernel_rfl) (by kernel_rfl) (by kernel_rfl) (by exact fun _ _ _ _ h => h) (V.lss rfl rfl) rfl ?_)
                go_step
                refine takePickT 16 al9 (by kernel_rfl) (by kernel_rfl) (by kernel_rfl) (by exact fun _ _ _ _ h => h) rfl rfl ?_
                go_step
                refine drawn_done (by kernel_rfl) ?_ _
          repeat' (first
            | ((with_reducible apply gt9 (some 16) (.binOp .add _ _ _ _)); (refine wplV (.int _ (((i + 1 : Nat) : Int))) (V.as (V.addI rfl rfl (by omega)) (by omega)) rfl ?_; go_step)) | ((with_reducible apply gt9 _ (.move _)); (first | go_big_want | go_step); go_step) | ((with_reducible apply gt9 _ (.assign _)); (first | go_big_want | go_step); go_step) | ((fail_if_success with_reducible apply ga9); go_step))
          go_roundg (gk1 - 1)
          case measure => omega
          case rel => exact ⟨i + 1, Z, by omega, by omega, by go_num, hD.asc HA.out (by omega) (by omega) (fun _ => by omega) (fun _ => hhi (by omega)), hR, hS⟩
    · skip
      repeat' (first
        | ((with_reducible apply gt9 _ (.move _)); (first | go_big_want | go_step); go_step) | ((with_reducible apply gt9 (some 14) (.binOp .lss _ _ _ _)); (refine wvv9 (V.lss rfl rfl) ?_; go_step)) | ((fail_if_success with_reducible apply ga9); go_step))
      go_end0
      exact ⟨rfl, Q, hA.sub (Nat.le_refl _) (by omega), hR, hS⟩
end Go.Proofs.YtehbjhocgnfpmaaDoor
