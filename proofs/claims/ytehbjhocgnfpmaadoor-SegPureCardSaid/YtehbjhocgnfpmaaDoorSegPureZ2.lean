/- The law SegPure: what its proof needs, part 2. -/
import Derived.Test.YtehbjhocgnfpmaaDoorSegPureZ1
import Derived.Deep.MidRow
import Derived.Lib.AppendZeros
import Derived.Laws.Cover3
/- The walk of the reference's Counts. -/
namespace Go.Proofs.YtehbjhocgnfpmaaDoor
open Go.RowKit
set_option linter.unusedVariables false
/-- How often each symbol comes. -/
def cnt (L : List Int) : List Int := (List.range 256).map fun s : Nat => ((L.count (s : Int) : Nat) : Int)
theorem cnt_len (L : List Int) : (cnt L).length = 256 := by unfold cnt; simp
theorem cnt_nth (L : List Int) {s : Nat} (h : s < 256) : nth (cnt L) s = ((L.count (s : Int) : Nat) : Int) := by
  unfold cnt nth List.getD
  rw [List.getElem?_map, List.getElem?_range h]; rfl
theorem cnt_ext {A B : List Int} (ha : A.length = 256) (hb : B.length = 256) (h : ∀ i, i < 256 → nth A i = nth B i) : A = B := by
  refine List.ext_getElem (by rw [ha, hb]) fun i h1 h2 => ?_
  have := h i (by omega)
  simpa [nth, List.getD, h1, h2] using this
theorem cnt_nil : cnt [] = List.replicate 256 0 := by
  refine cnt_ext (cnt_len _) List.length_replicate fun i hi => ?_
  rw [cnt_nth _ hi]
  simp only [nth, List.getD, List.getElem?_replicate, if_pos hi]
  rfl
theorem cnt_snoc (L : List Int) {s : Nat} (h : s < 256) : (cnt L).set s (nth (cnt L) s + 1) = cnt (L ++ [(s : Int)]) := by
  refine cnt_ext (by rw [List.length_set, cnt_len]) (cnt_len _) fun i hi => ?_
  rw [nth_set _ _ _ _ (by rw [cnt_len]; exact h), cnt_nth _ hi, cnt_nth _ h, cnt_nth _ hi, List.count_append, List.count_singleton]
  by_cases e : s = i
  · subst e; simp
  · rw [if_neg e, if_neg (by simp; omega)]; simp
/-- The number ahead of a block, and its tokens. -/
def bef (l : List Int) (k : Nat) : Int := if k = 0 then 0 else nth (seg l 64 (k - 1)) 0
def tkb (l : List Int) (k : Nat) : List Tok := tokL (bef l k) (seg l 64 k)
/-- The symbols of first tokens, and of others. -/
def syF (l : List Int) (n : Nat) : List Int := (List.range n).flatMap fun k => ((tkb l k).take 1).map (·.1)
def syR (l : List Int) (n : Nat) : List Int := (List.range n).flatMap fun k => ((tkb l k).drop 1).map (·.1)
theorem syF_succ (l : List Int) (n : Nat) : syF l (n + 1) = syF l n ++ ((tkb l n).take 1).map (·.1) := by unfold syF; rw [List.range_succ, List.flatMap_append]; simp
theorem syR_succ (l : List Int) (n : Nat) : syR l (n + 1) = syR l n ++ ((tkb l n).drop 1).map (·.1) := by unfold syR; rw [List.range_succ, List.flatMap_append]; simp
theorem tks_sym : ∀ (l : List Int) (r : Nat), (∀ x ∈ l, -2047 ≤ x ∧ x ≤ 2047) → ∀ t ∈ tks r l, 0 ≤ t.1 ∧ t.1 < 256
  | [], r, _, t, ht => by
    unfold tks at ht
    split at ht
    · simp at ht; subst ht; decide
    · simp at ht
  | n :: l, r, h, t, ht => by
    unfold tks at ht
    split at ht
    · exact tks_sym l (r + 1) (fun x hx => h x (by simp [hx])) t ht
    · rcases List.mem_append.1 ht with ht | ht
      · rw [List.eq_of_mem_replicate ht]; decide
      · rcases List.mem_cons.1 ht with rfl | ht
        · have h1 := sz_le11 n (by have := h n (by simp); omega)
          unfold tok
          dsimp only
          omega
        · exact tks_sym l 0 (fun x hx => h x (by simp [hx])) t ht
theorem tokL_sym {p : Int} {x : List Int} (hx : x.length = 64) : ∀ t ∈ tokL p x, 0 ≤ t.1 ∧ t.1 < 256 := by
  intro t ht
  unfold tokL at ht
  split at ht
  · rename_i h
    obtain ⟨h1, h2⟩ := tokE_ok hx h
    have hz : ∀ i, i < 64 → -2047 ≤ nth (zto x) i ∧ nth (zto x) i ≤ 2047 := fun i hi => by rw [zto_get _ i hi]; exact h2 _ (zn_lt i hi)
    unfold toksOf at ht
    rcases List.mem_cons.1 ht with rfl | ht
    · have := hz 0 (by omega)
      have h3 := sz_le (nth (zto x) 0 - p) (by omega)
      unfold tok
      dsimp only
      omega
    · refine tks_sym _ 0 (fun y hy => ?_) t ht
      obtain ⟨i, hi, rfl⟩ := List.mem_iff_getElem.1 (List.mem_of_mem_drop hy)
      have := hz i (by rw [← zto_len x]; exact hi)
      simpa [nth, List.getD, hi] using this
  · simp at ht
theorem tokL_le {p : Int} {x : List Int} (hx : x.length = 64) : (tokL p x).length ≤ 64 := by
  unfold tokL
  split
  · exact (toks_len p (zto x) (zto_len x)).2
  · simp
theorem sy_len {l : List Int} {m : Nat} (hl : l.length = m * 64) : ∀ n, n ≤ m → (syF l n).length + (syR l n).length ≤ n * 64
  | 0, _ => by simp [syF, syR]
  | n + 1, h => by
    have ih := sy_len hl n (by omega)
    have h1 : (tkb l n).length ≤ 64 := tokL_le (seg_len l 64 n m hl (by omega))
    rw [syF_succ, syR_succ]
    simp
    omega
theorem take_next {T : List Tok} {i : Nat} {x : Tok} (hi : i < T.length) (h : T.take (i + 1) = T.take i ++ [x]) (A B : List Int) :
    (i = 0 → A ++ ((T.take (i + 1)).take 1).map (·.1) = (A ++ ((T.take i).take 1).map (·.1)) ++ [x.1] ∧ B ++ ((T.take (i + 1)).drop 1).map (·.1) = B ++ ((T.take i).drop 1).map (·.1)) ∧
    (i ≠ 0 → A ++ ((T.take (i + 1)).take 1).map (·.1) = A ++ ((T.take i).take 1).map (·.1) ∧ B ++ ((T.take (i + 1)).drop 1).map (·.1) = (B ++ ((T.take i).drop 1).map (·.1)) ++ [x.1]) := by
  have hl : (T.take i).length = i := by simp; omega
  rw [h]
  constructor
  · rintro rfl
    simp
  · intro h0
    rw [List.take_append_of_le_length (by omega), List.drop_append_of_le_length (by omega), List.map_append, ← List.append_assoc]
    exact ⟨rfl, rfl⟩
theorem cnt_bd (L : List Int) {q : Nat} (hq : q < 256) : 0 ≤ nth (cnt L) q ∧ nth (cnt L) q ≤ L.length := by
  rw [cnt_nth _ hq]
  have := List.count_le_length (a := (q : Int)) (l := L)
  omega
theorem refTokens_b (w0 : World) (l : List Int) (k : Nat) (p : Int) (h : bef l k = p) (hl : Len (seg l 64 k) 64) :
    Calls Tryd.prog 83 #[.int .i64 p, .agg (iv (seg l 64 k))] w0 fun e w => ∃ ad m c E, (tkb l k).length = m ∧ e = .returned (.tuple #[.slice ad m c, .int .i64 E]) ∧ St w0 w [own 69 3 ad m c ((flt (tkb l k)).map (Value.int .i64))] := by
  subst h
  refine (refTokens_any w0 (bef l k) (seg l 64 k) hl).mono ?_
  rintro e w ⟨ad, c, rfl, hS⟩
  exact ⟨ad, _, c, _, rfl, rfl, hS⟩
set_option maxRecDepth 100000 in
set_option maxHeartbeats 8000000 in
theorem refCounts_any (w0 : World) (ad : Option Addr) (n c : Nat) (l : List Int) (hn : n ≤ 1048576) (hv : Sl w0 64 (.slice ad n c) n (l.map (Value.int .i64))) :
    Calls Tryd.prog 65 #[.slice ad n c] w0 fun e w => ∃ g1 g2, e = .returned (.tuple #[.slice (some ⟨g1, 0, none⟩) 256 256, .slice (some ⟨g2, 0, none⟩) 256 256]) ∧ St w0 w [own 3 1 (some ⟨g1, 0, none⟩) 256 256 ((cnt (syF l n)).map (Value.int .i64)), own 3 1 (some ⟨g2, 0, none⟩) 256 256 ((cnt (syR l n)).map (Value.int .i64))] := by
  have hl : l.length = n * 64 := by have := hv.1; simpa using this
  have HL := hid hl
  clear hl
  have hS := St.start w0
  go_enter Tryd.func65, Tryd.ntmps65
  repeat' (first
    | ((with_reducible apply gt9 _ (.assign _)); (first | go_big_want | go_step); go_step) | ((fail_if_success with_reducible apply ga9); go_step))
  refine drawn_lit [] (fun _ => True) (by kernel_rfl) ?_
  replace hS := hS.drew
  focus
    refine branch [0, 1] (by kernel_rfl) (by simp) (.cons al9 rfl ?_ (.cons al9 rfl ?_ (.nil)))
    rotate_left 1
    focus
      (refine wp_make (o := ⟨some 14, _, _, _, _, _⟩) hS 24 _ _ rfl _ _ _ _ elz24 _ _ _ _ _ _ rfl rfl isn9 isn9 (by omega) (by omega) (by unfold maxLen; omega) ?_; clear hS; intro g14 w hS)
      refine ⟨fun _ h => h, ?_⟩
      refine drawn_move ?_
      go_step
      refine branch1 0 al9 rfl (by kernel_rfl) ?_
      (refine wp_make (o := ⟨some 13, _, _, _, _, _⟩) hS 24 _ _ rfl _ _ _ _ elz24 _ _ _ _ _ _ rfl rfl isn9 isn9 (by omega) (by omega) (by unfold maxLen; omega) ?_; clear hS; intro g13 w hS)
      refine ⟨fun _ h => h, ?_⟩
      refine drawn_move ?_
      go_step
      refine takeA 2 _ al9 (by kernel_rfl) (by kernel_rfl) (by kernel_rfl) (by exact fun _ _ _ _ h => h) rfl ?_
      go_step
      refine takeA 3 _ al9 (by kernel_rfl) (by kernel_rfl) (by kernel_rfl) (by exact fun _ _ _ _ h => h) rfl ?_
      go_step
      refine drawn_done (by kernel_rfl) ?_ _
    rotate_right 1
    focus
      (refine wp_make (o := ⟨some 13, _, _, _, _, _⟩) hS 24 _ _ rfl _ _ _ _ elz24 _ _ _ _ _ _ rfl rfl isn9 isn9 (by omega) (by omega) (by unfold maxLen; omega) ?_; clear hS; intro g13 w hS)
      refine ⟨fun _ h => h, ?_⟩
      refine drawn_move ?_
      go_step
      refine takeA 2 _ al9 (by kernel_rfl) (by kernel_rfl) (by kernel_rfl) (by exact fun _ _ _ _ h => h) rfl ?_
      go_step
      refine branch1 1 al9 rfl (by kernel_rfl) ?_
      (refine wp_make (o := ⟨some 14, _, _, _, _, _⟩) hS 24 _ _ rfl _ _ _ _ elz24 _ _ _ _ _ _ rfl rfl isn9 isn9 (by omega) (by omega) (by unfold maxLen; omega) ?_; clear hS; intro g14 w hS)
      refine ⟨fun _ h => h, ?_⟩
      refine drawn_move ?_
      go_step
      refine takeA 3 _ al9 (by kernel_rfl) (by kernel_rfl) (by kernel_rfl) (by exact fun _ _ _ _ h => h) rfl ?_
      go_step
      refine drawn_done (by kernel_rfl) ?_ _
  all_goals
    rw [show (256 * 1 : Nat) = 256 from rfl, ← cnt_nil] at hS
    replace hS := hS.sub (xs := [own 3 1 (some ⟨g13, 0, none⟩) 256 256 ((cnt []).map (Value.int .i64)), own 3 1 (some ⟨g14, 0, none⟩) 256 256 ((cnt []).map (Value.int .i64))]) sb9
    repeat' (first
      | ((with_reducible apply gt9 _ (.move _)); (first | go_big_want | go_step); go_step) | ((with_reducible apply gt9 _ (.call ⟨.builtin .len, _, _⟩)); (refine wvv9 (V.len Tryd.underlying22 rfl) ?_; go_step)) | ((fail_if_success with_reducible apply ga9); go_step))
    go_loopg [17] n (fun gk kv w => ∃ k : Nat, gk + k = n ∧ kv = .int .i64 k ∧ St w0 w [own 3 1 (some ⟨g13, 0, none⟩) 256 256 ((cnt (syF l k)).map (Value.int .i64)), own 3 1 (some ⟨g14, 0, none⟩) 256 256 ((cnt (syR l k)).map (Value.int .i64))])
    case atStart => exact ⟨0, rfl, rfl, hS⟩
    case round =>
      clear hS
      obtain ⟨k, hk, rfl, hS⟩ := hrel
      by_cases hlt : k < n
      · have ls : Len (seg l 64 k) 64 := seg_len l 64 k n HL.out hlt
        by_cases hk0 : k = 0
        · have HB : Hid (bef l k = 0) := hid (by unfold bef; rw [if_pos hk0])
          repeat' (first
            | ((with_reducible apply gt9 _ (.move _)); (first | go_big_want | go_step); go_step) | ((with_reducible apply gt9 _ (.assign _)); (first | go_big_want | go_step); go_step) | ((with_reducible apply gt9 _ (.binOp .lss _ _ _ _)); (refine wvv9 (V.lss rfl rfl) ?_; go_step)) | ((with_reducible apply gt9 (some 20) (.indexAddr 22 _ _)); (refine wpl_indexS (by with_reducible assumption) Tryd.underlying22 isz52 rfl rfl isn9 (by omega) rfl ?_; intro b20 o20 hl20 hc20; go_step)) | ((with_reducible apply gt9 _ (.binOp .gtr _ _ _ _)); (refine wvv9 (V.gtr rfl rfl) ?_; go_step)) | ((with_reducible apply gt9 _ (.load 52 _)); first | (refine wpl (by kernel_rfl) ?_; apply wp_loadRI hS 52 _ rfl _ _ rfl 64 (row_of rfl) _; (case hl => with_reducible assumption); (case hr => with_reducible assumption); refine put_move ?_; go_step) | (refine wpl (by kernel_rfl) ?_; apply wp_loadA hS 52 _ rfl _ rfl 64 (row_of rfl) _; (case hp => exact pl9); refine put_move ?_; go_step)) | ((with_reducible apply gt9 (some 7) (.alloc 52)); (refine wpl (by kernel_rfl) ?_; apply wp_allocA (o := ⟨some 7, _, _, _, _, _⟩) hS 52 rfl (List.replicate 64 0) 64 List.length_replicate za52; clear hS; intro g7 w hS; refine put_move ?_; go_step)) | ((with_reducible apply gt9 _ (.store 52 _ _)); (refine wpl (by kernel_rfl) ?_; apply wp_storeA hS 52 _ _ rfl _ rfl 64 (row_of rfl) _ _; (case hp => exact pl9); (case hy => rfl); (case hm => (repeat (first | assumption | exact Len.rep | apply Len.set | ((with_reducible show Len (_ :: _) _); exact rfl)))); (case hd => exact rfl); clear hS; intro w hS)) | ((fail_if_success with_reducible apply ga9); go_step))
          repeat' (first
            | ((with_reducible apply gt9 (some 33) _); refine wpl_call (f := 83) Tryd.call83 (by kernel_rfl) ?_; refine ⟨_, (refTokens_b _ l k _ HB.out ls), ?_⟩; rintro e w ⟨a5, m5, c5, E5, hm5, rfl, hS2⟩; have HM5 := hid hm5; replace hS := hS.call1 hS2; clear hS2 hm5; refine ⟨_, rfl, ?_⟩; refine put_move ?_; go_step) | ((with_reducible apply gt9 _ (.move _)); (first | go_big_want | go_step); go_step) | ((with_reducible apply gt9 _ (.assign _)); (first | go_big_want | go_step); go_step) | ((with_reducible apply gt9 _ (.extract _ _)); (refine wvv9 (V.extract rfl rfl) ?_; go_step)) | ((with_reducible apply gt9 _ (.call ⟨.builtin .len, _, _⟩)); (refine wvv9 (V.len Tryd.underlying100 rfl) ?_; go_step)) | ((fail_if_success with_reducible apply ga9); go_step))
          obtain ⟨T, hT⟩ : ∃ T, tkb l k = T := ⟨_, rfl⟩
          have HTE := hid hT
          rw [hT] at hS HM5
          have HSY := hid (show ∀ t ∈ T, 0 ≤ t.1 ∧ t.1 < 256 by rw [← hT]; exact tokL_sym ls)
          clear hT
          obtain ⟨gk1, hgk1⟩ : ∃ x, x = gk := ⟨_, rfl⟩
          subst hgk1
          go_loopg [38] m5 (fun gk kv w => ∃ i : Nat, gk + i = m5 ∧ kv = .int .i64 i ∧ St w0 w [own 69 3 a5 m5 c5 ((flt T).map (Value.int .i64)), own 3 1 (some ⟨g13, 0, none⟩) 256 256 ((cnt (syF l k ++ ((T.take i).take 1).map (·.1))).map (Value.int .i64)), own 3 1 (some ⟨g14, 0, none⟩) 256 256 ((cnt (syR l k ++ ((T.take i).drop 1).map (·.1))).map (Value.int .i64))])
          case atStart => exact ⟨0, rfl, rfl, by rw [show ((T.take 0).take 1).map (·.1) = ([] : List Int) by simp, show ((T.take 0).drop 1).map (·.1) = ([] : List Int) by simp, List.append_nil, List.append_nil]; exact hS.sub sb9⟩
          case round =>
            clear hS
            obtain ⟨i, hi, rfl, hS⟩ := hrel
            by_cases hlt2 : i < m5
            · obtain ⟨b5, rfl⟩ := own_some (a := a5) hS pl9 (by omega)
              obtain ⟨⟨s, v, y⟩, hx⟩ : ∃ x, T[i]? = some x := ⟨_, List.getElem?_eq_getElem (by rw [HM5.out]; exact hlt2)⟩
              have hseg := flt_get T i _ hx
              have hsy := HSY.out _ (List.mem_of_getElem? hx)
              dsimp only at hseg hsy
              obtain ⟨q, rfl⟩ : ∃ q : Nat, s = (q : Int) := ⟨s.toNat, by omega⟩
              have ht : T.take (i + 1) = T.take i ++ [((q : Int), v, y)] := by rw [List.take_add_one, hx]; rfl
              have HTK := hid ht
              clear hx ht
              have hnx := take_next (by rw [HM5.out]; exact hlt2) HTK.out (syF l k) (syR l k)
              dsimp only at hnx
              have hq : q < 256 := by omega
              have hsl := sy_len HL.out k (by omega)
              have hA := cnt_bd (syF l k ++ ((T.take i).take 1).map (·.1)) hq
              have hB := cnt_bd (syR l k ++ ((T.take i).drop 1).map (·.1)) hq
              have hTl : T.length ≤ 64 := by rw [← HTE.out]; exact tokL_le ls
              rw [List.length_append, List.length_map, List.length_take, List.length_take] at hA
              rw [List.length_append, List.length_map, List.length_drop, List.length_take] at hB
              have HCA := hid (cnt_snoc (syF l k ++ ((T.take i).take 1).map (·.1)) hq)
              have HCB := hid (cnt_snoc (syR l k ++ ((T.take i).drop 1).map (·.1)) hq)
              have HNX := hid hnx
              have hm5 : m5 ≤ 64 := by rw [← HM5.out]; exact hTl
              clear hnx
              repeat' (first
                | ((with_reducible apply gt9 _ (.move _)); (first | go_big_want | go_step); go_step) | ((with_reducible apply gt9 _ (.assign _)); (first | go_big_want | go_step); go_step) | ((with_reducible apply gt9 _ (.binOp .lss _ _ _ _)); (refine wvv9 (V.lss rfl rfl) ?_; go_step)) | ((with_reducible apply gt9 (some 41) (.indexAddr 100 _ _)); (refine wvv9 (V.indexSl Tryd.underlying100 isz69 rfl rfl isn9 (by omega) rfl nq9) ?_; go_step)) | ((with_reducible apply gt9 _ (.binOp .eql 3 _ _ _)); (refine wvv9 (V.eql rfl rfl) ?_; go_step)) | ((with_reducible apply gt9 _ (.load 69 _)); (refine wpl (by kernel_rfl) ?_; apply wp_loadROE hS 69 _ rfl _ _ rfl 3 (row_of rfl) _ _ _ _ _; (case hp => exact pl9); (case hi => omega); (case hl' => with_reducible assumption); refine put_move ?_; go_step)) | ((with_reducible apply gt9 (some 12) (.alloc 69)); (refine wpl (by kernel_rfl) ?_; apply wp_alloc (o := ⟨some 12, _, _, _, _, _⟩) hS 69 rfl (.agg #[.int .i64 0, .int .i64 0, .int .i64 0]) [.int .i64 0, .int .i64 0, .int .i64 0] (fun w => Tryd.zeroValue69 w) rfl; clear hS; intro g12 w hS; refine put_move ?_; go_step)) | ((with_reducible apply gt9 _ (.store 69 _ _)); (refine wpl (by kernel_rfl) ?_; apply wp_storeG hS 69 _ _ rfl _ rfl 3 (row_of rfl) _ _; (case hp => exact pl9); (case hy => rfl); (case hn => rfl); (case hn' => rfl); (case hv => rfl); (case hd => exact rfl); clear hS; intro w hS)) | ((fail_if_success with_reducible apply ga9); go_step))
              · skip
                repeat' (first
                  | ((with_reducible apply gt9 _ (.move _)); (first | go_big_want | go_step); go_step) | ((with_reducible apply gt9 _ (.fieldAddr 69 _ 0)); (refine wvv9 (V.fieldAddr fo69_0 rfl nq9) ?_; go_step)) | ((with_reducible apply gt9 (some 48) (.indexAddr 24 _ _)); (refine wvv9 (V.indexSl Tryd.underlying24 isz3 rfl rfl isn9 (by omega) (Nat.mul_one _) nq9) ?_; go_step)) | ((with_reducible apply gt9 _ (.binOp .add _ _ _ _)); (refine wvv9 (V.addI rfl rfl (by omega)) ?_; go_step)) | ((with_reducible apply gt9 (some 51) (.indexAddr 24 _ _)); (refine wvv9 (V.indexSl Tryd.underlying24 isz3 rfl rfl isn9 (by omega) (Nat.mul_one _) nq9) ?_; go_step)) | ((with_reducible apply gt9 _ (.load 3 _)); first | (refine wpl (by kernel_rfl) ?_; apply wp_load1OI hS 3 _ rfl _ _ rfl (one_of rfl) _ _ _ _ _; (case hp => exact pl9); (case hi => omega); refine put_move ?_; go_step) | (refine wpl (by kernel_rfl) ?_; apply wp_load1 hS 3 _ rfl _ _ rfl (one_of rfl) _; (case hp => exact pl9); (case hc => rfl); refine put_move ?_; go_step)) | ((with_reducible apply gt9 _ (.store 3 _ _)); (refine wpl (by kernel_rfl) ?_; apply wp_store1OI hS 3 _ _ rfl _ _ rfl (one_of rfl) _ _ _ _ _; (case hp => exact pl9); (case hy => rfl); (case hi => omega); (case hd => exact rfl); clear hS; intro w hS)) | ((fail_if_success with_reducible apply ga9); go_step))
                clear hA hB hsl hTl
                repeat' (first
                  | ((fail_if_success with_reducible apply ga9); go_step))
                go_roundg (gk - 1)
                case measure => omega
                case rel =>
                  refine ⟨i + 1, by omega, by go_num, ?_⟩
                  rw [(HNX.out.1 (by omega)).1, (HNX.out.1 (by omega)).2, ← HCA.out]
                  exact hS.sub sb9
              · skip
                repeat' (first
                  | ((with_reducible apply gt9 _ (.move _)); (first | go_big_want | go_step); go_step) | ((with_reducible apply gt9 _ (.fieldAddr 69 _ 0)); (refine wvv9 (V.fieldAddr fo69_0 rfl nq9) ?_; go_step)) | ((with_reducible apply gt9 (some 55) (.indexAddr 24 _ _)); (refine wvv9 (V.indexSl Tryd.underlying24 isz3 rfl rfl isn9 (by omega) (Nat.mul_one _) nq9) ?_; go_step)) | ((with_reducible apply gt9 _ (.binOp .add _ _ _ _)); (refine wvv9 (V.addI rfl rfl (by omega)) ?_; go_step)) | ((with_reducible apply gt9 (some 58) (.indexAddr 24 _ _)); (refine wvv9 (V.indexSl Tryd.underlying24 isz3 rfl rfl isn9 (by omega) (Nat.mul_one _) nq9) ?_; go_step)) | ((with_reducible apply gt9 _ (.load 3 _)); first | (refine wpl (by kernel_rfl) ?_; apply wp_load1OI hS 3 _ rfl _ _ rfl (one_of rfl) _ _ _ _ _; (case hp => exact pl9); (case hi => omega); refine put_move ?_; go_step) | (refine wpl (by kernel_rfl) ?_; apply wp_load1 hS 3 _ rfl _ _ rfl (one_of rfl) _; (case hp => exact pl9); (case hc => rfl); refine put_move ?_; go_step)) | ((with_reducible apply gt9 _ (.store 3 _ _)); (refine wpl (by kernel_rfl) ?_; apply wp_store1OI hS 3 _ _ rfl _ _ rfl (one_of rfl) _ _ _ _ _; (case hp => exact pl9); (case hy => rfl); (case hi => omega); (case hd => exact rfl); clear hS; intro w hS)) | ((fail_if_success with_reducible apply ga9); go_step))
                clear hA hB hsl hTl
                repeat' (first
                  | ((fail_if_success with_reducible apply ga9); go_step))
                go_roundg (gk - 1)
                case measure => omega
                case rel =>
                  refine ⟨i + 1, by omega, by go_num, ?_⟩
                  rw [(HNX.out.2 (by omega)).1, (HNX.out.2 (by omega)).2, ← HCB.out]
                  exact hS.sub sb9
            · obtain rfl : i = m5 := by omega
              rw [show T.take i = T by rw [← HM5.out]; exact List.take_length, ← HTE.out, ← syF_succ, ← syR_succ] at hS
              repeat' (first
                | ((with_reducible apply gt9 _ (.binOp .lss _ _ _ _)); (refine wvv9 (V.lss rfl rfl) ?_; go_step)) | ((fail_if_success with_reducible apply ga9); go_step))
              repeat' (first
                | ((with_reducible apply gt9 _ (.move _)); (first | go_big_want | go_step); go_step) | ((with_reducible apply gt9 _ (.binOp .add _ _ _ _)); (refine wvv9 (V.addI rfl rfl (by omega)) ?_; go_step)) | ((fail_if_success with_reducible apply ga9); go_step))
              go_roundg (gk1 - 1)
              case measure => omega
              case rel => exact ⟨k + 1, by omega, by go_num, hS.sub sb9⟩
        · have HB : Hid (bef l k = nth (seg l 64 (k - 1)) 0) := hid (by unfold bef; rw [if_neg hk0])
          repeat' (first
            | ((with_reducible apply gt9 _ (.move _)); (first | go_big_want | go_step); go_step) | ((with_reducible apply gt9 _ (.assign _)); (first | go_big_want | go_step); go_step) | ((with_reducible apply gt9 _ (.binOp .lss _ _ _ _)); (refine wvv9 (V.lss rfl rfl) ?_; go_step)) | ((with_reducible apply gt9 (some 20) (.indexAddr 22 _ _)); (refine wpl_indexS (by with_reducible assumption) Tryd.underlying22 isz52 rfl rfl isn9 (by omega) rfl ?_; intro b20 o20 hl20 hc20; go_step)) | ((with_reducible apply gt9 _ (.binOp .gtr _ _ _ _)); (refine wvv9 (V.gtr rfl rfl) ?_; go_step)) | ((with_reducible apply gt9 _ (.binOp .sub _ _ _ _)); (refine wvv9 (V.subI rfl rfl (by omega)) ?_; go_step)) | ((with_reducible apply gt9 (some 27) (.indexAddr 22 _ _)); (refine wpl_indexS (by with_reducible assumption) Tryd.underlying22 isz52 rfl rfl isn9 (by omega) rfl ?_; intro b27 o27 hl27 hc27; go_step)) | ((with_reducible apply gt9 (some 28) (.indexAddr 52 _ _)); (refine wvv9 (V.indexAr Tryd.underlying52 isz3 rfl rfl (show IsN 0 0 from rfl) (by omega) (show 0 * 1 = 0 from rfl) nq9) ?_; go_step)) | ((with_reducible apply gt9 _ (.load 52 _)); first | (refine wpl (by kernel_rfl) ?_; apply wp_loadRI hS 52 _ rfl _ _ rfl 64 (row_of rfl) _; (case hl => with_reducible assumption); (case hr => with_reducible assumption); refine put_move ?_; go_step) | (refine wpl (by kernel_rfl) ?_; apply wp_loadA hS 52 _ rfl _ rfl 64 (row_of rfl) _; (case hp => exact pl9); refine put_move ?_; go_step)) | ((with_reducible apply gt9 (some 7) (.alloc 52)); (refine wpl (by kernel_rfl) ?_; apply wp_allocA (o := ⟨some 7, _, _, _, _, _⟩) hS 52 rfl (List.replicate 64 0) 64 List.length_replicate za52; clear hS; intro g7 w hS; refine put_move ?_; go_step)) | ((with_reducible apply gt9 _ (.store 52 _ _)); (refine wpl (by kernel_rfl) ?_; apply wp_storeA hS 52 _ _ rfl _ rfl 64 (row_of rfl) _ _; (case hp => exact pl9); (case hy => rfl); (case hm => (repeat (first | assumption | exact Len.rep | apply Len.set | ((with_reducible show Len (_ :: _) _); exact rfl)))); (case hd => exact rfl); clear hS; intro w hS)) | ((with_reducible apply gt9 _ (.load 3 _)); (refine wpl (by kernel_rfl) ?_; apply wp_load1R0 hS 3 _ rfl _ _ rfl (one_of rfl) _ _; (case hl => with_reducible assumption); (case hr => with_reducible assumption); (case hf => omega); refine put_move ?_; go_step)) | ((fail_if_success with_reducible apply ga9); go_step))
          repeat' (first
            | ((with_reducible apply gt9 (some 33) _); refine wpl_call (f := 83) Tryd.call83 (by kernel_rfl) ?_; refine ⟨_, (refTokens_b _ l k _ HB.out ls), ?_⟩; rintro e w ⟨a5, m5, c5, E5, hm5, rfl, hS2⟩; have HM5 := hid hm5; replace hS := hS.call1 hS2; clear hS2 hm5; refine ⟨_, rfl, ?_⟩; refine put_move ?_; go_step) | ((with_reducible apply gt9 _ (.move _)); (first | go_big_want | go_step); go_step) | ((with_reducible apply gt9 _ (.assign _)); (first | go_big_want | go_step); go_step) | ((with_reducible apply gt9 _ (.extract _ _)); (refine wvv9 (V.extract rfl rfl) ?_; go_step)) | ((with_reducible apply gt9 _ (.call ⟨.builtin .len, _, _⟩)); (refine wvv9 (V.len Tryd.underlying100 rfl) ?_; go_step)) | ((fail_if_success with_reducible apply ga9); go_step))
          obtain ⟨T, hT⟩ : ∃ T, tkb l k = T := ⟨_, rfl⟩
          have HTE := hid hT
          rw [hT] at hS HM5
          have HSY := hid (show ∀ t ∈ T, 0 ≤ t.1 ∧ t.1 < 256 by rw [← hT]; exact tokL_sym ls)
          clear hT
          obtain ⟨gk1, hgk1⟩ : ∃ x, x = gk := ⟨_, rfl⟩
          subst hgk1
          go_loopg [38] m5 (fun gk kv w => ∃ i : Nat, gk + i = m5 ∧ kv = .int .i64 i ∧ St w0 w [own 69 3 a5 m5 c5 ((flt T).map (Value.int .i64)), own 3 1 (some ⟨g13, 0, none⟩) 256 256 ((cnt (syF l k ++ ((T.take i).take 1).map (·.1))).map (Value.int .i64)), own 3 1 (some ⟨g14, 0, none⟩) 256 256 ((cnt (syR l k ++ ((T.take i).drop 1).map (·.1))).map (Value.int .i64))])
          case atStart => exact ⟨0, rfl, rfl, by rw [show ((T.take 0).take 1).map (·.1) = ([] : List Int) by simp, show ((T.take 0).drop 1).map (·.1) = ([] : List Int) by simp, List.append_nil, List.append_nil]; exact hS.sub sb9⟩
          case round =>
            clear hS
            obtain ⟨i, hi, rfl, hS⟩ := hrel
            by_cases hlt2 : i < m5
            · obtain ⟨b5, rfl⟩ := own_some (a := a5) hS pl9 (by omega)
              obtain ⟨⟨s, v, y⟩, hx⟩ : ∃ x, T[i]? = some x := ⟨_, List.getElem?_eq_getElem (by rw [HM5.out]; exact hlt2)⟩
              have hseg := flt_get T i _ hx
              have hsy := HSY.out _ (List.mem_of_getElem? hx)
              dsimp only at hseg hsy
              obtain ⟨q, rfl⟩ : ∃ q : Nat, s = (q : Int) := ⟨s.toNat, by omega⟩
              have ht : T.take (i + 1) = T.take i ++ [((q : Int), v, y)] := by rw [List.take_add_one, hx]; rfl
              have HTK := hid ht
              clear hx ht
              have hnx := take_next (by rw [HM5.out]; exact hlt2) HTK.out (syF l k) (syR l k)
              dsimp only at hnx
              have hq : q < 256 := by omega
              have hsl := sy_len HL.out k (by omega)
              have hA := cnt_bd (syF l k ++ ((T.take i).take 1).map (·.1)) hq
              have hB := cnt_bd (syR l k ++ ((T.take i).drop 1).map (·.1)) hq
              have hTl : T.length ≤ 64 := by rw [← HTE.out]; exact tokL_le ls
              rw [List.length_append, List.length_map, List.length_take, List.length_take] at hA
              rw [List.length_append, List.length_map, List.length_drop, List.length_take] at hB
              have HCA := hid (cnt_snoc (syF l k ++ ((T.take i).take 1).map (·.1)) hq)
              have HCB := hid (cnt_snoc (syR l k ++ ((T.take i).drop 1).map (·.1)) hq)
              have HNX := hid hnx
              have hm5 : m5 ≤ 64 := by rw [← HM5.out]; exact hTl
              clear hnx
              repeat' (first
                | ((with_reducible apply gt9 _ (.move _)); (first | go_big_want | go_step); go_step) | ((with_reducible apply gt9 _ (.assign _)); (first | go_big_want | go_step); go_step) | ((with_reducible apply gt9 _ (.binOp .lss _ _ _ _)); (refine wvv9 (V.lss rfl rfl) ?_; go_step)) | ((with_reducible apply gt9 (some 41) (.indexAddr 100 _ _)); (refine wvv9 (V.indexSl Tryd.underlying100 isz69 rfl rfl isn9 (by omega) rfl nq9) ?_; go_step)) | ((with_reducible apply gt9 _ (.binOp .eql 3 _ _ _)); (refine wvv9 (V.eql rfl rfl) ?_; go_step)) | ((with_reducible apply gt9 _ (.load 69 _)); (refine wpl (by kernel_rfl) ?_; apply wp_loadROE hS 69 _ rfl _ _ rfl 3 (row_of rfl) _ _ _ _ _; (case hp => exact pl9); (case hi => omega); (case hl' => with_reducible assumption); refine put_move ?_; go_step)) | ((with_reducible apply gt9 (some 12) (.alloc 69)); (refine wpl (by kernel_rfl) ?_; apply wp_alloc (o := ⟨some 12, _, _, _, _, _⟩) hS 69 rfl (.agg #[.int .i64 0, .int .i64 0, .int .i64 0]) [.int .i64 0, .int .i64 0, .int .i64 0] (fun w => Tryd.zeroValue69 w) rfl; clear hS; intro g12 w hS; refine put_move ?_; go_step)) | ((with_reducible apply gt9 _ (.store 69 _ _)); (refine wpl (by kernel_rfl) ?_; apply wp_storeG hS 69 _ _ rfl _ rfl 3 (row_of rfl) _ _; (case hp => exact pl9); (case hy => rfl); (case hn => rfl); (case hn' => rfl); (case hv => rfl); (case hd => exact rfl); clear hS; intro w hS)) | ((fail_if_success with_reducible apply ga9); go_step))
              · skip
                repeat' (first
                  | ((with_reducible apply gt9 _ (.move _)); (first | go_big_want | go_step); go_step) | ((with_reducible apply gt9 _ (.fieldAddr 69 _ 0)); (refine wvv9 (V.fieldAddr fo69_0 rfl nq9) ?_; go_step)) | ((with_reducible apply gt9 (some 48) (.indexAddr 24 _ _)); (refine wvv9 (V.indexSl Tryd.underlying24 isz3 rfl rfl isn9 (by omega) (Nat.mul_one _) nq9) ?_; go_step)) | ((with_reducible apply gt9 _ (.binOp .add _ _ _ _)); (refine wvv9 (V.addI rfl rfl (by omega)) ?_; go_step)) | ((with_reducible apply gt9 (some 51) (.indexAddr 24 _ _)); (refine wvv9 (V.indexSl Tryd.underlying24 isz3 rfl rfl isn9 (by omega) (Nat.mul_one _) nq9) ?_; go_step)) | ((with_reducible apply gt9 _ (.load 3 _)); first | (refine wpl (by kernel_rfl) ?_; apply wp_load1OI hS 3 _ rfl _ _ rfl (one_of rfl) _ _ _ _ _; (case hp => exact pl9); (case hi => omega); refine put_move ?_; go_step) | (refine wpl (by kernel_rfl) ?_; apply wp_load1 hS 3 _ rfl _ _ rfl (one_of rfl) _; (case hp => exact pl9); (case hc => rfl); refine put_move ?_; go_step)) | ((with_reducible apply gt9 _ (.store 3 _ _)); (refine wpl (by kernel_rfl) ?_; apply wp_store1OI hS 3 _ _ rfl _ _ rfl (one_of rfl) _ _ _ _ _; (case hp => exact pl9); (case hy => rfl); (case hi => omega); (case hd => exact rfl); clear hS; intro w hS)) | ((fail_if_success with_reducible apply ga9); go_step))
                clear hA hB hsl hTl
                repeat' (first
                  | ((fail_if_success with_reducible apply ga9); go_step))
                go_roundg (gk - 1)
                case measure => omega
                case rel =>
                  refine ⟨i + 1, by omega, by go_num, ?_⟩
                  rw [(HNX.out.1 (by omega)).1, (HNX.out.1 (by omega)).2, ← HCA.out]
                  exact hS.sub sb9
              · skip
                repeat' (first
                  | ((with_reducible apply gt9 _ (.move _)); (first | go_big_want | go_step); go_step) | ((with_reducible apply gt9 _ (.fieldAddr 69 _ 0)); (refine wvv9 (V.fieldAddr fo69_0 rfl nq9) ?_; go_step)) | ((with_reducible apply gt9 (some 55) (.indexAddr 24 _ _)); (refine wvv9 (V.indexSl Tryd.underlying24 isz3 rfl rfl isn9 (by omega) (Nat.mul_one _) nq9) ?_; go_step)) | ((with_reducible apply gt9 _ (.binOp .add _ _ _ _)); (refine wvv9 (V.addI rfl rfl (by omega)) ?_; go_step)) | ((with_reducible apply gt9 (some 58) (.indexAddr 24 _ _)); (refine wvv9 (V.indexSl Tryd.underlying24 isz3 rfl rfl isn9 (by omega) (Nat.mul_one _) nq9) ?_; go_step)) | ((with_reducible apply gt9 _ (.load 3 _)); first | (refine wpl (by kernel_rfl) ?_; apply wp_load1OI hS 3 _ rfl _ _ rfl (one_of rfl) _ _ _ _ _; (case hp => exact pl9); (case hi => omega); refine put_move ?_; go_step) | (refine wpl (by kernel_rfl) ?_; apply wp_load1 hS 3 _ rfl _ _ rfl (one_of rfl) _; (case hp => exact pl9); (case hc => rfl); refine put_move ?_; go_step)) | ((with_reducible apply gt9 _ (.store 3 _ _)); (refine wpl (by kernel_rfl) ?_; apply wp_store1OI hS 3 _ _ rfl _ _ rfl (one_of rfl) _ _ _ _ _; (case hp => exact pl9); (case hy => rfl); (case hi => omega); (case hd => exact rfl); clear hS; intro w hS)) | ((fail_if_success with_reducible apply ga9); go_step))
                clear hA hB hsl hTl
                repeat' (first
                  | ((fail_if_success with_reducible apply ga9); go_step))
                go_roundg (gk - 1)
                case measure => omega
                case rel =>
                  refine ⟨i + 1, by omega, by go_num, ?_⟩
                  rw [(HNX.out.2 (by omega)).1, (HNX.out.2 (by omega)).2, ← HCB.out]
                  exact hS.sub sb9
            · obtain rfl : i = m5 := by omega
              rw [show T.take i = T by rw [← HM5.out]; exact List.take_length, ← HTE.out, ← syF_succ, ← syR_succ] at hS
              repeat' (first
                | ((with_reducible apply gt9 _ (.binOp .lss _ _ _ _)); (refine wvv9 (V.lss rfl rfl) ?_; go_step)) | ((fail_if_success with_reducible apply ga9); go_step))
              repeat' (first
                | ((with_reducible apply gt9 _ (.move _)); (first | go_big_want | go_step); go_step) | ((with_reducible apply gt9 _ (.binOp .add _ _ _ _)); (refine wvv9 (V.addI rfl rfl (by omega)) ?_; go_step)) | ((fail_if_success with_reducible apply ga9); go_step))
              go_roundg (gk1 - 1)
              case measure => omega
              case rel => exact ⟨k + 1, by omega, by go_num, hS.sub sb9⟩
      · obtain rfl : k = n := by omega
        repeat' (first
          | ((with_reducible apply gt9 _ (.move _)); (first | go_big_want | go_step); go_step) | ((with_reducible apply gt9 _ (.assign _)); (first | go_big_want | go_step); go_step) | ((with_reducible apply gt9 _ (.binOp .lss _ _ _ _)); (refine wvv9 (V.lss rfl rfl) ?_; go_step)) | ((fail_if_success with_reducible apply ga9); go_step))
        repeat' (first
          | ((fail_if_success with_reducible apply ga9); go_step))
        refine ret_all (xs := [_, _]) rfl (.cons (OneRes.tmp rfl) (.cons (OneRes.tmp rfl) (.nil))) (by simp) rfl ?_
        exact ⟨g13, g14, rfl, hS⟩
end Go.Proofs.YtehbjhocgnfpmaaDoor

/- The walks of the reference's parts, and of evenly and pieces. -/
namespace Go.Proofs.YtehbjhocgnfpmaaDoor
open Go.RowKit
set_option linter.unusedVariables false
/-- How many blocks each segment has. -/
def ptsA (every : Nat) : Nat → Nat → List Int
  | 0, _ => []
  | f + 1, n => if 0 < n then ((min n every : Nat) : Int) :: ptsA every f (n - min n every) else []
def pts (n every : Nat) : List Int := if every = 0 ∨ n = 0 then [(n : Int)] else ptsA every n n
theorem ptsA_len (every : Nat) (h : 0 < every) : ∀ f n, (ptsA every f n).length ≤ n
  | 0, n => by simp [ptsA]
  | f + 1, n => by
    unfold ptsA
    by_cases h0 : 0 < n
    · rw [if_pos h0, List.length_cons]
      have := ptsA_len every h f (n - min n every)
      omega
    · rw [if_neg h0]; simp
set_option maxRecDepth 100000 in
set_option maxHeartbeats 4000000 in
theorem parts_any (w0 : World) (n every : Nat) (hn : n ≤ 1048576) (he : every ≤ 1048576) :
    Calls Tryd.prog 64 #[.int .i64 n, .int .i64 every] w0 fun e w => ∃ ad c m, (pts n every).length = m ∧ e = .returned (.slice ad m c) ∧ St w0 w [own 3 1 ad m c ((pts n every).map (Value.int .i64))] := by
  have hS := St.start w0
  by_cases h0 : every = 0 ∨ n = 0
  · have HP := hid (show pts n every = [(n : Int)] by unfold pts; rw [if_pos h0])
    go_enter Tryd.func64, Tryd.ntmps64
    repeat' (first
      | ((with_reducible apply gt9 (some 13) (.buildSlice _ _ _)); (refine wpl (by kernel_rfl) ?_; apply wp_buildSliceO (o := ⟨some 13, _, _, _, _, _⟩) hS 24 1 _ rfl 3 1 8 el24 _ _; (case hvs => (repeat (first | exact Parts.nil | (apply Parts.agg; (rfl); (rfl)) | (apply Parts.one; exact isv9; (rfl); (rfl))))); (case hn => rfl); (case hn0 => decide); (case hns => decide); clear hS; intro g13 w hS; refine put_move ?_; go_step)) | go_skip | ((with_reducible apply gt9 _ (.move _)); (first | go_big_want | go_step); go_step) | ((with_reducible apply gt9 _ (.assign _)); (first | go_big_want | go_step); go_step) | ((with_reducible apply gt9 _ (.pick _ _ _)); first | (refine wplPickT rfl (by kernel_rfl) ?_; go_step) | (refine wplPickF rfl (by kernel_rfl) ?_; go_step)) | ((with_reducible apply gt9 (some 7) (.binOp .eql 3 _ _ _)); (refine wplD _ (V.eql rfl rfl) (by kernel_rfl) (fun hB => ?_) (fun hB => ?_) <;> (try (have hF : False := (by omega); cases hF)) <;> go_step)) | ((with_reducible apply gt9 _ (.binOp .eql 3 _ _ _)); (refine wvv9 (V.eql rfl rfl) ?_; go_step)) | ((fail_if_success with_reducible apply ga9); go_step))
    all_goals
      go_ret
      refine ⟨_, _, 1, by rw [HP.out]; rfl, rfl, ?_⟩
      rw [HP.out]
      exact hS.sub (xs := [own 3 1 (some ⟨g13, 0, none⟩) 1 1 [.int .i64 (n : Nat)]]) sb9
  · have HP := hid (show pts n every = ptsA every n n by unfold pts; rw [if_neg h0])
    go_enter Tryd.func64, Tryd.ntmps64
    repeat' (first
      | ((with_reducible apply gt9 _ (.move _)); (first | go_big_want | go_step); go_step) | ((with_reducible apply gt9 _ (.assign _)); (first | go_big_want | go_step); go_step) | ((with_reducible apply gt9 _ (.pick _ _ _)); (refine wplPickF rfl (by kernel_rfl) ?_; go_step)) | ((with_reducible apply gt9 (some 7) (.binOp .eql 3 _ _ _)); (refine wplD _ (V.eql rfl rfl) (by kernel_rfl) (fun hB => ?_) (fun hB => ?_) <;> (try (have hF : False := (by omega); cases hF)) <;> go_step)) | ((with_reducible apply gt9 _ (.binOp .eql 3 _ _ _)); (refine wvv9 (V.eql rfl rfl) ?_; go_step)) | ((fail_if_success with_reducible apply ga9); go_step))
    repeat' (first
      | ((fail_if_success with_reducible apply ga9); go_step))
    replace hS := hS.nilk 3 1 .i64
    have he1 : 0 < every := by omega
    go_loopg [0, 5] n (fun gk nv ov w => ∃ (r m : Nat) (o : List Int) (ad : Option Addr) (c : Nat), nv = .int .i64 r ∧ ov = .slice ad m c ∧ r ≤ gk ∧ gk ≤ n ∧ m + r ≤ n ∧ Hid (o.length = m) ∧ Hid (pts n every = o ++ ptsA every gk r) ∧ St w0 w [own 3 1 ad m c (o.map (Value.int .i64))])
    case atStart => exact ⟨n, 0, [], none, 0, rfl, rfl, Nat.le_refl _, Nat.le_refl _, by omega, hid rfl, hid (by rw [HP.out]; rfl), hS⟩
    case round =>
      clear hS
      obtain ⟨r, m, o, ad, c, rfl, rfl, hr, hg, hm, HO, HA, hS⟩ := hrel
      by_cases hr0 : 0 < r
      · obtain ⟨f, rfl⟩ : ∃ f, gk = f + 1 := ⟨gk - 1, by omega⟩
        have ha := HA.out
        rw [ptsA, if_pos hr0] at ha
        obtain ⟨q, hq⟩ : ∃ q, min r every = q := ⟨_, rfl⟩
        have hq1 : 1 ≤ q ∧ q ≤ r := by omega
        rw [hq] at ha
        have HA2 := hid ha
        have HQ := hid hq
        clear ha
        repeat' (first
          | ((with_reducible apply gt9 (some 19) (.call ⟨.builtin .min, _, _⟩)); (refine wplV (.int _ (((q : Nat) : Int))) (V.as (V.min rfl rfl) (by omega)) rfl ?_; go_step)) | ((with_reducible apply gt9 (some 25) (.call ⟨.builtin .min, _, _⟩)); (refine wplV (.int _ (((q : Nat) : Int))) (V.as (V.min rfl rfl) (by omega)) rfl ?_; go_step)) | ((with_reducible apply gt9 (some 26) (.binOp .sub _ _ _ _)); (refine wplV (.int _ (((r - q : Nat) : Int))) (V.as (V.subI rfl rfl (by omega)) (by omega)) rfl ?_; go_step)) | ((with_reducible apply gt9 _ (.move _)); (first | go_big_want | go_step); go_step) | ((with_reducible apply gt9 _ (.assign _)); (first | go_big_want | go_step); go_step) | ((with_reducible apply gt9 _ (.binOp .gtr _ _ _ _)); (refine wvv9 (V.gtr rfl rfl) ?_; go_step)) | ((with_reducible apply gt9 (some 20) (.buildSlice 24 _ _)); (refine wpl (by kernel_rfl) ?_; apply wp_buildSlice1 (o := ⟨some 20, _, _, _, _, _⟩) hS 24 1 _ rfl 3 1 8 el24 _ _; (case hvs => (repeat (first | exact Parts.nil | (apply Parts.agg; (rfl); (rfl)) | (apply Parts.one; exact isv9; (rfl); (rfl))))); (case hn => rfl); (case hn0 => decide); (case hns => decide); clear hS; intro g20 w hS; refine put_move ?_; go_step)) | ((with_reducible apply gt9 (some 21) (.call ⟨.builtin .append, _, _⟩)); (refine wpl (by kernel_rfl) ?_; apply wp_append (o := ⟨some 21, _, _, _, _, _⟩) hS _ _ 24 rfl 3 1 8 el24 _ _ _ _ rfl; (case hp => exact pl9); (case hx => exact rfl); (case hm => (first | exact hS.slBlk pl9 (by rfl) (by decide) | exact hS.sl pl9 | with_reducible assumption | exact Sl.ext (by with_reducible assumption) hS.1 | exact Sl.nil _ _ | exact Sl.ext (by assumption) hS.1 | assumption)); (case h1 => (first | exact oneAll rfl | exact oneMap _ _ | (intro u hu; cases hu))); (case h63 => unfold maxLen; omega); (case hb => omega); clear hS; intro ad21 c21 w hS; (first | simp only [mapk1] at hS | simp only [mapk2] at hS | simp only [mapk3] at hS | simp only [mapk4] at hS | simp only [mapkl] at hS | skip); refine put_move ?_; go_step)) | ((fail_if_success with_reducible apply ga9); go_step))
        go_roundg f
        case measure => omega
        case rel => exact ⟨r - q, m + 1, o ++ [(q : Int)], ad21, c21, rfl, rfl, by omega, by omega, by omega, hid (by rw [List.length_append, HO.out]; rfl), hid (by rw [HA2.out]; simp), hS.sub sb9⟩
      · have hp : pts n every = o := by
          rw [HA.out]
          have : ptsA every gk r = [] := by
            cases gk with
            | zero => rfl
            | succ f => rw [ptsA, if_neg hr0]
          rw [this, List.append_nil]
        have HPO := hid hp
        clear hp
        repeat' (first
          | ((with_reducible apply gt9 _ (.move _)); (first | go_big_want | go_step); go_step) | ((with_reducible apply gt9 _ (.assign _)); (first | go_big_want | go_step); go_step) | ((with_reducible apply gt9 _ (.binOp .gtr _ _ _ _)); (refine wvv9 (V.gtr rfl rfl) ?_; go_step)) | ((fail_if_success with_reducible apply ga9); go_step))
        repeat' (first
          | ((fail_if_success with_reducible apply ga9); go_step))
        go_ret
        refine ⟨_, _, m, by rw [HPO.out]; exact HO.out, rfl, ?_⟩
        rw [HPO.out]
        exact hS.sub sb9
end Go.Proofs.YtehbjhocgnfpmaaDoor

/- The walk of the reference's FrameCounts. -/
namespace Go.Proofs.YtehbjhocgnfpmaaDoor
open Go.RowKit
set_option linter.unusedVariables false
/-- The symbols of segments, one behind the other. -/
def frF (l : List Int) : List Int → List Int
  | [] => []
  | q :: ps => syF l q.toNat ++ frF (l.drop (q.toNat * 64)) ps
def frR (l : List Int) : List Int → List Int
  | [] => []
  | q :: ps => syR l q.toNat ++ frR (l.drop (q.toNat * 64)) ps
theorem seg_take {l : List Int} {q k : Nat} (h : k < q) : seg (l.take (q * 64)) 64 k = seg l 64 k := by
  unfold seg
  rw [List.drop_take, List.take_take, Nat.min_eq_left (by omega)]
theorem tkb_take {l : List Int} {q k : Nat} (h : k < q) : tkb (l.take (q * 64)) k = tkb l k := by
  unfold tkb bef
  rw [seg_take h]
  by_cases h0 : k = 0
  · rw [if_pos h0, if_pos h0]
  · rw [if_neg h0, if_neg h0, seg_take (by omega)]
theorem syF_take (l : List Int) (q : Nat) : syF (l.take (q * 64)) q = syF l q := by
  unfold syF
  have : ∀ n, n ≤ q → (List.range n).flatMap (fun k => ((tkb (l.take (q * 64)) k).take 1).map (·.1)) = (List.range n).flatMap (fun k => ((tkb l k).take 1).map (·.1)) := by
    intro n
    induction n with
    | zero => intro _; rfl
    | succ n ih =>
      intro hn
      rw [List.range_succ, List.flatMap_append, List.flatMap_append, ih (by omega)]
      simp [tkb_take (l := l) (show n < q by omega)]
  exact this q (Nat.le_refl _)
theorem syR_take (l : List Int) (q : Nat) : syR (l.take (q * 64)) q = syR l q := by
  unfold syR
  have : ∀ n, n ≤ q → (List.range n).flatMap (fun k => ((tkb (l.take (q * 64)) k).drop 1).map (·.1)) = (List.range n).flatMap (fun k => ((tkb l k).drop 1).map (·.1)) := by
    intro n
    induction n with
    | zero => intro _; rfl
    | succ n ih =>
      intro hn
      rw [List.range_succ, List.flatMap_append, List.flatMap_append, ih (by omega)]
      simp [tkb_take (l := l) (show n < q by omega)]
  exact this q (Nat.le_refl _)
/-- The parts are of the blocks that are left. -/
def ptsOk : Nat → List Int → Prop
  | _, [] => True
  | r, q :: ps => 0 ≤ q ∧ q.toNat ≤ r ∧ ptsOk (r - q.toNat) ps
theorem ptsA_ok (every : Nat) : ∀ f n, ptsOk n (ptsA every f n)
  | 0, n => trivial
  | f + 1, n => by
    unfold ptsA
    by_cases h0 : 0 < n
    · rw [if_pos h0]
      exact ⟨by omega, by omega, by rw [Int.toNat_natCast]; exact ptsA_ok every f _⟩
    · rw [if_neg h0]; trivial
theorem pts_ok (n every : Nat) : ptsOk n (pts n every) := by
  unfold pts
  split
  · exact ⟨by omega, by omega, trivial⟩
  · exact ptsA_ok every n n
theorem pts_len (n every : Nat) : (pts n every).length ≤ n + 1 := by
  unfold pts
  by_cases h : every = 0 ∨ n = 0
  · rw [if_pos h]; simp
  · rw [if_neg h]
    have := ptsA_len every (by omega) n n
    omega
theorem cnt_add {A X : List Int} {s : Nat} (h : s < 256) : nth (cnt A) s + nth (cnt X) s = nth (cnt (A ++ X)) s := by
  rw [cnt_nth _ h, cnt_nth _ h, cnt_nth _ h, List.count_append]; push_cast; rfl
theorem call_two {W w w' : World} {rs : List Res} {r s : Res} (h : St W w rs) (h' : St w w' [r, s]) : St W w' (r :: s :: rs) := h.call h'
set_option maxRecDepth 100000 in
set_option maxHeartbeats 8000000 in
theorem frameCounts_any (w0 : World) (ad : Option Addr) (n c : Nat) (l : List Int) (every : Nat) (hn : n ≤ 1048576) (he : every ≤ 1048576) (hv : Sl w0 64 (.slice ad n c) n (l.map (Value.int .i64))) :
    Calls Tryd.prog 46 #[.slice ad n c, .int .i64 every] w0 fun e w => ∃ g1 g2, e = .returned (.tuple #[.slice (some ⟨g1, 0, none⟩) 256 256, .slice (some ⟨g2, 0, none⟩) 256 256]) ∧ St w0 w [own 3 1 (some ⟨g1, 0, none⟩) 256 256 ((cnt (frF l (pts n every))).map (Value.int .i64)), own 3 1 (some ⟨g2, 0, none⟩) 256 256 ((cnt (frR l (pts n every))).map (Value.int .i64))] := by
  have hl : l.length = n * 64 := by have := hv.1; simpa using this
  have HL := hid hl
  clear hl
  have hps := pts_ok n every
  obtain ⟨P, hP⟩ : ∃ P, pts n every = P := ⟨_, rfl⟩
  rw [hP] at hps ⊢
  have HPS := hid hps
  have HPE := hid hP
  clear hP hps
  have hS := St.start w0
  go_enter Tryd.func46, Tryd.ntmps46
  repeat' (first
    | ((with_reducible apply gt9 _ (.assign _)); (first | go_big_want | go_step); go_step) | ((fail_if_success with_reducible apply ga9); go_step))
  apply wp_join2 (rs := fun g13 g14 => [own 3 1 (some ⟨g13, 0, none⟩) 256 256 ((cnt []).map (Value.int .i64)), own 3 1 (some ⟨g14, 0, none⟩) 256 256 ((cnt []).map (Value.int .i64))])
  · skip
    refine drawn_lit [] (fun _ => True) (by kernel_rfl) ?_
    replace hS := hS.drew
    focus
      refine branch [0, 1] (by kernel_rfl) (by simp) (.cons al9 rfl ?_ (.cons al9 rfl ?_ (.nil)))
      rotate_left 1
      focus
        (refine wp_make (o := ⟨some 14, _, _, _, _, _⟩) hS 24 _ _ rfl _ _ _ _ elz24 _ _ _ _ _ _ rfl rfl isn9 isn9 (by omega) (by omega) (by unfold maxLen; omega) ?_; clear hS; intro g14 w hS)
        refine ⟨fun _ h => h, ?_⟩
        refine drawn_move ?_
        go_step
        refine branch1 0 al9 rfl (by kernel_rfl) ?_
        (refine wp_make (o := ⟨some 13, _, _, _, _, _⟩) hS 24 _ _ rfl _ _ _ _ elz24 _ _ _ _ _ _ rfl rfl isn9 isn9 (by omega) (by omega) (by unfold maxLen; omega) ?_; clear hS; intro g13 w hS)
        refine ⟨fun _ h => h, ?_⟩
        refine drawn_move ?_
        go_step
        refine takeA 2 _ al9 (by kernel_rfl) (by kernel_rfl) (by kernel_rfl) (fun _ _ _ _ h => nomatch h.1) rfl ?_
        go_step
        refine takeA 3 _ al9 (by kernel_rfl) (by kernel_rfl) (by kernel_rfl) (fun _ _ _ _ h => nomatch h.1) rfl ?_
        go_step
        refine drawn_done (by kernel_rfl) ?_ _
        exact ⟨rfl, g13, g14, rfl, by rw [cnt_nil]; exact hS.sub sb9⟩
      rotate_right 1
      focus
        (refine wp_make (o := ⟨some 13, _, _, _, _, _⟩) hS 24 _ _ rfl _ _ _ _ elz24 _ _ _ _ _ _ rfl rfl isn9 isn9 (by omega) (by omega) (by unfold maxLen; omega) ?_; clear hS; intro g13 w hS)
        refine ⟨fun _ h => h, ?_⟩
        refine drawn_move ?_
        go_step
        refine takeA 2 _ al9 (by kernel_rfl) (by kernel_rfl) (by kernel_rfl) (fun _ _ _ _ h => nomatch h.1) rfl ?_
        go_step
        refine branch1 1 al9 rfl (by kernel_rfl) ?_
        (refine wp_make (o := ⟨some 14, _, _, _, _, _⟩) hS 24 _ _ rfl _ _ _ _ elz24 _ _ _ _ _ _ rfl rfl isn9 isn9 (by omega) (by omega) (by unfold maxLen; omega) ?_; clear hS; intro g14 w hS)
        refine ⟨fun _ h => h, ?_⟩
        refine drawn_move ?_
        go_step
        refine takeA 3 _ al9 (by kernel_rfl) (by kernel_rfl) (by kernel_rfl) (fun _ _ _ _ h => nomatch h.1) rfl ?_
        go_step
        refine drawn_done (by kernel_rfl) ?_ _
        exact ⟨rfl, g13, g14, rfl, by rw [cnt_nil]; exact hS.sub sb9⟩
  clear hS
  intro g13 g14 w hS
  · skip
    repeat' (first
      | ((with_reducible apply gt9 _ (.call ⟨.value (.func 64), _, _⟩)); refine wpl_call (f := 64) Tryd.call64 (by kernel_rfl) ?_; refine ⟨_, (parts_any _ n every hn he), ?_⟩; rintro e w ⟨a8, c8, m8, hm8, rfl, hS2⟩; rw [HPE.out] at hm8 hS2; have HM8 := hid hm8; replace hS := hS.call1 hS2; clear hS2 hm8; refine ⟨_, rfl, ?_⟩; refine put_move ?_; go_step) | ((with_reducible apply gt9 _ (.move _)); (first | go_big_want | go_step); go_step) | ((with_reducible apply gt9 _ (.call ⟨.builtin .len, _, _⟩)); (refine wvv9 (V.len Tryd.underlying22 rfl) ?_; go_step)) | ((with_reducible apply gt9 _ (.call ⟨.builtin .len, _, _⟩)); (refine wvv9 (V.len Tryd.underlying24 rfl) ?_; go_step)) | ((fail_if_success with_reducible apply ga9); go_step))
    have hm8b : m8 ≤ n + 1 := by rw [← HM8.out, ← HPE.out]; exact pts_len n every
    go_loopg [0, 20] m8 (fun gk sv kv w => ∃ (k r : Nat) (ad : Option Addr) (c : Nat) (L A B : List Int), gk + k = m8 ∧ kv = .int .i64 k ∧ sv = .slice ad r c ∧ r ≤ n ∧ A.length + r * 64 ≤ n * 64 ∧ B.length + r * 64 ≤ n * 64 ∧ Sl w0 64 (.slice ad r c) r (L.map (Value.int .i64)) ∧ Hid (ptsOk r (P.drop k)) ∧ Hid (frF l P = A ++ frF L (P.drop k)) ∧ Hid (frR l P = B ++ frR L (P.drop k)) ∧ St w0 w [own 3 1 a8 m8 c8 (P.map (Value.int .i64)), own 3 1 (some ⟨g13, 0, none⟩) 256 256 ((cnt A).map (Value.int .i64)), own 3 1 (some ⟨g14, 0, none⟩) 256 256 ((cnt B).map (Value.int .i64))])
    case atStart => exact ⟨0, n, ad, c, l, [], [], rfl, rfl, rfl, Nat.le_refl _, by simp, by simp, hv, HPS, hid rfl, hid rfl, hS⟩
    case round =>
      clear hS
      obtain ⟨k, r, ad3, c3, L, A, B, hk, rfl, rfl, hrn, hAl, hBl, hv3, HO, HF, HR, hS⟩ := hrel
      by_cases hlt : k < m8
      · have hLl : L.length = r * 64 := by have := hv3.1; simpa using this
        have hdr : P.drop k = nth P k :: P.drop (k + 1) := by
          rw [List.drop_eq_getElem_cons (by rw [HM8.out]; omega)]
          simp [nth, List.getD, HM8.out, hlt]
        obtain ⟨q, hq⟩ : ∃ q, nth P k = q := ⟨_, rfl⟩
        rw [hq] at hdr
        have ho := HO.out
        have hf := HF.out
        have hr := HR.out
        rw [hdr] at ho hf hr
        obtain ⟨o1, o2, o3⟩ := ho
        rw [frF] at hf
        rw [frR] at hr
        obtain ⟨b, rfl⟩ : ∃ b : Nat, q = (b : Int) := ⟨q.toNat, by omega⟩
        rw [Int.toNat_natCast] at o2 o3 hf hr
        have HQ := hid hq
        have HO2 := hid o3
        have HF2 := hid hf
        have HR2 := hid hr
        clear HO HF HR hdr hq o3 hf hr
        have hcc := hv3.cutAt 0 b (by omega) (by omega)
        rw [show ((L.map (Value.int .i64)).drop (0 * 64)).take ((b - 0) * 64) = (L.take (b * 64)).map (Value.int .i64) by simp] at hcc
        have hc2 := hv3.cutAt b r (by omega) (by omega)
        rw [show ((L.map (Value.int .i64)).drop (b * 64)).take ((r - b) * 64) = (L.drop (b * 64)).map (Value.int .i64) by rw [← List.map_drop, List.take_of_length_le]; simp; omega] at hc2
        have hsy := sy_len hLl b o2
        have hrc : r ≤ c3 := by
          obtain ⟨_, a', c', e1, hnc, _⟩ := hv3
          cases e1
          exact hnc
        have HX1 := hid (syF_take L b)
        have HX2 := hid (syR_take L b)
        obtain ⟨b8, rfl⟩ := own_some (a := a8) hS pl9 (by omega)
        repeat' (first
          | ((with_reducible apply gt9 _ (.move _)); (first | go_big_want | go_step); go_step) | ((with_reducible apply gt9 _ (.assign _)); (first | go_big_want | go_step); go_step) | ((with_reducible apply gt9 _ (.binOp .lss _ _ _ _)); (refine wvv9 (V.lss rfl rfl) ?_; go_step)) | ((with_reducible apply gt9 (some 22) (.indexAddr 24 _ _)); (refine wvv9 (V.indexSl Tryd.underlying24 isz3 rfl rfl isn9 (by omega) (Nat.mul_one _) nq9) ?_; go_step)) | ((with_reducible apply gt9 _ (.load 3 _)); (refine wpl (by kernel_rfl) ?_; apply wp_load1OI hS 3 _ rfl _ _ rfl (one_of rfl) _ _ _ _ _; (case hp => exact pl9); (case hi => omega); refine put_move ?_; go_step)) | ((fail_if_success with_reducible apply ga9); go_step))
        rw [HQ.out]
        repeat' (first
          | ((with_reducible apply gt9 (some 28) _); refine wpl_call (f := 65) Tryd.call65 (by kernel_rfl) ?_; refine ⟨_, (refCounts_any _ (cutAt ad3 c3 0 64) (b - 0) (c3 - 0) (L.take (b * 64)) (by omega) (hcc.ext hS.1)), ?_⟩; rintro e w ⟨g1, g2, rfl, hS2⟩; rw [Nat.sub_zero, HX1.out, HX2.out] at hS2; replace hS := call_two hS hS2; clear hS2; refine ⟨_, rfl, ?_⟩; refine put_move ?_; go_step) | ((with_reducible apply gt9 _ (.move _)); (first | go_big_want | go_step); go_step) | ((with_reducible apply gt9 _ (.assign _)); (first | go_big_want | go_step); go_step) | ((with_reducible apply gt9 _ (.slice 22 _ _ _ _)); (refine wvv9 (V.slice Tryd.underlying22 isz52 rfl (by (first | exact Lo.none | exact Lo.some rfl isn9)) (by (first | exact Up.none | exact Up.some rfl isn9)) (by omega) (by omega)) ?_; go_step)) | ((with_reducible apply gt9 _ (.extract _ _)); (refine wvv9 (V.extract rfl rfl) ?_; go_step)) | ((with_reducible apply gt9 _ (.call ⟨.builtin .len, _, _⟩)); (refine wvv9 (V.len Tryd.underlying24 rfl) ?_; go_step)) | ((fail_if_success with_reducible apply ga9); go_step))
        obtain ⟨gk1, hgk1⟩ : ∃ x, x = gk := ⟨_, rfl⟩
        subst hgk1
        obtain ⟨X, hX⟩ : ∃ X, syF L b = X := ⟨_, rfl⟩
        obtain ⟨Y, hY⟩ : ∃ X, syR L b = X := ⟨_, rfl⟩
        rw [hX, hY] at hS hsy
        rw [hX] at HF2
        rw [hY] at HR2
        clear hX hY HX1 HX2 hcc
        go_loopg [36] 256 (fun gk kv w => ∃ (i : Nat) (l1 l2 : List Int), gk + i = 256 ∧ kv = .int .i64 i ∧ Hid (l1.length = 256) ∧ Hid (l2.length = 256) ∧ Hid (∀ j, j < 256 → nth l1 j = if j < i then nth (cnt (A ++ X)) j else nth (cnt A) j) ∧ Hid (∀ j, j < 256 → nth l2 j = if j < i then nth (cnt (B ++ Y)) j else nth (cnt B) j) ∧ St w0 w [own 3 1 (some ⟨b8, 0, none⟩) m8 c8 (P.map (Value.int .i64)), own 3 1 (some ⟨g13, 0, none⟩) 256 256 (l1.map (Value.int .i64)), own 3 1 (some ⟨g14, 0, none⟩) 256 256 (l2.map (Value.int .i64)), own 3 1 (some ⟨g1, 0, none⟩) 256 256 ((cnt X).map (Value.int .i64)), own 3 1 (some ⟨g2, 0, none⟩) 256 256 ((cnt Y).map (Value.int .i64))])
        case atStart => exact ⟨0, cnt A, cnt B, rfl, rfl, hid (cnt_len _), hid (cnt_len _), hid (fun j hj => by rw [if_neg (by omega)]), hid (fun j hj => by rw [if_neg (by omega)]), hS.sub sb9⟩
        case round =>
          clear hS
          obtain ⟨i, l1, l2, hi, rfl, HL1, HL2, HV1, HV2, hS⟩ := hrel
          by_cases hlt2 : i < 256
          · have e1 := HV1.out i hlt2
            have e2 := HV2.out i hlt2
            rw [if_neg (by omega)] at e1 e2
            have a1 := cnt_bd A hlt2
            have a2 := cnt_bd B hlt2
            have a3 := cnt_bd X hlt2
            have a4 := cnt_bd Y hlt2
            rw [← e1] at a1
            rw [← e2] at a2
            have HA1 := hid (show nth l1 i + nth (cnt X) i = nth (cnt (A ++ X)) i by rw [e1]; exact cnt_add hlt2)
            have HA2 := hid (show nth l2 i + nth (cnt Y) i = nth (cnt (B ++ Y)) i by rw [e2]; exact cnt_add hlt2)
            clear e1 e2
            repeat' (first
              | ((with_reducible apply gt9 _ (.move _)); (first | go_big_want | go_step); go_step) | ((with_reducible apply gt9 _ (.assign _)); (first | go_big_want | go_step); go_step) | ((with_reducible apply gt9 _ (.binOp .lss _ _ _ _)); (refine wvv9 (V.lss rfl rfl) ?_; go_step)) | ((fail_if_success with_reducible apply ga9); go_step))
            refine drawn_lit [10] (fun w => St w0 w [own 3 1 (some ⟨g13, 0, none⟩) 256 256 (l1.map (Value.int .i64)), own 3 1 (some ⟨g1, 0, none⟩) 256 256 ((cnt X).map (Value.int .i64))]) (by kernel_rfl) ?_
            replace hS := hS.drew
            focus
              refine takeM 0 _ al9 (by kernel_rfl) (by kernel_rfl) (by kernel_rfl) (by exact fun _ _ _ _ h => h) rfl ?_
              go_step
              refine takeM 1 _ al9 (by kernel_rfl) (by kernel_rfl) (by kernel_rfl) (by exact fun _ _ _ _ h => h) rfl ?_
              go_step
              (refine takeV 2 _ al9 (by kernel_rfl) (by kernel_rfl) (by kernel_rfl) (by exact fun _ _ _ _ h => h) (V.indexSl Tryd.underlying24 isz3 rfl rfl isn9 (by omega) (Nat.mul_one _) nq9) rfl ?_)
              go_step
              apply takeS 3 al9 (by kernel_rfl) (by kernel_rfl) (by kernel_rfl) (by exact fun _ _ _ _ h => h) [8, 9, 10] (by kernel_rfl) (hS.sub sb9)
              case hfr => intro w hS; ((refine wpl (by kernel_rfl) ?_; apply wp_load1OI hS 3 _ rfl _ _ rfl (one_of rfl) _ _ _ _ _; (case hp => exact pl9); (case hi => omega); refine put_move ?_; go_step)); refine wpList_nil ?_; exact ⟨rfl, rfl⟩
              case hd => rfl
              refine takeM 4 _ al9 (by kernel_rfl) (by kernel_rfl) (by kernel_rfl) (by exact fun _ _ _ _ h => h) rfl ?_
              go_step
              refine takeM 5 _ al9 (by kernel_rfl) (by kernel_rfl) (by kernel_rfl) (by exact fun _ _ _ _ h => h) rfl ?_
              go_step
              (refine takeV 6 _ al9 (by kernel_rfl) (by kernel_rfl) (by kernel_rfl) (by exact fun _ _ _ _ h => h) (V.indexSl Tryd.underlying24 isz3 rfl rfl isn9 (by omega) (Nat.mul_one _) nq9) rfl ?_)
              go_step
              apply takeS 7 al9 (by kernel_rfl) (by kernel_rfl) (by kernel_rfl) (by exact fun _ _ _ _ h => h) [8, 9, 10] (by kernel_rfl) (hS.sub sb9)
              case hfr => intro w hS; ((refine wpl (by kernel_rfl) ?_; apply wp_load1OI hS 3 _ rfl _ _ rfl (one_of rfl) _ _ _ _ _; (case hp => exact pl9); (case hi => omega); refine put_move ?_; go_step)); refine wpList_nil ?_; exact ⟨rfl, rfl⟩
              case hd => rfl
              (refine takeV 8 _ al9 (by kernel_rfl) (by kernel_rfl) (by kernel_rfl) (by exact fun _ _ _ _ h => h) (V.addI rfl rfl (by omega)) rfl ?_)
              go_step
              (refine takeV 9 _ al9 (by kernel_rfl) (by kernel_rfl) (by kernel_rfl) (by exact fun _ _ _ _ h => h) (V.indexSl Tryd.underlying24 isz3 rfl rfl isn9 (by omega) (Nat.mul_one _) nq9) rfl ?_)
              go_step
              refine branch1 10 al9 rfl (by kernel_rfl) ?_
              (refine wp_store1OI hS 3 _ _ rfl _ _ rfl (one_of rfl) _ _ _ _ _ pl9 _ (by rfl) (by omega) rfl ?_; clear hS; intro w hS)
              refine ⟨fun h => absurd (by decide) h, ?_⟩
              refine drawn_done (by kernel_rfl) ?_ _
            repeat' ((fail_if_success with_reducible apply ga9); go_step)
            refine drawn_lit [10] (fun w => St w0 w [own 3 1 (some ⟨g14, 0, none⟩) 256 256 (l2.map (Value.int .i64)), own 3 1 (some ⟨g2, 0, none⟩) 256 256 ((cnt Y).map (Value.int .i64))]) (by kernel_rfl) ?_
            replace hS := hS.drew
            focus
              refine takeM 0 _ al9 (by kernel_rfl) (by kernel_rfl) (by kernel_rfl) (by exact fun _ _ _ _ h => h) rfl ?_
              go_step
              refine takeM 1 _ al9 (by kernel_rfl) (by kernel_rfl) (by kernel_rfl) (by exact fun _ _ _ _ h => h) rfl ?_
              go_step
              (refine takeV 2 _ al9 (by kernel_rfl) (by kernel_rfl) (by kernel_rfl) (by exact fun _ _ _ _ h => h) (V.indexSl Tryd.underlying24 isz3 rfl rfl isn9 (by omega) (Nat.mul_one _) nq9) rfl ?_)
              go_step
              apply takeS 3 al9 (by kernel_rfl) (by kernel_rfl) (by kernel_rfl) (by exact fun _ _ _ _ h => h) [8, 9, 10] (by kernel_rfl) (hS.sub sb9)
              case hfr => intro w hS; ((refine wpl (by kernel_rfl) ?_; apply wp_load1OI hS 3 _ rfl _ _ rfl (one_of rfl) _ _ _ _ _; (case hp => exact pl9); (case hi => omega); refine put_move ?_; go_step)); refine wpList_nil ?_; exact ⟨rfl, rfl⟩
              case hd => rfl
              refine takeM 4 _ al9 (by kernel_rfl) (by kernel_rfl) (by kernel_rfl) (by exact fun _ _ _ _ h => h) rfl ?_
              go_step
              refine takeM 5 _ al9 (by kernel_rfl) (by kernel_rfl) (by kernel_rfl) (by exact fun _ _ _ _ h => h) rfl ?_
              go_step
              (refine takeV 6 _ al9 (by kernel_rfl) (by kernel_rfl) (by kernel_rfl) (by exact fun _ _ _ _ h => h) (V.indexSl Tryd.underlying24 isz3 rfl rfl isn9 (by omega) (Nat.mul_one _) nq9) rfl ?_)
              go_step
              apply takeS 7 al9 (by kernel_rfl) (by kernel_rfl) (by kernel_rfl) (by exact fun _ _ _ _ h => h) [8, 9, 10] (by kernel_rfl) (hS.sub sb9)
              case hfr => intro w hS; ((refine wpl (by kernel_rfl) ?_; apply wp_load1OI hS 3 _ rfl _ _ rfl (one_of rfl) _ _ _ _ _; (case hp => exact pl9); (case hi => omega); refine put_move ?_; go_step)); refine wpList_nil ?_; exact ⟨rfl, rfl⟩
              case hd => rfl
              (refine takeV 8 _ al9 (by kernel_rfl) (by kernel_rfl) (by kernel_rfl) (by exact fun _ _ _ _ h => h) (V.addI rfl rfl (by omega)) rfl ?_)
              go_step
              (refine takeV 9 _ al9 (by kernel_rfl) (by kernel_rfl) (by kernel_rfl) (by exact fun _ _ _ _ h => h) (V.indexSl Tryd.underlying24 isz3 rfl rfl isn9 (by omega) (Nat.mul_one _) nq9) rfl ?_)
              go_step
              refine branch1 10 al9 rfl (by kernel_rfl) ?_
              (refine wp_store1OI hS 3 _ _ rfl _ _ rfl (one_of rfl) _ _ _ _ _ pl9 _ (by rfl) (by omega) rfl ?_; clear hS; intro w hS)
              refine ⟨fun h => absurd (by decide) h, ?_⟩
              refine drawn_done (by kernel_rfl) ?_ _
            repeat' (first
              | ((with_reducible apply gt9 _ (.move _)); (first | go_big_want | go_step); go_step) | ((with_reducible apply gt9 _ (.binOp .add _ _ _ _)); (refine wvv9 (V.addI rfl rfl (by omega)) ?_; go_step)) | ((fail_if_success with_reducible apply ga9); go_step))
            rw [HA1.out, HA2.out] at hS
            have nset : ∀ (l : List Int) (D E : List Int), l.length = 256 → (∀ j, j < 256 → nth l j = if j < i then nth (cnt (D ++ E)) j else nth (cnt D) j) → ∀ j, j < 256 → nth (l.set i (nth (cnt (D ++ E)) i)) j = if j < i + 1 then nth (cnt (D ++ E)) j else nth (cnt D) j := fun l D E h1 h2 j hj => by
              rw [nth_set _ _ _ _ (by rw [h1]; exact hlt2)]
              by_cases h : i = j
              · subst h; rw [if_pos rfl, if_pos (by omega)]
              · rw [if_neg h, h2 j hj]
                by_cases h3 : j < i
                · rw [if_pos h3, if_pos (by omega)]
                · rw [if_neg h3, if_neg (by omega)]
            go_roundg (gk - 1)
            case measure => omega
            case rel => exact ⟨i + 1, l1.set i (nth (cnt (A ++ X)) i), l2.set i (nth (cnt (B ++ Y)) i), by omega, by go_num, hid (by rw [List.length_set]; exact HL1.out), hid (by rw [List.length_set]; exact HL2.out), hid (nset _ _ _ HL1.out HV1.out), hid (nset _ _ _ HL2.out HV2.out), hS.sub sb9⟩
          · obtain rfl : i = 256 := by omega
            have q1 : l1 = cnt (A ++ X) := cnt_ext HL1.out (cnt_len _) fun j hj => by rw [HV1.out j hj, if_pos hj]
            have q2 : l2 = cnt (B ++ Y) := cnt_ext HL2.out (cnt_len _) fun j hj => by rw [HV2.out j hj, if_pos hj]
            rw [q1, q2] at hS
            repeat' (first
              | ((with_reducible apply gt9 _ (.binOp .lss _ _ _ _)); (refine wvv9 (V.lss rfl rfl) ?_; go_step)) | ((fail_if_success with_reducible apply ga9); go_step))
            repeat' (first
              | ((with_reducible apply gt9 _ (.move _)); (first | go_big_want | go_step); go_step) | ((with_reducible apply gt9 _ (.binOp .add _ _ _ _)); (refine wvv9 (V.addI rfl rfl (by omega)) ?_; go_step)) | ((fail_if_success with_reducible apply ga9); go_step))
            go_roundg (gk1 - 1)
            case measure => omega
            case rel => exact ⟨k + 1, r - b, cutAt ad3 c3 b 64, c3 - b, L.drop (b * 64), A ++ X, B ++ Y, by omega, by go_num, rfl, by omega, by rw [List.length_append]; omega, by rw [List.length_append]; omega, hc2, HO2, hid (by rw [HF2.out, List.append_assoc]), hid (by rw [HR2.out, List.append_assoc]), hS.sub sb9⟩
      · obtain rfl : k = m8 := by omega
        have hf := HF.out
        have hr := HR.out
        rw [show P.drop k = [] by rw [List.drop_eq_nil_iff, HM8.out]; omega] at hf hr
        rw [frF, List.append_nil] at hf
        rw [frR, List.append_nil] at hr
        have HF2 := hid hf
        have HR2 := hid hr
        clear hf hr
        repeat' (first
          | ((with_reducible apply gt9 _ (.move _)); (first | go_big_want | go_step); go_step) | ((with_reducible apply gt9 _ (.assign _)); (first | go_big_want | go_step); go_step) | ((with_reducible apply gt9 _ (.binOp .lss _ _ _ _)); (refine wvv9 (V.lss rfl rfl) ?_; go_step)) | ((fail_if_success with_reducible apply ga9); go_step))
        repeat' (first
          | ((fail_if_success with_reducible apply ga9); go_step))
        refine ret_all (xs := [_, _]) rfl (.cons (OneRes.tmp rfl) (.cons (OneRes.tmp rfl) (.nil))) (by simp) rfl ?_
        refine ⟨g13, g14, rfl, ?_⟩
        rw [HF2.out, HR2.out]
        exact hS.sub sb9
end Go.Proofs.YtehbjhocgnfpmaaDoor

/- Sorting in place, in plain lists: places turned, an element moved, a rotation, a merge (SymMerge). -/
namespace Go.Proofs.YtehbjhocgnfpmaaDoor
set_option linter.unusedVariables false
section
variable {α : Type} [Inhabited α]
/-- the element at a place -/
def elt (l : List α) (i : Nat) : α := l.getD i default
theorem elt_set (l : List α) (i j : Nat) (z : α) (h : i < l.length) : elt (l.set i z) j = if i = j then z else elt l j := by
  unfold elt
  simp only [List.getD_eq_getElem?_getD, List.getElem?_set]
  split
  · simp
  · rfl
theorem elt_app1 (l m : List α) (i : Nat) (h : i < l.length) : elt (l ++ m) i = elt l i := by simp [elt, List.getElem?_append_left h]
theorem elt_app2 (l m : List α) (i : Nat) (h : l.length ≤ i) : elt (l ++ m) i = elt m (i - l.length) := by simp [elt, List.getElem?_append_right h]
theorem elt_mem {l : List α} {i : Nat} (h : i < l.length) : elt l i ∈ l := by simp [elt, h]
theorem elt_of_mem {l : List α} {x : α} (h : x ∈ l) : ∃ i, i < l.length ∧ elt l i = x := by
  obtain ⟨i, hi, e⟩ := List.getElem_of_mem h
  exact ⟨i, hi, by simp [elt, hi, e]⟩
theorem elt_ext {l m : List α} (h : l.length = m.length) (k : ∀ i, i < l.length → elt l i = elt m i) : l = m := by
  apply List.ext_getElem h
  intro i h1 h2
  have := k i h1
  simpa [elt, h1, h2] using this
theorem elt_take (l : List α) (n i : Nat) (h : i < n) : elt (l.take n) i = elt l i := by simp [elt, h]
theorem elt_drop (l : List α) (n i : Nat) : elt (l.drop n) i = elt l (n + i) := by simp [elt]
/-- the same but for the order of what lies from a up to b -/
structure Rg (a b : Nat) (P P' : List α) : Prop where
  len : P'.length = P.length
  out : ∀ x, x < a ∨ b ≤ x → elt P' x = elt P x
  perm : ((P'.drop a).take (b - a)).Perm ((P.drop a).take (b - a))
theorem Rg.refl (a b : Nat) (P : List α) : Rg a b P P := ⟨rfl, fun _ _ => rfl, List.Perm.refl _⟩
theorem Rg.trans {a b : Nat} {P Q R : List α} (h : Rg a b P Q) (k : Rg a b Q R) : Rg a b P R :=
  ⟨k.len.trans h.len, fun x hx => (k.out x hx).trans (h.out x hx), k.perm.trans h.perm⟩
/-- where an element of the range came from -/
theorem Rg.from {a b : Nat} {P P' : List α} (h : Rg a b P P') (hb : b ≤ P.length) {x : Nat} (h1 : a ≤ x) (h2 : x < b) : ∃ y, a ≤ y ∧ y < b ∧ elt P' x = elt P y := by
  have hl := h.len
  have e : elt P' x = elt ((P'.drop a).take (b - a)) (x - a) := by rw [elt_take _ _ _ (by omega), elt_drop]; congr 1; omega
  have hm : elt P' x ∈ (P'.drop a).take (b - a) := by rw [e]; exact elt_mem (by simp; omega)
  obtain ⟨i, hi, e2⟩ := elt_of_mem (h.perm.mem_iff.1 hm)
  simp at hi
  exact ⟨a + i, by omega, by omega, by rw [← e2, elt_take _ _ _ (by omega), elt_drop]⟩
/-- a range within a greater one -/
theorem Rg.wide {a b c d : Nat} {P P' : List α} (h : Rg a b P P') (hca : c ≤ a) (hbd : b ≤ d) (hab : a ≤ b) (hd : b ≤ P.length) : Rg c d P P' := by
  refine ⟨h.len, fun x hx => h.out x (by omega), ?_⟩
  have cut : ∀ Q : List α, (Q.drop c).take (d - c) = (Q.drop c).take (a - c) ++ ((Q.drop a).take (b - a) ++ (Q.drop b).take (d - b)) := fun Q => by
    have e1 : d - c = (a - c) + ((b - a) + (d - b)) := by omega
    rw [e1, List.take_add, List.take_add, List.drop_drop, List.drop_drop]
    congr 4 <;> omega
  have hl := h.len
  rw [cut, cut]
  have e1 : (P'.drop c).take (a - c) = (P.drop c).take (a - c) := elt_ext (by simp [hl]) fun i hi => by
    simp at hi; rw [elt_take _ _ _ (by omega), elt_take _ _ _ (by omega), elt_drop, elt_drop, h.out _ (by omega)]
  have e2 : (P'.drop b).take (d - b) = (P.drop b).take (d - b) := elt_ext (by simp [hl]) fun i hi => by
    simp at hi; rw [elt_take _ _ _ (by omega), elt_take _ _ _ (by omega), elt_drop, elt_drop, h.out _ (by omega)]
  rw [e1, e2]
  exact List.Perm.append_left _ (List.Perm.append_right _ h.perm)
theorem Rg.all {P P' : List α} (h : Rg 0 P.length P P') : P'.Perm P := by
  have := h.perm
  simp only [List.drop_zero, Nat.sub_zero, List.take_length] at this
  rwa [← h.len, List.take_length] at this
/-- two places turned -/
def swp (P : List α) (i j : Nat) : List α := (P.set i (elt P j)).set j (elt P i)
theorem swp_len (P : List α) (i j : Nat) : (swp P i j).length = P.length := by simp [swp]
theorem elt_swp (P : List α) (i j x : Nat) (hi : i < P.length) (hj : j < P.length) : elt (swp P i j) x = if j = x then elt P i else if i = x then elt P j else elt P x := by
  unfold swp
  rw [elt_set _ _ _ _ (by simpa using hj), elt_set _ _ _ _ hi]
theorem set_perm (l : List α) (i : Nat) (z : α) (h : i < l.length) : (elt l i :: l.set i z).Perm (z :: l) := by
  induction l generalizing i with
  | nil => simp at h
  | cons a l ih =>
    cases i with
    | zero => simp only [elt, List.getD_cons_zero, List.set_cons_zero]; exact List.Perm.swap _ _ _
    | succ i =>
      have := ih i (by simpa using h)
      simp only [List.set_cons_succ]
      have e : elt (a :: l) (i + 1) = elt l i := by simp [elt]
      rw [e]
      exact (List.Perm.swap _ _ _).trans ((this.cons a).trans (List.Perm.swap _ _ _))
theorem swp_perm (P : List α) (i j : Nat) (hi : i < P.length) (hj : j < P.length) : (swp P i j).Perm P := by
  unfold swp
  have h1 := set_perm (P.set i (elt P j)) j (elt P i) (by simpa using hj)
  have h2 := set_perm P i (elt P j) hi
  rw [elt_set _ _ _ _ hi] at h1
  have e : (if i = j then elt P j else elt P j) = elt P j := by split <;> rfl
  rw [e] at h1
  exact (h1.trans h2).cons_inv
theorem swp_mid (P : List α) (a b i j : Nat) (hi : a ≤ i) (hib : i < b) (hj : a ≤ j) (hjb : j < b) (hb : b ≤ P.length) : Rg a b P (swp P i j) := by
  refine ⟨swp_len P i j, fun x hx => by rw [elt_swp _ _ _ _ (by omega) (by omega), if_neg (by omega), if_neg (by omega)], ?_⟩
  have e : ((swp P i j).drop a).take (b - a) = swp ((P.drop a).take (b - a)) (i - a) (j - a) := by
    refine elt_ext (by simp [swp_len]) fun x hx => ?_
    simp [swp_len] at hx
    rw [elt_take _ _ _ (by omega), elt_drop, elt_swp _ _ _ _ (by omega) (by omega), elt_swp _ _ _ _ (by simp; omega) (by simp; omega), elt_take _ _ (i - a) (by omega), elt_take _ _ (j - a) (by omega), elt_take _ _ x (by omega), elt_drop, elt_drop, elt_drop]
    rw [show a + (i - a) = i by omega, show a + (j - a) = j by omega]
    by_cases h1 : j = a + x
    · rw [if_pos h1, if_pos (show j - a = x by omega)]
    · rw [if_neg h1, if_neg (show ¬ j - a = x by omega)]
      by_cases h2 : i = a + x
      · rw [if_pos h2, if_pos (show i - a = x by omega)]
      · rw [if_neg h2, if_neg (show ¬ i - a = x by omega)]
  rw [e]
  exact swp_perm _ _ _ (by simp; omega) (by simp; omega)
variable (key : α → Int)
def Asc (lo hi : Nat) (P : List α) : Prop := ∀ i j, lo ≤ i → i ≤ j → j < hi → key (elt P i) ≤ key (elt P j)
variable {key}
theorem Asc.same {lo hi : Nat} {P Q : List α} (h : Asc key lo hi P) (e : ∀ x, lo ≤ x → x < hi → elt Q x = elt P x) : Asc key lo hi Q := fun i j h1 h2 h3 => by
  rw [e i h1 (by omega), e j (by omega) h3]; exact h i j h1 h2 h3
theorem Asc.sub {lo hi lo' hi' : Nat} {P : List α} (h : Asc key lo hi P) (h1 : lo ≤ lo') (h2 : hi' ≤ hi) : Asc key lo' hi' P := fun i j k1 k2 k3 => h i j (by omega) k2 (by omega)
theorem Asc.pair {P : List α} (h : Asc key 0 P.length P) : P.Pairwise (fun a b => key a ≤ key b) := by
  rw [List.pairwise_iff_getElem]
  intro i j hi hj hij
  have := h i j (by omega) (by omega) hj
  simpa [elt, hi, hj] using this
/-- a rotation, by places -/
theorem rot_at (A U V B : List α) (x : Nat) : elt (A ++ (V ++ (U ++ B))) x = if x < A.length then elt (A ++ (U ++ (V ++ B))) x else if x < A.length + V.length then elt (A ++ (U ++ (V ++ B))) (x + U.length) else if x < A.length + V.length + U.length then elt (A ++ (U ++ (V ++ B))) (x - V.length) else elt (A ++ (U ++ (V ++ B))) x := by
  by_cases h1 : x < A.length
  · rw [if_pos h1, elt_app1 _ _ _ h1, elt_app1 _ _ _ h1]
  · rw [if_neg h1, elt_app2 _ _ _ (by omega)]
    by_cases h2 : x < A.length + V.length
    · rw [if_pos h2, elt_app1 _ _ _ (by omega), elt_app2 A _ _ (by omega), elt_app2 U _ _ (by omega), elt_app1 V _ _ (by omega)]; congr 1; omega
    · rw [if_neg h2, elt_app2 _ _ _ (by omega)]
      by_cases h3 : x < A.length + V.length + U.length
      · rw [if_pos h3, elt_app1 _ _ _ (by omega), elt_app2 A _ _ (by omega), elt_app1 U _ _ (by omega)]; congr 1; omega
      · rw [if_neg h3, elt_app2 U _ _ (by omega), elt_app2 A _ _ (by omega), elt_app2 U _ _ (by omega), elt_app2 V _ _ (by omega)]; congr 1; omega
/-- what a rotation is -/
def Rot (a m b : Nat) (P P' : List α) : Prop := ∃ A U V B, P = A ++ (U ++ (V ++ B)) ∧ P' = A ++ (V ++ (U ++ B)) ∧ A.length = a ∧ U.length = m - a ∧ V.length = b - m
theorem Rot.rg {a m b : Nat} {P P' : List α} (h : Rot a m b P P') (h1 : a ≤ m) (h2 : m ≤ b) : Rg a b P P' := by
  obtain ⟨A, U, V, B, rfl, rfl, rfl, hu, hv⟩ := h
  refine ⟨by simp; omega, fun x hx => ?_, ?_⟩
  · rw [rot_at]
    rcases hx with hx | hx
    · rw [if_pos hx]
    · rw [if_neg (by omega), if_neg (by omega), if_neg (by omega)]
  · rw [List.drop_left' rfl, List.drop_left' rfl, ← List.append_assoc, ← List.append_assoc, List.take_left' (by simp; omega), List.take_left' (by simp; omega)]
    exact List.perm_append_comm
theorem Rot.at {a m b : Nat} {P P' : List α} (h : Rot a m b P P') (h1 : a ≤ m) (h2 : m ≤ b) (x : Nat) : elt P' x = if x < a then elt P x else if x < a + (b - m) then elt P (x + (m - a)) else if x < b then elt P (x - (b - m)) else elt P x := by
  obtain ⟨A, U, V, B, rfl, rfl, rfl, hu, hv⟩ := h
  rw [rot_at, hu, hv]
  rw [show A.length + (b - m) + (m - A.length) = b by omega]
theorem Rot.triv {β : Type} {a m b : Nat} {P : List β} (h1 : a ≤ m) (h2 : m ≤ b) (hb : b ≤ P.length) (h : m = a ∨ m = b) : Rot a m b P P := by
  refine ⟨P.take a, (P.drop a).take (m - a), (P.drop m).take (b - m), P.drop b, ?_, ?_, by simp; omega, by simp; omega, by simp; omega⟩
  · have e1 : (P.drop m).take (b - m) ++ P.drop b = P.drop m := by
      have := List.take_append_drop (b - m) (P.drop m)
      rw [List.drop_drop, show m + (b - m) = b by omega] at this; exact this
    have e2 : (P.drop a).take (m - a) ++ P.drop m = P.drop a := by
      have := List.take_append_drop (m - a) (P.drop a)
      rw [List.drop_drop, show a + (m - a) = m by omega] at this; exact this
    rw [e1, e2, List.take_append_drop]
  · rcases h with rfl | rfl
    · rw [Nat.sub_self, List.take_zero, List.nil_append]
      have e1 : (P.drop m).take (b - m) ++ P.drop b = P.drop m := by
        have := List.take_append_drop (b - m) (P.drop m)
        rw [List.drop_drop, show m + (b - m) = b by omega] at this; exact this
      rw [e1, List.take_append_drop]
    · rw [Nat.sub_self, List.take_zero, List.nil_append]
      have e2 : (P.drop a).take (m - a) ++ P.drop m = P.drop a := by
        have := List.take_append_drop (m - a) (P.drop a)
        rw [List.drop_drop, show a + (m - a) = m by omega] at this; exact this
      rw [e2, List.take_append_drop]
/-- SYMMERGE: behind the search and the rotation each part can be merged by itself. -/
theorem sym_parts {a m b mid st en : Nat} {P Q : List α} (h1 : Asc key a m P) (h2 : Asc key m b P) (ham : a < m) (hmb : m < b) (hmid : mid = (a + b) / 2) (hen : en = mid + m - st) (hs1 : a ≤ st) (hs2 : st ≤ m) (hs3 : st ≤ mid) (he1 : m ≤ en) (he2 : en ≤ b)
    (hlo : a < st → m ≤ en → en < b → key (elt P (st - 1)) ≤ key (elt P en)) (hhi : m < en → st < m → key (elt P (en - 1)) ≤ key (elt P st)) (hr : Rot st m en P Q) :
    Asc key a st Q ∧ Asc key st mid Q ∧ Asc key mid en Q ∧ Asc key en b Q ∧ ∀ x y, a ≤ x → x < mid → mid ≤ y → y < b → key (elt Q x) ≤ key (elt Q y) := by
  have ha := hr.at hs2 he1
  have em : st + (en - m) = mid := by omega
  rw [em] at ha
  have hA : ∀ x, x < st → elt Q x = elt P x := fun x h => by rw [ha, if_pos h]
  have hB : ∀ x, st ≤ x → x < mid → elt Q x = elt P (x + (m - st)) := fun x h h' => by rw [ha, if_neg (by omega), if_pos h']
  have hC : ∀ x, mid ≤ x → x < en → elt Q x = elt P (x - (en - m)) := fun x h h' => by rw [ha, if_neg (by omega), if_neg (by omega), if_pos h']
  have hD : ∀ x, en ≤ x → elt Q x = elt P x := fun x h => by rw [ha, if_neg (by omega), if_neg (by omega), if_neg (by omega)]
  clear ha hr
  refine ⟨h1.sub (Nat.le_refl _) hs2 |>.same fun x _ hx => hA x hx, ?_, ?_, h2.sub he1 (Nat.le_refl _) |>.same fun x hx _ => hD x hx, ?_⟩
  · intro i j k1 k2 k3
    rw [hB i k1 (by omega), hB j (by omega) k3]
    exact h2 _ _ (by omega) (by omega) (by omega)
  · intro i j k1 k2 k3
    rw [hC i k1 (by omega), hC j (by omega) k3]
    exact h1 _ _ (by omega) (by omega) (by omega)
  · intro x y k1 k2 k3 k4
    by_cases c1 : x < st
    · rw [hA x c1]
      by_cases c2 : y < en
      · rw [hC y k3 c2]; exact h1 _ _ (by omega) (by omega) (by omega)
      · rw [hD y (by omega)]
        have t1 := h1 x (st - 1) k1 (by omega) (by omega)
        have t2 := hlo (by omega) he1 (by omega)
        have t3 := h2 en y he1 (by omega) k4
        omega
    · rw [hB x (by omega) k2]
      by_cases c2 : y < en
      · rw [hC y k3 c2]
        have t1 := h2 (x + (m - st)) (en - 1) (by omega) (by omega) (by omega)
        have t2 := hhi (by omega) (by omega)
        have t3 := h1 st (y - (en - m)) hs1 (by omega) (by omega)
        omega
      · rw [hD y (by omega)]; exact h2 _ _ (by omega) (by omega) (by omega)
theorem sym_join {a mid b : Nat} {Q R S : List α} (h1 : a ≤ mid) (h2 : mid ≤ b) (hb : b ≤ Q.length) (hx : ∀ x y, a ≤ x → x < mid → mid ≤ y → y < b → key (elt Q x) ≤ key (elt Q y)) (r1 : Rg a mid Q R) (r2 : Rg mid b R S) (s1 : Asc key a mid R) (s2 : Asc key mid b S) : Asc key a b S ∧ Rg a b Q S := by
  refine ⟨fun i j k1 k2 k3 => ?_, (r1.wide (Nat.le_refl _) h2 h1 (by omega)).trans (r2.wide h1 (Nat.le_refl _) h2 (by rw [r1.len]; omega))⟩
  by_cases c1 : j < mid
  · rw [r2.out i (by omega), r2.out j (by omega)]; exact s1 i j k1 k2 c1
  · by_cases c2 : i < mid
    · obtain ⟨x, x1, x2, ex⟩ := r1.from (by omega) k1 c2
      obtain ⟨y, y1, y2, ey⟩ := r2.from (by rw [r1.len]; omega) (show mid ≤ j by omega) k3
      rw [r2.out i (by omega), ex, ey, r1.out y (by omega)]
      exact hx x y x1 x2 y1 y2
    · exact s2 i j (by omega) k2 k3
/-- one element moved down into what is sorted -/
theorem ins_asc {lo i p : Nat} {P Q : List α} (h1 : Asc key lo i P) (hp1 : lo ≤ p) (hp2 : p ≤ i) (e1 : ∀ x, x < p → elt Q x = elt P x) (e2 : elt Q p = elt P i) (e3 : ∀ x, p < x → x ≤ i → elt Q x = elt P (x - 1))
    (hlo : lo < p → key (elt P (p - 1)) ≤ key (elt P i)) (hhi : p < i → key (elt P i) ≤ key (elt P p)) : Asc key lo (i + 1) Q := by
  intro x y k1 k2 k3
  by_cases c1 : x < p
  · rw [e1 x c1]
    by_cases c2 : y < p
    · rw [e1 y c2]; exact h1 x y k1 k2 (by omega)
    · by_cases c3 : y = p
      · rw [c3, e2]; have := h1 x (p - 1) k1 (by omega) (by omega); have := hlo (by omega); omega
      · rw [e3 y (by omega) (by omega)]; exact h1 x (y - 1) k1 (by omega) (by omega)
  · by_cases c2 : x = p
    · rw [c2, e2]
      by_cases c3 : y = p
      · rw [c3, e2]; exact Int.le_refl _
      · rw [e3 y (by omega) (by omega)]
        have := h1 p (y - 1) (by omega) (by omega) (by omega); have := hhi (by omega); omega
    · rw [e3 x (by omega) (by omega), e3 y (by omega) (by omega)]
      exact h1 (x - 1) (y - 1) (by omega) (by omega) (by omega)
end
section
variable {α : Type} [Inhabited α] {key : α → Int}
/-- the element i moved down to j -/
structure Dn (i j : Nat) (P Q : List α) : Prop where
  len : Q.length = P.length
  lo : ∀ x, x < j → elt Q x = elt P x
  eq : elt Q j = elt P i
  mid : ∀ x, j < x → x ≤ i → elt Q x = elt P (x - 1)
  hi : ∀ x, i < x → elt Q x = elt P x
theorem Dn.refl (i : Nat) (P : List α) : Dn i i P P := ⟨rfl, fun _ _ => rfl, rfl, fun x h1 h2 => by omega, fun _ _ => rfl⟩
theorem Dn.step {i j : Nat} {P Q : List α} (h : Dn i j P Q) (h1 : 0 < j) (h2 : j ≤ i) (h3 : i < P.length) : Dn i (j - 1) P (swp Q j (j - 1)) := by
  have hl := h.len
  have e := fun x => elt_swp Q j (j - 1) x (by omega) (by omega)
  refine ⟨by rw [swp_len, hl], fun x hx => ?_, ?_, fun x k1 k2 => ?_, fun x hx => ?_⟩
  · rw [e, if_neg (by omega), if_neg (by omega), h.lo x (by omega)]
  · rw [e, if_pos rfl, h.eq]
  · rw [e, if_neg (by omega)]
    by_cases c : j = x
    · rw [if_pos c, h.lo _ (by omega), c]
    · rw [if_neg c, h.mid x (by omega) k2]
  · rw [e, if_neg (by omega), if_neg (by omega), h.hi x hx]
theorem Dn.asc {lo i p : Nat} {P Q : List α} (h : Dn i p P Q) (h1 : Asc key lo i P) (hp1 : lo ≤ p) (hp2 : p ≤ i) (hlo : lo < p → key (elt P (p - 1)) ≤ key (elt P i)) (hhi : p < i → key (elt P i) ≤ key (elt P p)) : Asc key lo (i + 1) Q :=
  ins_asc h1 hp1 hp2 h.lo h.eq h.mid hlo hhi
/-- the element a moved up to k -/
structure Upw (a k : Nat) (P Q : List α) : Prop where
  len : Q.length = P.length
  lo : ∀ x, x < a → elt Q x = elt P x
  mid : ∀ x, a ≤ x → x < k → elt Q x = elt P (x + 1)
  eq : elt Q k = elt P a
  hi : ∀ x, k < x → elt Q x = elt P x
theorem Upw.refl (i : Nat) (P : List α) : Upw i i P P := ⟨rfl, fun _ _ => rfl, fun x h1 h2 => by omega, rfl, fun _ _ => rfl⟩
theorem Upw.step {a k : Nat} {P Q : List α} (h : Upw a k P Q) (h1 : a ≤ k) (h3 : k + 1 < P.length) : Upw a (k + 1) P (swp Q k (k + 1)) := by
  have hl := h.len
  have e := fun x => elt_swp Q k (k + 1) x (by omega) (by omega)
  refine ⟨by rw [swp_len, hl], fun x hx => ?_, fun x k1 k2 => ?_, ?_, fun x hx => ?_⟩
  · rw [e, if_neg (by omega), if_neg (by omega), h.lo x hx]
  · rw [e, if_neg (by omega)]
    by_cases c : k = x
    · rw [if_pos c, h.hi _ (by omega), c]
    · rw [if_neg c, h.mid x k1 (by omega)]
  · rw [e, if_pos rfl, h.eq]
  · rw [e, if_neg (by omega), if_neg (by omega), h.hi x (by omega)]
theorem Upw.asc {a p b : Nat} {P Q : List α} (h : Upw a p P Q) (h1 : Asc key (a + 1) b P) (hp1 : a ≤ p) (hp2 : p < b) (hlo : a < p → key (elt P p) ≤ key (elt P a)) (hhi : p + 1 < b → key (elt P a) ≤ key (elt P (p + 1))) : Asc key a b Q := by
  intro x y k1 k2 k3
  by_cases c1 : x < p
  · rw [h.mid x k1 c1]
    by_cases c2 : y < p
    · rw [h.mid y (by omega) c2]; exact h1 _ _ (by omega) (by omega) (by omega)
    · by_cases c3 : y = p
      · rw [c3, h.eq]; have := h1 (x + 1) p (by omega) (by omega) (by omega); have := hlo (by omega); omega
      · rw [h.hi y (by omega)]; exact h1 _ _ (by omega) (by omega) (by omega)
  · by_cases c2 : x = p
    · rw [c2, h.eq]
      by_cases c3 : y = p
      · rw [c3, h.eq]; exact Int.le_refl _
      · rw [h.hi y (by omega)]
        have := hhi (by omega); have := h1 (p + 1) y (by omega) (by omega) (by omega); omega
    · rw [h.hi x (by omega), h.hi y (by omega)]; exact h1 _ _ (by omega) (by omega) (by omega)
/-- t places from a on and from b on turned -/
structure Swr (a b t : Nat) (P Q : List α) : Prop where
  len : Q.length = P.length
  one : ∀ x, a ≤ x → x < a + t → elt Q x = elt P (x - a + b)
  two : ∀ x, b ≤ x → x < b + t → elt Q x = elt P (x - b + a)
  out : ∀ x, (x < a ∨ a + t ≤ x) → (x < b ∨ b + t ≤ x) → elt Q x = elt P x
theorem Swr.refl (a b : Nat) (P : List α) : Swr a b 0 P P := ⟨rfl, fun x h1 h2 => by omega, fun x h1 h2 => by omega, fun _ _ _ => rfl⟩
theorem Swr.step {a b t : Nat} {P Q : List α} (h : Swr a b t P Q) (h1 : a + t < b) (h2 : b + t < P.length) : Swr a b (t + 1) P (swp Q (a + t) (b + t)) := by
  have hl := h.len
  have e := fun x => elt_swp Q (a + t) (b + t) x (by omega) (by omega)
  refine ⟨by rw [swp_len, hl], fun x k1 k2 => ?_, fun x k1 k2 => ?_, fun x k1 k2 => ?_⟩
  · rw [e, if_neg (by omega)]
    by_cases c : a + t = x
    · rw [if_pos c, h.out _ (by omega) (by omega)]; congr 1; omega
    · rw [if_neg c, h.one x k1 (by omega)]
  · rw [e]
    by_cases c : b + t = x
    · rw [if_pos c, h.out _ (by omega) (by omega)]; congr 1; omega
    · rw [if_neg c, if_neg (by omega), h.two x k1 (by omega)]
  · rw [e, if_neg (by omega), if_neg (by omega), h.out x (by omega) (by omega)]
theorem Swr.blocks {A U C V B Q : List α} {n : Nat} (hu : U.length = n) (hv : V.length = n) (h : Swr A.length (A.length + n + C.length) n (A ++ (U ++ (C ++ (V ++ B)))) Q) : Q = A ++ (V ++ (C ++ (U ++ B))) := by
  have hl := h.len
  refine elt_ext (by rw [hl]; simp; omega) fun x hx => ?_
  rw [hl] at hx
  simp at hx
  by_cases c1 : x < A.length
  · rw [h.out x (by omega) (by omega), elt_app1 _ _ _ c1, elt_app1 _ _ _ c1]
  · rw [elt_app2 A (V ++ (C ++ (U ++ B))) _ (by omega)]
    by_cases c2 : x < A.length + n
    · rw [h.one x (by omega) c2, elt_app1 V _ _ (by omega), elt_app2 A _ _ (by omega), elt_app2 U _ _ (by omega), elt_app2 C _ _ (by omega), elt_app1 V _ _ (by omega)]; congr 1; omega
    · rw [elt_app2 V (C ++ (U ++ B)) _ (by omega)]
      by_cases c3 : x < A.length + n + C.length
      · rw [h.out x (by omega) (by omega), elt_app1 C (U ++ B) _ (by omega), elt_app2 A _ _ (by omega), elt_app2 U _ _ (by omega), elt_app1 C _ _ (by omega)]; congr 1; omega
      · rw [elt_app2 C (U ++ B) _ (by omega)]
        by_cases c4 : x < A.length + n + C.length + n
        · rw [h.two x (by omega) c4, elt_app1 U B _ (by omega), elt_app2 A _ _ (by omega), elt_app1 U _ _ (by omega)]; congr 1; omega
        · rw [h.out x (by omega) (by omega), elt_app2 U B _ (by omega), elt_app2 A _ _ (by omega), elt_app2 U _ _ (by omega), elt_app2 C _ _ (by omega), elt_app2 V _ _ (by omega)]; congr 1; omega
/-- one step of a rotation -/
theorem Rot.left {A U V B Q : List α} {i j : Nat} (hu : U.length = i) (hv : V.length = j) (hij : j ≤ i) (h : Swr A.length (A.length + i) j (A ++ (U ++ (V ++ B))) Q) :
    ∃ U1 U2, U = U1 ++ U2 ∧ U1.length = j ∧ U2.length = i - j ∧ Q = (A ++ V) ++ (U2 ++ (U1 ++ B)) ∧ A ++ (V ++ (U ++ B)) = (A ++ V) ++ (U1 ++ (U2 ++ B)) := by
  have e : U = U.take j ++ U.drop j := (List.take_append_drop _ _).symm
  refine ⟨U.take j, U.drop j, e, by simp; omega, by simp; omega, ?_, ?_⟩
  · rw [e, List.append_assoc] at h
    have := Swr.blocks (A := A) (U := U.take j) (C := U.drop j) (V := V) (B := B) (n := j) (Q := Q) (by simp; omega) hv (by
      rw [show A.length + j + (U.drop j).length = A.length + i by simp; omega]; exact h)
    rw [this, List.append_assoc]
  · conv => lhs; rw [e]
    simp only [List.append_assoc]
theorem Rot.right {A U V B Q : List α} {i j : Nat} (hu : U.length = i) (hv : V.length = j) (hij : i ≤ j) (h : Swr A.length (A.length + j) i (A ++ (U ++ (V ++ B))) Q) :
    ∃ V1 V2, V = V1 ++ V2 ∧ V1.length = j - i ∧ V2.length = i ∧ Q = A ++ (V2 ++ (V1 ++ (U ++ B))) ∧ A ++ (V ++ (U ++ B)) = A ++ (V1 ++ (V2 ++ (U ++ B))) := by
  have e : V = V.take (j - i) ++ V.drop (j - i) := (List.take_append_drop _ _).symm
  refine ⟨V.take (j - i), V.drop (j - i), e, by simp; omega, by simp; omega, ?_, ?_⟩
  · rw [e, List.append_assoc] at h
    have := Swr.blocks (A := A) (U := U) (C := V.take (j - i)) (V := V.drop (j - i)) (B := B) (n := i) (Q := Q) hu (by simp; omega) (by
      rw [show A.length + i + (V.take (j - i)).length = A.length + j by simp; omega]; exact h)
    exact this
  · conv => lhs; rw [e]
    simp only [List.append_assoc]
end
end Go.Proofs.YtehbjhocgnfpmaaDoor

/- Rows of records: elements of s cells, each the encoding of something. -/
namespace Go.Proofs.YtehbjhocgnfpmaaDoor
set_option maxRecDepth 100000
open Go.RowKit
set_option linter.unusedVariables false
theorem flat_len {α : Type} (enc : α → List Value) (m : Nat) (he : ∀ x, (enc x).length = m) (l : List α) : (l.flatMap enc).length = l.length * m := by
  induction l with
  | nil => simp
  | cons x l ih => rw [List.flatMap_cons, List.length_append, ih, he, List.length_cons, Nat.add_mul, Nat.one_mul, Nat.add_comm]
theorem setCells_row (w : World) (g : Nat) (t : TypeId) (A B D : List Value) : ∀ (vs B A : List Value) (w : World) (cur : Array Value), w.heap[g]? = some (.cells cur t) → cur.toList = A ++ (B ++ D) → B.length = vs.length → ∃ cur' : Array Value, (w.setCells g A.length vs).heap[g]? = some (.cells cur' t) ∧ cur'.toList = A ++ (vs ++ D) ∧ Only [g] w (w.setCells g A.length vs)
  | [], [], A, w, cur, h, e, _ => ⟨cur, h, e, ⟨rfl, rfl, rfl, Nat.le_refl _, fun _ _ _ => rfl⟩⟩
  | [], _ :: _, A, w, cur, h, e, hl => by simp at hl
  | _ :: _, [], A, w, cur, h, e, hl => by simp at hl
  | v :: vs, b :: B, A, w, cur, h, e, hl => by
    have h1 := heap_setCell_same w g A.length cur t v h
    have e1 : (cur.setIfInBounds A.length v).toList = (A ++ [v]) ++ (B ++ D) := by
      rw [Array.toList_setIfInBounds, e]; simp
    obtain ⟨cur', h2, h3, h4⟩ := setCells_row w g t A B D vs B (A ++ [v]) _ _ h1 e1 (by simpa using hl)
    have e2 : w.setCells g A.length (v :: vs) = (w.setCell ⟨g, A.length, none⟩ v).setCells g (A ++ [v]).length vs := by
      rw [World.setCells, List.length_append]; rfl
    rw [e2]
    have h5 := Only.setCell w ⟨g, A.length, none⟩ v
    exact ⟨cur', h2, by rw [h3]; simp, ⟨h4.os.trans h5.os, h4.tape.trans h5.tape, h4.output.trans h5.output, Nat.le_trans h5.size h4.size, fun k hk hm => (h4.block k (Nat.lt_of_lt_of_le hk h5.size) hm).trans (h5.block k hk hm)⟩⟩
section
variable {α : Type} [Inhabited α]
theorem flat_at (enc : α → List Value) (m : Nat) (he : ∀ x, (enc x).length = m) : ∀ (l : List α) (j : Nat), j < l.length → ((l.flatMap enc).drop (j * m)).take m = enc (elt l j)
  | [], j, h => by simp at h
  | x :: l, 0, h => by rw [Nat.zero_mul, List.drop_zero, List.flatMap_cons, List.take_left' (he x)]; simp [elt]
  | x :: l, j + 1, h => by
    rw [List.flatMap_cons, Nat.add_mul, Nat.one_mul, Nat.add_comm, ← List.drop_drop, List.drop_left' (he x), flat_at enc m he l j (by simpa using h)]
    simp [elt]
theorem flat_set (enc : α → List Value) (m : Nat) (he : ∀ x, (enc x).length = m) (z : α) : ∀ (l : List α) (j : Nat), j < l.length → ∃ A B, l.flatMap enc = A ++ (enc (elt l j) ++ B) ∧ (l.set j z).flatMap enc = A ++ (enc z ++ B) ∧ A.length = j * m
  | [], j, h => by simp at h
  | x :: l, 0, h => ⟨[], l.flatMap enc, by simp [elt], by simp, by simp⟩
  | x :: l, j + 1, h => by
    obtain ⟨A, B, e1, e2, e3⟩ := flat_set enc m he z l j (by simpa using h)
    refine ⟨enc x ++ A, B, ?_, ?_, ?_⟩
    · rw [List.flatMap_cons, e1, List.append_assoc]; simp [elt]
    · rw [List.set_cons_succ, List.flatMap_cons, e2, List.append_assoc]
    · rw [List.length_append, he, e3, Nat.add_mul, Nat.one_mul, Nat.add_comm]
end
section
variable {α : Type} {P : Program} {W w : World} {rs rs' : List Res} {Q : Exit → Act → World → Prop} {K : Act → World → Prop} {o : Oper} {a : Act}
theorem own_recs {e : TypeId} {n c m : Nat} {ad : Option Addr} {enc : α → List Value} {l : List α} (hS : St W w rs) (hp : Pull (own e m ad n c (l.flatMap enc)) rs rs') (he : ∀ x, (enc x).length = m) (hm : 0 < m) : l.length = n := by
  have := (hS.own hp).1
  rw [flat_len enc m he] at this
  exact Nat.eq_of_mul_eq_mul_right hm this
theorem wp_loadE (hS : St W w rs) (ty : TypeId) (x : Operand) (ho : o.op = .load ty x) (g q : Nat) (hx : a.eval x = .pointer (some ⟨g, q, none⟩)) (m : Nat) (h1 : RowN P ty m) (e : TypeId) (n c : Nat) (l : List α) (enc : α → List Value) (hp : Pull (own e m (some ⟨g, 0, none⟩) n c (l.flatMap enc)) rs rs')
    (inst : Inhabited α) (he : ∀ x, (enc x).length = m) (j : Nat) (hq : q = j * m) (hj : j < n) (h : K (a.put o.dst (.agg (enc (elt l j)).toArray)) w) : o.wp P a w K Q := by
  subst hq
  have hl := (hS.own hp).1
  rw [flat_len enc m he] at hl
  refine wp_loadR ty x ho g _ hx m h1 (enc (elt l j)) (he _) ?_ h
  have := own_range (off := j * m) (m := m) hS hp
  rcases Nat.eq_zero_or_pos m with h0 | h0
  · have e0 : enc (elt l j) = [] := List.eq_nil_of_length_eq_zero (by rw [he, h0])
    rw [e0]; intro i v hv; simp at hv
  · have hln : l.length = n := Nat.eq_of_mul_eq_mul_right h0 hl
    rwa [flat_at enc m he l j (by omega)] at this
theorem wp_load1E (hS : St W w rs) (ty : TypeId) (x : Operand) (ho : o.op = .load ty x) (g q : Nat) (hx : a.eval x = .pointer (some ⟨g, q, none⟩)) (h1 : One P ty) (e : TypeId) (m n c : Nat) (l : List α) (enc : α → List Value) (hp : Pull (own e m (some ⟨g, 0, none⟩) n c (l.flatMap enc)) rs rs')
    (inst : Inhabited α) (he : ∀ x, (enc x).length = m) (j f : Nat) (hq : q = j * m + f) (hj : j < n) (v : Value) (hv : (enc (elt l j))[f]? = some v) (h : K (a.put o.dst v) w) : o.wp P a w K Q := by
  subst hq
  have hf : f < m := by rw [← he (elt l j)]; exact (List.getElem?_eq_some_iff.1 hv).1
  have hl := own_recs hS hp he (by omega)
  refine wp_load1O hS ty x ho g _ hx h1 e m n c _ hp v ?_ h
  have := flat_at enc m he l j (by omega)
  rw [← this, List.getElem?_take, if_pos hf, List.getElem?_drop] at hv
  exact hv
theorem wp_load1E0 (hS : St W w rs) (ty : TypeId) (x : Operand) (ho : o.op = .load ty x) (g q : Nat) (hx : a.eval x = .pointer (some ⟨g, q, none⟩)) (h1 : One P ty) (e : TypeId) (m n c : Nat) (l : List α) (enc : α → List Value) (hp : Pull (own e m (some ⟨g, 0, none⟩) n c (l.flatMap enc)) rs rs')
    (inst : Inhabited α) (he : ∀ x, (enc x).length = m) (j : Nat) (hq : q = j * m) (hj : j < n) (v : Value) (hv : (enc (elt l j))[0]? = some v) (h : K (a.put o.dst v) w) : o.wp P a w K Q :=
  wp_load1E hS ty x ho g q hx h1 e m n c l enc hp inst he j 0 hq hj v hv h
theorem wp_storeE (hS : St W w rs) (ty : TypeId) (x y : Operand) (ho : o.op = .store ty x y) (g q : Nat) (hx : a.eval x = .pointer (some ⟨g, q, none⟩)) (m : Nat) (h1 : RowN P ty m) (e : TypeId) (n c : Nat) (l : List α) (enc : α → List Value) (hp : Pull (own e m (some ⟨g, 0, none⟩) n c (l.flatMap enc)) rs rs')
    (inst : Inhabited α) (he : ∀ x, (enc x).length = m) (hone : ∀ x, (enc x).all (·.oneCell') = true) (j : Nat) (hq : q = j * m) (hj : j < n) (z : α) (hy : a.eval y = .agg (enc z).toArray) (hd : o.dst = none) (h : ∀ w', St W w' (own e m (some ⟨g, 0, none⟩) n c ((l.set j z).flatMap enc) :: rs') → K a w') : o.wp P a w K Q := by
  subst hq
  have hown := hS.own hp
  have hlen := hown.1
  rw [flat_len enc m he] at hlen
  rcases hown.2 with ⟨h2, _⟩ | ⟨g', cap, cur, h2, hb, hg, hn, hc, hsz, htake⟩
  · cases h2
  · cases h2
    have hln : m = 0 ∨ l.length = n := by
      rcases Nat.eq_zero_or_pos m with h0 | h0
      · exact .inl h0
      · exact .inr (Nat.eq_of_mul_eq_mul_right h0 hlen)
    have hjm : j * m + m ≤ n * m := by have := Nat.mul_le_mul_right m hj; rwa [Nat.succ_mul] at this
    have hcm : n * m ≤ c * m := Nat.mul_le_mul_right m hn
    refine wp_store_mid ty x y ho g (j * m) (enc z).toArray hx hy ?_ (by rw [h1.2]; simp [he]) (by simpa using hone z) ?_
    · intro i hi
      rw [List.size_toArray, he] at hi
      refine ⟨?_, frozen_of_row w g _ cur e hg⟩
      have := own_cell hS hp (k := j * m + i) (v := (l.flatMap enc)[j * m + i]'(by rw [flat_len enc m he]; omega)) (by rw [List.getElem?_eq_getElem])
      rw [this]; rfl
    · rw [show a.put o.dst undef = a by rw [hd]; rfl]
      refine h _ ?_
      refine St.change (rs1 := [own e m (some ⟨g, 0, none⟩) n c ((l.set j z).flatMap enc)]) (hS.pull hp) fun f1 k1 _ _ => ?_
      obtain ⟨rfl, _⟩ := k1
      rcases hln with h0 | hln
      · have e0 : ∀ y, enc y = [] := fun y => List.eq_nil_of_length_eq_zero (by rw [he, h0])
        have e1 : ∀ l : List α, l.flatMap enc = [] := fun l => List.eq_nil_of_length_eq_zero (by rw [flat_len enc m he, h0, Nat.mul_zero])
        rw [e0, e1]
        refine ⟨[g], ⟨[g], [], rfl, ⟨rfl, by simp [h0], .inr ⟨g, c, cur, rfl, hb, hg, hn, hc, hsz, by rw [h0]; simp⟩⟩, rfl⟩, by simp, fun b hb => .inl hb, ⟨rfl, rfl, rfl, Nat.le_refl _, fun _ _ _ => rfl⟩⟩
      · obtain ⟨A, B, e1, e2, e3⟩ := flat_set enc m he z l j (by omega)
        have ecur : cur.toList = A ++ (enc (elt l j) ++ (B ++ cur.toList.drop (n * m))) := by
          conv => lhs; rw [← List.take_append_drop (n * m) cur.toList, htake, e1]
          simp
        obtain ⟨cur', k2, k3, k4⟩ := setCells_row w g e [] [] (B ++ cur.toList.drop (n * m)) (enc z) (enc (elt l j)) A w cur hg ecur (by rw [he, he])
        rw [← e3]
        have hAB : (A ++ (enc z ++ B)).length = n * m := by rw [← e2, flat_len enc m he, List.length_set, hln]
        refine ⟨[g], ⟨[g], [], rfl, ⟨rfl, by rw [flat_len enc m he, List.length_set, hln], .inr ⟨g, c, cur', rfl, hb, k2, hn, hc, ?_, ?_⟩⟩, rfl⟩, by simp, fun b hb => .inl hb, k4⟩
        · have a1 := congrArg List.length k3
          have a2 := congrArg List.length ecur
          simp only [List.length_append, Array.length_toList, he] at a1 a2
          omega
        · have a3 : cur'.toList = (A ++ (enc z ++ B)) ++ cur.toList.drop (n * m) := by rw [k3]; simp
          rw [a3, List.take_left' hAB, e2]
end
/-- A record of an integer and a slice. -/
structure PkV where
  w : Int
  ad : Option Addr
  n : Nat
  c : Nat
instance : Inhabited PkV := ⟨⟨0, none, 0, 0⟩⟩
def pkE (p : PkV) : List Value := [.int .i64 p.w, .slice p.ad p.n p.c]
theorem pkE_len : ∀ p, (pkE p).length = 2 := fun _ => rfl
theorem pkE_one : ∀ p, (pkE p).all (·.oneCell') = true := fun _ => rfl
end Go.Proofs.YtehbjhocgnfpmaaDoor

/- The walks of slices.SortStableFunc over packs: insertion, rotation, SymMerge. -/
namespace Go.Proofs.YtehbjhocgnfpmaaDoor
set_option maxRecDepth 100000
open Go.RowKit
set_option linter.unusedVariables false
def cmpv (x y : Int) : Int := if x < y then -1 else if y < x then 1 else 0
theorem isNaN_any (w : World) (x : Int) : Calls Tryd.prog 102 #[.int .i64 x] w fun e w' => e = .returned (.bool false) ∧ Ext w w' := by
  have hS := St.start w
  go_enter Tryd.func102, Tryd.ntmps102
  repeat' (first
    | ((with_reducible apply gt9 _ (.move _)); (first | go_big_want | go_step); go_step) | ((with_reducible apply gt9 _ (.assign _)); (first | go_big_want | go_step); go_step) | ((with_reducible apply gt9 _ (.binOp .neq 3 _ _ _)); (refine wvv9 (V.neq rfl rfl) ?_; go_step)) | ((fail_if_success with_reducible apply ga9); go_step))
  all_goals go_ret
  all_goals exact ⟨by simp, hS.1⟩
theorem compare_any (w : World) (x y : Int) : Calls Tryd.prog 85 #[.int .i64 x, .int .i64 y] w fun e w' => e = .returned (.int .i64 (cmpv x y)) ∧ Ext w w' := by
  have hS := St.start w
  go_enter Tryd.func85, Tryd.ntmps85
  repeat' (first
    | ((with_reducible apply gt9 _ (.call ⟨.value (.func 102), _, _⟩)); refine wpl_call (f := 102) Tryd.call102 (by kernel_rfl) ?_; refine ⟨_, (isNaN_any _ _), ?_⟩; rintro e w ⟨rfl, hE2⟩; replace hS := hS.ext hE2; clear hE2; refine ⟨_, rfl, ?_⟩; refine put_move ?_; go_step) | ((with_reducible apply gt9 _ (.move _)); (first | go_big_want | go_step); go_step) | ((with_reducible apply gt9 _ (.assign _)); (first | go_big_want | go_step); go_step) | ((with_reducible apply gt9 _ (.binOp .lss _ _ _ _)); (refine wvv9 (V.lss rfl rfl) ?_; go_step)) | ((with_reducible apply gt9 _ (.binOp .gtr _ _ _ _)); (refine wvv9 (V.gtr rfl rfl) ?_; go_step)) | ((fail_if_success with_reducible apply ga9); go_step))
  all_goals go_ret
  all_goals (refine ⟨?_, hS.1⟩; unfold cmpv; first | (rw [if_pos (by omega)]; rfl) | (rw [if_neg (by omega), if_pos (by omega)]; rfl) | (rw [if_neg (by omega), if_neg (by omega)]; rfl))
theorem byWeight_any (w : World) (p q : PkV) : Calls Tryd.prog 67 #[.agg (pkE p).toArray, .agg (pkE q).toArray] w fun e w' => e = .returned (.int .i64 (cmpv p.w q.w)) ∧ Ext w w' := by
  have hS := St.start w
  obtain ⟨x, ap, np, cp⟩ := p
  obtain ⟨y, aq, nq, cq⟩ := q
  simp only [pkE]
  go_enter Tryd.func67, Tryd.ntmps67
  repeat' (first
    | ((with_reducible apply gt9 _ (.call ⟨.value (.func 85), _, _⟩)); refine wpl_call (f := 85) Tryd.call85 (by kernel_rfl) ?_; refine ⟨_, (compare_any _ _ _), ?_⟩; rintro e w ⟨rfl, hE2⟩; replace hS := hS.ext hE2; clear hE2; refine ⟨_, rfl, ?_⟩; refine put_move ?_; go_step) | ((with_reducible apply gt9 _ (.assign _)); (first | go_big_want | go_step); go_step) | ((with_reducible apply gt9 _ (.fieldAddr 133 _ 0)); (refine wvv9 (V.fieldAddr fo133_0 rfl nq9) ?_; go_step)) | ((with_reducible apply gt9 (some 2) (.box 133 _)); (refine wpl (by kernel_rfl) ?_; apply wp_boxG (o := ⟨some 2, _, _, _, _, _⟩) hS 133 _ rfl _ rfl; clear hS; intro g2 w hS; refine put_move ?_; go_step)) | ((with_reducible apply gt9 (some 3) (.box 133 _)); (refine wpl (by kernel_rfl) ?_; apply wp_boxG (o := ⟨some 3, _, _, _, _, _⟩) hS 133 _ rfl _ rfl; clear hS; intro g3 w hS; refine put_move ?_; go_step)) | ((with_reducible apply gt9 _ (.load 3 _)); (refine wpl (by kernel_rfl) ?_; apply wp_load1 hS 3 _ rfl _ _ rfl (one_of rfl) _; (case hp => exact pl9); (case hc => rfl); refine put_move ?_; go_step)) | ((fail_if_success with_reducible apply ga9); go_step))
  all_goals go_ret
  all_goals exact ⟨rfl, hS.1⟩
/-- The packs of the call's own. -/
abbrev pks (g n c : Nat) (P : List PkV) : Res := own 133 2 (some ⟨g, 0, none⟩) n c (P.flatMap pkE)
theorem swapRange_any (W w0 : World) (rs rs' : List Res) (g n c a b k : Nat) (P : List PkV) (hS : St W w0 rs) (hp : Pull (pks g n c P) rs rs') (hab : a + k ≤ b) (hb : b + k ≤ n) (hn : n ≤ 1000000) (K : Value) :
    Calls Tryd.prog 112 #[.slice (some ⟨g, 0, none⟩) n c, .int .i64 a, .int .i64 b, .int .i64 k, K] w0 fun e w => e = .returned (.tuple #[]) ∧ ∃ Q, Swr a b k P Q ∧ St W w (pks g n c Q :: rs') := by
  replace hS := hS.pull hp
  have he := pkE_len
  have h1e := pkE_one
  have hPl := own_recs hS Pull.head pkE_len (by decide)
  go_enter Tryd.func112, Tryd.ntmps112
  repeat' (first
    | ((with_reducible apply gt9 _ (.assign _)); (first | go_big_want | go_step); go_step) | ((fail_if_success with_reducible apply ga9); go_step))
  go_loopg [10] k (fun gk iv w => ∃ (i : Nat) (Q : List PkV), gk + i = k ∧ iv = .int .i64 i ∧ Swr a b i P Q ∧ St W w (pks g n c Q :: rs'))
  case atStart => exact ⟨0, P, by omega, rfl, Swr.refl a b P, hS⟩
  case round =>
    clear hS
    obtain ⟨i, Q, hi, rfl, hQ, hS⟩ := hrel
    by_cases hlt : i < k
    · have hQ2 := hQ.step (by omega) (by omega)
      have HQ := hid hQ2
      clear hQ hQ2
      repeat' (first
        | ((with_reducible apply gt9 _ (.move _)); (first | go_big_want | go_step); go_step) | ((with_reducible apply gt9 (some 13) (.binOp .lss _ _ _ _)); (refine wvv9 (V.lss rfl rfl) ?_; go_step)) | ((fail_if_success with_reducible apply ga9); go_step))
      refine drawn_lit [21, 23] (fun w => St W w (pks g n c Q :: rs')) (by kernel_rfl) ?_
      replace hS := hS.drew
      focus
        refine takeM 0 _ al9 (by kernel_rfl) (by kernel_rfl) (by kernel_rfl) (by exact fun _ _ _ _ h => h) rfl ?_
        go_step
        refine takeM 1 _ al9 (by kernel_rfl) (by kernel_rfl) (by kernel_rfl) (by exact fun _ _ _ _ h => h) rfl ?_
        go_step
        refine takeM 2 _ al9 (by kernel_rfl) (by kernel_rfl) (by kernel_rfl) (by exact fun _ _ _ _ h => h) rfl ?_
        go_step
        (refine takeV 3 (.int _ (((a + i : Nat) : Int))) al9 (by kernel_rfl) (by kernel_rfl) (by kernel_rfl) (by exact fun _ _ _ _ h => h) (V.as (V.addI rfl rfl (by omega)) (by omega)) rfl ?_)
        go_step
        refine takeM 4 _ al9 (by kernel_rfl) (by kernel_rfl) (by kernel_rfl) (by exact fun _ _ _ _ h => h) rfl ?_
        go_step
        refine takeM 5 _ al9 (by kernel_rfl) (by kernel_rfl) (by kernel_rfl) (by exact fun _ _ _ _ h => h) rfl ?_
        go_step
        refine takeM 6 _ al9 (by kernel_rfl) (by kernel_rfl) (by kernel_rfl) (by exact fun _ _ _ _ h => h) rfl ?_
        go_step
        (refine takeV 7 (.int _ (((b + i : Nat) : Int))) al9 (by kernel_rfl) (by kernel_rfl) (by kernel_rfl) (by exact fun _ _ _ _ h => h) (V.as (V.addI rfl rfl (by omega)) (by omega)) rfl ?_)
        go_step
        refine takeM 8 _ al9 (by kernel_rfl) (by kernel_rfl) (by kernel_rfl) (by exact fun _ _ _ _ h => h) rfl ?_
        go_step
        refine takeM 9 _ al9 (by kernel_rfl) (by kernel_rfl) (by kernel_rfl) (by exact fun _ _ _ _ h => h) rfl ?_
        go_step
        refine takeM 10 _ al9 (by kernel_rfl) (by kernel_rfl) (by kernel_rfl) (by exact fun _ _ _ _ h => h) rfl ?_
        go_step
        (refine takeV 11 (.int _ (((b + i : Nat) : Int))) al9 (by kernel_rfl) (by kernel_rfl) (by kernel_rfl) (by exact fun _ _ _ _ h => h) (V.as (V.addI rfl rfl (by omega)) (by omega)) rfl ?_)
        go_step
        (refine takeV 12 _ al9 (by kernel_rfl) (by kernel_rfl) (by kernel_rfl) (by exact fun _ _ _ _ h => h) (V.indexSl Tryd.underlying134 isz133 rfl rfl isn9 (by omega) rfl nq9) rfl ?_)
        go_step
        apply takeS 13 al9 (by kernel_rfl) (by kernel_rfl) (by kernel_rfl) (by exact fun _ _ _ _ h => h) [20, 21, 22, 23] (by kernel_rfl) (hS.sub sb9)
        case hfr => intro w hS; ((refine wpl (by kernel_rfl) ?_; apply wp_loadE hS 133 _ rfl _ _ rfl 2 (row_of rfl) _ _ _ _ _; (case hp => exact pl9); (case inst => infer_instance); (case he => with_reducible assumption); (case hq => exact rfl); (case hj => omega); refine put_move ?_; go_step)); refine wpList_nil ?_; exact ⟨rfl, rfl⟩
        case hd => rfl
        refine takeM 14 _ al9 (by kernel_rfl) (by kernel_rfl) (by kernel_rfl) (by exact fun _ _ _ _ h => h) rfl ?_
        go_step
        refine takeM 15 _ al9 (by kernel_rfl) (by kernel_rfl) (by kernel_rfl) (by exact fun _ _ _ _ h => h) rfl ?_
        go_step
        refine takeM 16 _ al9 (by kernel_rfl) (by kernel_rfl) (by kernel_rfl) (by exact fun _ _ _ _ h => h) rfl ?_
        go_step
        (refine takeV 17 (.int _ (((a + i : Nat) : Int))) al9 (by kernel_rfl) (by kernel_rfl) (by kernel_rfl) (by exact fun _ _ _ _ h => h) (V.as (V.addI rfl rfl (by omega)) (by omega)) rfl ?_)
        go_step
        (refine takeV 18 _ al9 (by kernel_rfl) (by kernel_rfl) (by kernel_rfl) (by exact fun _ _ _ _ h => h) (V.indexSl Tryd.underlying134 isz133 rfl rfl isn9 (by omega) rfl nq9) rfl ?_)
        go_step
        apply takeS 19 al9 (by kernel_rfl) (by kernel_rfl) (by kernel_rfl) (by exact fun _ _ _ _ h => h) [20, 21, 22, 23] (by kernel_rfl) (hS.sub sb9)
        case hfr => intro w hS; ((refine wpl (by kernel_rfl) ?_; apply wp_loadE hS 133 _ rfl _ _ rfl 2 (row_of rfl) _ _ _ _ _; (case hp => exact pl9); (case inst => infer_instance); (case he => with_reducible assumption); (case hq => exact rfl); (case hj => omega); refine put_move ?_; go_step)); refine wpList_nil ?_; exact ⟨rfl, rfl⟩
        case hd => rfl
        (refine takeV 20 _ al9 (by kernel_rfl) (by kernel_rfl) (by kernel_rfl) (by exact fun _ _ _ _ h => h) (V.indexSl Tryd.underlying134 isz133 rfl rfl isn9 (by omega) rfl nq9) rfl ?_)
        go_step
        refine branch1 21 al9 rfl (by kernel_rfl) ?_
        (apply wp_storeE hS 133 _ _ rfl _ _ rfl 2 (row_of rfl) _ _ _ _ _; (case hp => exact pl9); (case inst => infer_instance); (case he => with_reducible assumption); (case hone => with_reducible assumption); (case hq => exact rfl); (case hj => omega); (case hy => exact rfl); (case hd => exact rfl); clear hS; intro w hS)
        refine ⟨fun h => absurd (by decide) h, ?_⟩
        (refine takeV 22 _ al9 (by kernel_rfl) (by kernel_rfl) (by kernel_rfl) (by exact fun _ _ _ _ h => h) (V.indexSl Tryd.underlying134 isz133 rfl rfl isn9 (by omega) rfl nq9) rfl ?_)
        go_step
        refine branch1 23 al9 rfl (by kernel_rfl) ?_
        (apply wp_storeE hS 133 _ _ rfl _ _ rfl 2 (row_of rfl) _ _ _ _ _; (case hp => exact pl9); (case inst => infer_instance); (case he => with_reducible assumption); (case hone => with_reducible assumption); (case hq => exact rfl); (case hj => omega); (case hy => exact rfl); (case hd => exact rfl); clear hS; intro w hS)
        refine ⟨fun h => absurd (by decide) h, ?_⟩
        refine drawn_done (by kernel_rfl) ?_ _
      repeat' (first
        | ((with_reducible apply gt9 _ (.move _)); (first | go_big_want | go_step); go_step) | ((with_reducible apply gt9 _ (.assign _)); (first | go_big_want | go_step); go_step) | ((with_reducible apply gt9 (some 15) (.binOp .add _ _ _ _)); (refine wvv9 (V.addI rfl rfl (by omega)) ?_; go_step)) | ((fail_if_success with_reducible apply ga9); go_step))
      go_roundg (gk - 1)
      case measure => omega
      case rel => exact ⟨i + 1, swp Q (a + i) (b + i), by omega, by go_num, HQ.out, hS⟩
    · obtain rfl : i = k := by omega
      repeat' (first
        | ((with_reducible apply gt9 _ (.move _)); (first | go_big_want | go_step); go_step) | ((with_reducible apply gt9 (some 13) (.binOp .lss _ _ _ _)); (refine wvv9 (V.lss rfl rfl) ?_; go_step)) | ((fail_if_success with_reducible apply ga9); go_step))
      go_end0
      exact ⟨rfl, Q, hQ, hS⟩
theorem rotate_any (W w0 : World) (rs rs' : List Res) (g n c a m b : Nat) (P : List PkV) (hS : St W w0 rs) (hp : Pull (pks g n c P) rs rs') (ham : a < m) (hmb : m < b) (hb : b ≤ n) (hn : n ≤ 1000000) (K : Value) :
    Calls Tryd.prog 109 #[.slice (some ⟨g, 0, none⟩) n c, .int .i64 a, .int .i64 m, .int .i64 b, K] w0 fun e w => e = .returned (.tuple #[]) ∧ ∃ Q, Rot a m b P Q ∧ St W w (pks g n c Q :: rs') := by
  replace hS := hS.pull hp
  have hPl := own_recs hS Pull.head pkE_len (by decide)
  obtain ⟨A0, U0, V0, B0, hP, hA0, hU0, hV0⟩ : ∃ A U Y B : List PkV, P = A ++ (U ++ (Y ++ B)) ∧ A.length = a ∧ U.length = m - a ∧ Y.length = b - m :=
    ⟨P.take a, (P.drop a).take (m - a), ((P.drop a).drop (m - a)).take (b - m), ((P.drop a).drop (m - a)).drop (b - m), by rw [List.take_append_drop, List.take_append_drop, List.take_append_drop], by simp; omega, by simp; omega, by simp; omega⟩
  have HG : Hid (∀ Q, Q = A0 ++ (V0 ++ (U0 ++ B0)) → Rot a m b P Q) := fun Q h => ⟨A0, U0, V0, B0, hP, h, hA0, hU0, hV0⟩
  obtain ⟨T, hT⟩ : ∃ T, A0 ++ (V0 ++ (U0 ++ B0)) = T := ⟨_, rfl⟩
  rw [hT] at HG
  rw [hP] at hS hPl
  clear hP hp
  go_enter Tryd.func109, Tryd.ntmps109
  repeat' (first
    | ((with_reducible apply gt9 (some 14) (.binOp .sub _ _ _ _)); (refine wplV (.int _ (((m - a : Nat) : Int))) (V.as (V.subI rfl rfl (by omega)) (by omega)) rfl ?_; go_step)) | ((with_reducible apply gt9 (some 17) (.binOp .sub _ _ _ _)); (refine wplV (.int _ (((b - m : Nat) : Int))) (V.as (V.subI rfl rfl (by omega)) (by omega)) rfl ?_; go_step)) | ((with_reducible apply gt9 _ (.move _)); (first | go_big_want | go_step); go_step) | ((with_reducible apply gt9 _ (.assign _)); (first | go_big_want | go_step); go_step) | ((fail_if_success with_reducible apply ga9); go_step))
  go_loopg [10, 11] (b - a) (fun gk iv jv w => ∃ (i j x : Nat) (A U Y B : List PkV), gk = i + j ∧ iv = .int .i64 i ∧ jv = .int .i64 j ∧ A.length = x ∧ U.length = i ∧ Y.length = j ∧ x + i = m ∧ m + j ≤ b ∧ 1 ≤ i ∧ 1 ≤ j ∧ A ++ (Y ++ (U ++ B)) = T ∧ St W w (pks g n c (A ++ (U ++ (Y ++ B))) :: rs'))
  case atStart => exact ⟨m - a, b - m, a, A0, U0, V0, B0, by omega, rfl, rfl, hA0, hU0, hV0, by omega, by omega, by omega, by omega, hT, hS⟩
  case round =>
    clear hS hT hU0 hV0 hA0 hPl
    obtain ⟨i, j, x, A, U, Y, B, hk, rfl, rfl, hA, hU, hV, hxm, hmj, hi1, hj1, hT, hS⟩ := hrel
    by_cases hij : i = j
    · skip
      repeat' (first
        | ((with_reducible apply gt9 _ (.move _)); (first | go_big_want | go_step); go_step) | ((with_reducible apply gt9 (some 20) (.binOp .neq 3 _ _ _)); (refine wvv9 (V.neq rfl rfl) ?_; go_step)) | ((fail_if_success with_reducible apply ga9); go_step))
      repeat' (first
        | ((with_reducible apply gt9 (some 53) (.binOp .sub _ _ _ _)); (refine wplV (.int _ (((x : Nat) : Int))) (V.as (V.subI rfl rfl (by omega)) (by omega)) rfl ?_; go_step)) | ((with_reducible apply gt9 _ (.call ⟨.value (.func 112), _, _⟩)); refine wpl_call (f := 112) Tryd.call112 (by kernel_rfl) ?_; refine ⟨_, (swapRange_any W _ _ rs' g n c x m i _ hS Pull.head (by omega) (by omega) hn K), ?_⟩; rintro e w ⟨rfl, Q, hQ, hS2⟩; replace hS := hS2; clear hS2; refine ⟨_, rfl, ?_⟩; refine put_move ?_; go_step) | ((with_reducible apply gt9 _ (.move _)); (first | go_big_want | go_step); go_step) | ((fail_if_success with_reducible apply ga9); go_step))
      go_end0
      refine ⟨rfl, Q, HG.out Q ?_, hS⟩
      rw [← hxm, ← hA] at hQ
      rw [hij] at hQ
      obtain ⟨U1, U2, e1, e2, e3, e4, e5⟩ := Rot.left (hij ▸ hU) hV (Nat.le_refl _) hQ
      have : U2 = [] := List.eq_nil_of_length_eq_zero (by omega)
      subst this
      rw [e4, ← hT, e5]
      simp
    · by_cases hlt : j < i
      · skip
        repeat' (first
          | ((with_reducible apply gt9 _ (.move _)); (first | go_big_want | go_step); go_step) | ((with_reducible apply gt9 (some 20) (.binOp .neq 3 _ _ _)); (refine wvv9 (V.neq rfl rfl) ?_; go_step)) | ((with_reducible apply gt9 (some 23) (.binOp .gtr _ _ _ _)); (refine wvv9 (V.gtr rfl rfl) ?_; go_step)) | ((fail_if_success with_reducible apply ga9); go_step))
        repeat' (first
          | ((with_reducible apply gt9 (some 27) (.binOp .sub _ _ _ _)); (refine wplV (.int _ (((x : Nat) : Int))) (V.as (V.subI rfl rfl (by omega)) (by omega)) rfl ?_; go_step)) | ((with_reducible apply gt9 (some 34) (.binOp .sub _ _ _ _)); (refine wplV (.int _ (((i - j : Nat) : Int))) (V.as (V.subI rfl rfl (by omega)) (by omega)) rfl ?_; go_step)) | ((with_reducible apply gt9 _ (.call ⟨.value (.func 112), _, _⟩)); refine wpl_call (f := 112) Tryd.call112 (by kernel_rfl) ?_; refine ⟨_, (swapRange_any W _ _ rs' g n c x m j _ hS Pull.head (by omega) (by omega) hn K), ?_⟩; rintro e w ⟨rfl, Q, hQ, hS2⟩; replace hS := hS2; clear hS2; refine ⟨_, rfl, ?_⟩; refine put_move ?_; go_step) | ((with_reducible apply gt9 _ (.move _)); (first | go_big_want | go_step); go_step) | ((with_reducible apply gt9 _ (.assign _)); (first | go_big_want | go_step); go_step) | ((fail_if_success with_reducible apply ga9); go_step))
        rw [← hxm, ← hA] at hQ
        obtain ⟨U1, U2, e1, e2, e3, e4, e5⟩ := Rot.left hU hV (by omega) hQ
        rw [e4] at hS
        rw [e5] at hT
        clear hQ e1 e4 e5
        go_roundg (gk - j)
        case measure => omega
        case rel => exact ⟨i - j, j, x + j, A ++ Y, U2, U1, B, by omega, rfl, rfl, by simp; omega, e3, e2, by omega, by omega, by omega, by omega, hT, hS⟩
      · skip
        repeat' (first
          | ((with_reducible apply gt9 _ (.move _)); (first | go_big_want | go_step); go_step) | ((with_reducible apply gt9 (some 20) (.binOp .neq 3 _ _ _)); (refine wvv9 (V.neq rfl rfl) ?_; go_step)) | ((with_reducible apply gt9 (some 23) (.binOp .gtr _ _ _ _)); (refine wvv9 (V.gtr rfl rfl) ?_; go_step)) | ((fail_if_success with_reducible apply ga9); go_step))
        repeat' (first
          | ((with_reducible apply gt9 (some 38) (.binOp .sub _ _ _ _)); (refine wplV (.int _ (((x : Nat) : Int))) (V.as (V.subI rfl rfl (by omega)) (by omega)) rfl ?_; go_step)) | ((with_reducible apply gt9 (some 43) (.binOp .sub _ _ _ _)); (refine wplV (.int _ (((x + j : Nat) : Int))) (V.as (V.subI rfl rfl (by omega)) (by omega)) rfl ?_; go_step)) | ((with_reducible apply gt9 (some 49) (.binOp .sub _ _ _ _)); (refine wplV (.int _ (((j - i : Nat) : Int))) (V.as (V.subI rfl rfl (by omega)) (by omega)) rfl ?_; go_step)) | ((with_reducible apply gt9 _ (.call ⟨.value (.func 112), _, _⟩)); refine wpl_call (f := 112) Tryd.call112 (by kernel_rfl) ?_; refine ⟨_, (swapRange_any W _ _ rs' g n c x (x + j) i _ hS Pull.head (by omega) (by omega) hn K), ?_⟩; rintro e w ⟨rfl, Q, hQ, hS2⟩; replace hS := hS2; clear hS2; refine ⟨_, rfl, ?_⟩; refine put_move ?_; go_step) | ((with_reducible apply gt9 _ (.move _)); (first | go_big_want | go_step); go_step) | ((with_reducible apply gt9 _ (.assign _)); (first | go_big_want | go_step); go_step) | ((with_reducible apply gt9 (some 41) (.binOp .add _ _ _ _)); (refine wvv9 (V.addI rfl rfl (by omega)) ?_; go_step)) | ((fail_if_success with_reducible apply ga9); go_step))
        rw [← hA] at hQ
        obtain ⟨V1, V2, e1, e2, e3, e4, e5⟩ := Rot.right hU hV (by omega) hQ
        rw [e4] at hS
        rw [e5] at hT
        clear hQ e1 e4 e5
        go_roundg (gk - i)
        case measure => omega
        case rel => exact ⟨i, j - i, x, A, V2, V1, U ++ B, by omega, rfl, rfl, hA, e3, e2, by omega, by omega, by omega, by omega, hT, hS⟩
abbrev byW : Value := .func (.func 67) #[] #[]
abbrev wk (P : List PkV) (i : Nat) : Int := (elt P i).w
theorem cmpv_lt (x y : Int) : cmpv x y < 0 ↔ x < y := by unfold cmpv; constructor <;> intro h <;> (repeat' split at h) <;> (repeat' split) <;> omega
theorem insSort_any (W w0 : World) (rs rs' : List Res) (g n c a b : Nat) (P : List PkV) (hS : St W w0 rs) (hp : Pull (pks g n c P) rs rs') (hab : a ≤ b) (hb : b ≤ n) (hn : n ≤ 1000000) :
    Calls Tryd.prog 100 #[.slice (some ⟨g, 0, none⟩) n c, .int .i64 a, .int .i64 b, byW] w0 fun e w => e = .returned (.tuple #[]) ∧ ∃ Q, Asc PkV.w a b Q ∧ Rg a b P Q ∧ St W w (pks g n c Q :: rs') := by
  replace hS := hS.pull hp
  have he := pkE_len
  have h1e := pkE_one
  have hPl := own_recs hS Pull.head pkE_len (by decide)
  go_enter Tryd.func100, Tryd.ntmps100
  repeat' (first
    | ((with_reducible apply gt9 (some 11) (.binOp .add _ _ _ _)); (refine wplV (.int _ (((a + 1 : Nat) : Int))) (V.as (V.addI rfl rfl (by omega)) (by omega)) rfl ?_; go_step)) | ((with_reducible apply gt9 _ (.move _)); (first | go_big_want | go_step); go_step) | ((with_reducible apply gt9 _ (.assign _)); (first | go_big_want | go_step); go_step) | ((fail_if_success with_reducible apply ga9); go_step))
  go_loopg [8] (b - a) (fun gk iv w => ∃ (i : Nat) (Q : List PkV), gk + i = b + 1 ∧ a < i ∧ iv = .int .i64 i ∧ Asc PkV.w a i Q ∧ Rg a b P Q ∧ St W w (pks g n c Q :: rs'))
  case atStart => exact ⟨a + 1, P, by omega, by omega, rfl, fun x y h1 h2 h3 => by rw [show x = y by omega]; exact Int.le_refl _, Rg.refl a b P, hS⟩
  case round =>
    clear hS
    obtain ⟨i, Q, hi, hai, rfl, hA, hR, hS⟩ := hrel
    by_cases hlt : i < b
    · obtain ⟨gk1, hgk1⟩ : ∃ x, x = gk := ⟨_, rfl⟩
      subst hgk1
      have hQl := hR.len
      have HA := hid hA
      have HR := hid hR
      clear hA hR
      repeat' (first
        | ((with_reducible apply gt9 _ (.move _)); (first | go_big_want | go_step); go_step) | ((with_reducible apply gt9 _ (.assign _)); (first | go_big_want | go_step); go_step) | ((with_reducible apply gt9 (some 14) (.binOp .lss _ _ _ _)); (refine wvv9 (V.lss rfl rfl) ?_; go_step)) | ((fail_if_success with_reducible apply ga9); go_step))
      repeat' (first
        | ((fail_if_success with_reducible apply ga9); go_step))
      go_loopg [9] (i - a) (fun gk jv w => ∃ (j : Nat) (Z : List PkV), gk + a = j ∧ j ≤ i ∧ jv = .int .i64 j ∧ Dn i j Q Z ∧ (j < i → wk Q i ≤ wk Q j) ∧ Rg a b P Z ∧ St W w (pks g n c Z :: rs'))
      case atStart => exact ⟨i, Q, by omega, by omega, rfl, Dn.refl i Q, fun h => by omega, HR.out, hS⟩
      case round =>
        clear hS
        obtain ⟨j, Z, hj, hji, rfl, hD, hhi, hR, hS⟩ := hrel
        by_cases hja : a < j
        · obtain ⟨q, rfl⟩ : ∃ q, j = q + 1 := ⟨j - 1, by omega⟩
          obtain ⟨v, hv⟩ : ∃ v, cmpv (elt Z (q + 1)).w (elt Z q).w = v := ⟨_, rfl⟩
          have hv2 := cmpv_lt (elt Z (q + 1)).w (elt Z q).w
          rw [hv] at hv2
          rw [hD.eq, hD.lo q (by omega)] at hv2
          have HV := hid hv
          have HV2 := hid hv2
          have HD := hid hD
          have HR2 := hid hR
          have HH := hid hhi
          clear hv hv2 hD hR hhi
          repeat' (first
            | ((fail_if_success with_reducible apply ga9); go_step))
          refine drawn_lit [14] (fun w => St W w (pks g n c Z :: rs')) (by kernel_rfl) ?_
          replace hS := hS.drew
          focus
            refine takeM 0 _ al9 (by kernel_rfl) (by kernel_rfl) (by kernel_rfl) (by exact fun _ _ _ _ h => h) rfl ?_
            go_step
            refine takeM 1 _ al9 (by kernel_rfl) (by kernel_rfl) (by kernel_rfl) (by exact fun _ _ _ _ h => h) rfl ?_
            go_step
            (refine takeD 2 _ al9 (by kernel_rfl) (by kernel_rfl) (by kernel_rfl) (by exact fun _ _ _ _ h => h) (V.gtr rfl rfl) rfl (fun hB => ?_) (fun hB => ?_))
            rotate_left 1
            focus
              (try (have hF : False := (by omega); cases hF))
              all_goals
                go_step
                refine takeM 3 _ al9 (by kernel_rfl) (by kernel_rfl) (by kernel_rfl) (by exact fun _ _ _ _ h => h) rfl ?_
                go_step
                refine takeN 4 al9 (by kernel_rfl) (by kernel_rfl) (by kernel_rfl) (by exact fun _ _ _ _ h => h) rfl ?_
                go_step
                refine takeN 5 al9 (by kernel_rfl) (by kernel_rfl) (by kernel_rfl) (by exact fun _ _ _ _ h => h) rfl ?_
                go_step
                refine takeN 6 al9 (by kernel_rfl) (by kernel_rfl) (by kernel_rfl) (by exact fun _ _ _ _ h => h) rfl ?_
                go_step
                refine takeN 7 al9 (by kernel_rfl) (by kernel_rfl) (by kernel_rfl) (by exact fun _ _ _ _ h => h) rfl ?_
                go_step
                refine takeN 8 al9 (by kernel_rfl) (by kernel_rfl) (by kernel_rfl) (by exact fun _ _ _ _ h => h) rfl ?_
                go_step
                refine takeN 9 al9 (by kernel_rfl) (by kernel_rfl) (by kernel_rfl) (by exact fun _ _ _ _ h => h) rfl ?_
                go_step
                refine takeN 10 al9 (by kernel_rfl) (by kernel_rfl) (by kernel_rfl) (by exact fun _ _ _ _ h => h) rfl ?_
                go_step
                refine takeN 11 al9 (by kernel_rfl) (by kernel_rfl) (by kernel_rfl) (by exact fun _ _ _ _ h => h) rfl ?_
                go_step
                refine takeN 12 al9 (by kernel_rfl) (by kernel_rfl) (by kernel_rfl) (by exact fun _ _ _ _ h => h) rfl ?_
                go_step
                refine takeN 13 al9 (by kernel_rfl) (by kernel_rfl) (by kernel_rfl) (by exact fun _ _ _ _ h => h) rfl ?_
                go_step
                refine takeN 14 al9 (by kernel_rfl) (by kernel_rfl) (by kernel_rfl) (by exact fun _ _ _ _ h => h) rfl ?_
                go_step
                refine takeN 15 al9 (by kernel_rfl) (by kernel_rfl) (by kernel_rfl) (by exact fun _ _ _ _ h => h) rfl ?_
                go_step
                refine takePickF 16 al9 (by kernel_rfl) (by kernel_rfl) (by kernel_rfl) (by exact fun _ _ _ _ h => h) rfl rfl ?_
                go_step
                refine drawn_done (by kernel_rfl) ?_ _
            rotate_right 1
            focus
              (try (have hF : False := (by omega); cases hF))
              all_goals
                go_step
                refine takeM 3 _ al9 (by kernel_rfl) (by kernel_rfl) (by kernel_rfl) (by exact fun _ _ _ _ h => h) rfl ?_
                go_step
                refine takeM 4 _ al9 (by kernel_rfl) (by kernel_rfl) (by kernel_rfl) (by exact fun _ _ _ _ h => h) rfl ?_
                go_step
                refine takeM 5 _ al9 (by kernel_rfl) (by kernel_rfl) (by kernel_rfl) (by exact fun _ _ _ _ h => h) rfl ?_
                go_step
                refine takeM 6 _ al9 (by kernel_rfl) (by kernel_rfl) (by kernel_rfl) (by exact fun _ _ _ _ h => h) rfl ?_
                go_step
                (refine takeV 7 _ al9 (by kernel_rfl) (by kernel_rfl) (by kernel_rfl) (by exact fun _ _ _ _ h => h) (V.indexSl Tryd.underlying134 isz133 rfl rfl isn9 (by omega) rfl nq9) rfl ?_)
                go_step
                apply takeS 8 al9 (by kernel_rfl) (by kernel_rfl) (by kernel_rfl) (by exact fun _ _ _ _ h => h) [14, 15, 16] (by kernel_rfl) (hS.sub sb9)
                case hfr => intro w hS; ((refine wpl (by kernel_rfl) ?_; apply wp_loadE hS 133 _ rfl _ _ rfl 2 (row_of rfl) _ _ _ _ _; (case hp => exact pl9); (case inst => infer_instance); (case he => with_reducible assumption); (case hq => exact rfl); (case hj => omega); refine put_move ?_; go_step)); refine wpList_nil ?_; exact ⟨rfl, rfl⟩
                case hd => rfl
                refine takeM 9 _ al9 (by kernel_rfl) (by kernel_rfl) (by kernel_rfl) (by exact fun _ _ _ _ h => h) rfl ?_
                go_step
                refine takeM 10 _ al9 (by kernel_rfl) (by kernel_rfl) (by kernel_rfl) (by exact fun _ _ _ _ h => h) rfl ?_
                go_step
                (refine takeV 11 (.int _ (((q : Nat) : Int))) al9 (by kernel_rfl) (by kernel_rfl) (by kernel_rfl) (by exact fun _ _ _ _ h => h) (V.as (V.subI rfl rfl (by omega)) (by omega)) rfl ?_)
                go_step
                (refine takeV 12 _ al9 (by kernel_rfl) (by kernel_rfl) (by kernel_rfl) (by exact fun _ _ _ _ h => h) (V.indexSl Tryd.underlying134 isz133 rfl rfl isn9 (by omega) rfl nq9) rfl ?_)
                go_step
                apply takeS 13 al9 (by kernel_rfl) (by kernel_rfl) (by kernel_rfl) (by exact fun _ _ _ _ h => h) [14, 15, 16] (by kernel_rfl) (hS.sub sb9)
                case hfr => intro w hS; ((refine wpl (by kernel_rfl) ?_; apply wp_loadE hS 133 _ rfl _ _ rfl 2 (row_of rfl) _ _ _ _ _; (case hp => exact pl9); (case inst => infer_instance); (case he => with_reducible assumption); (case hq => exact rfl); (case hj => omega); refine put_move ?_; go_step)); refine wpList_nil ?_; exact ⟨rfl, rfl⟩
                case hd => rfl
                refine branch1 14 al9 rfl (by kernel_rfl) ?_
                refine wp_callV (f := 67) rfl rfl Tryd.call67 (byWeight_any _ (elt Z (q + 1)) (elt Z q)) ?_; rintro e w ⟨rfl, hE⟩; replace hS := hS.ext hE; clear hE; rw [HV.out]; refine ⟨_, rfl, ?_⟩
                refine ⟨fun h => absurd (by decide) h, ?_⟩
                refine drawn_move ?_
                go_step
                (refine takeV 15 _ al9 (by kernel_rfl) (by kernel_rfl) (by kernel_rfl) (by exact fun _ _ _ _ h => h) (V.lss rfl rfl) rfl ?_)
                go_step
                refine takePickT 16 al9 (by kernel_rfl) (by kernel_rfl) (by kernel_rfl) (by exact fun _ _ _ _ h => h) rfl rfl ?_
                go_step
                refine drawn_done (by kernel_rfl) ?_ _
          by_cases hc : v < 0
          · skip
            repeat' (first
              | ((fail_if_success with_reducible apply ga9); go_step))
            refine drawn_lit [15, 17] (fun w => St W w (pks g n c Z :: rs')) (by kernel_rfl) ?_
            replace hS := hS.drew
            focus
              refine takeM 0 _ al9 (by kernel_rfl) (by kernel_rfl) (by kernel_rfl) (by exact fun _ _ _ _ h => h) rfl ?_
              go_step
              refine takeM 1 _ al9 (by kernel_rfl) (by kernel_rfl) (by kernel_rfl) (by exact fun _ _ _ _ h => h) rfl ?_
              go_step
              refine takeM 2 _ al9 (by kernel_rfl) (by kernel_rfl) (by kernel_rfl) (by exact fun _ _ _ _ h => h) rfl ?_
              go_step
              refine takeM 3 _ al9 (by kernel_rfl) (by kernel_rfl) (by kernel_rfl) (by exact fun _ _ _ _ h => h) rfl ?_
              go_step
              (refine takeV 4 (.int _ (((q : Nat) : Int))) al9 (by kernel_rfl) (by kernel_rfl) (by kernel_rfl) (by exact fun _ _ _ _ h => h) (V.as (V.subI rfl rfl (by omega)) (by omega)) rfl ?_)
              go_step
              refine takeM 5 _ al9 (by kernel_rfl) (by kernel_rfl) (by kernel_rfl) (by exact fun _ _ _ _ h => h) rfl ?_
              go_step
              refine takeM 6 _ al9 (by kernel_rfl) (by kernel_rfl) (by kernel_rfl) (by exact fun _ _ _ _ h => h) rfl ?_
              go_step
              (refine takeV 7 (.int _ (((q : Nat) : Int))) al9 (by kernel_rfl) (by kernel_rfl) (by kernel_rfl) (by exact fun _ _ _ _ h => h) (V.as (V.subI rfl rfl (by omega)) (by omega)) rfl ?_)
              go_step
              (refine takeV 8 _ al9 (by kernel_rfl) (by kernel_rfl) (by kernel_rfl) (by exact fun _ _ _ _ h => h) (V.indexSl Tryd.underlying134 isz133 rfl rfl isn9 (by omega) rfl nq9) rfl ?_)
              go_step
              apply takeS 9 al9 (by kernel_rfl) (by kernel_rfl) (by kernel_rfl) (by exact fun _ _ _ _ h => h) [14, 15, 16, 17] (by kernel_rfl) (hS.sub sb9)
              case hfr => intro w hS; ((refine wpl (by kernel_rfl) ?_; apply wp_loadE hS 133 _ rfl _ _ rfl 2 (row_of rfl) _ _ _ _ _; (case hp => exact pl9); (case inst => infer_instance); (case he => with_reducible assumption); (case hq => exact rfl); (case hj => omega); refine put_move ?_; go_step)); refine wpList_nil ?_; exact ⟨rfl, rfl⟩
              case hd => rfl
              refine takeM 10 _ al9 (by kernel_rfl) (by kernel_rfl) (by kernel_rfl) (by exact fun _ _ _ _ h => h) rfl ?_
              go_step
              refine takeM 11 _ al9 (by kernel_rfl) (by kernel_rfl) (by kernel_rfl) (by exact fun _ _ _ _ h => h) rfl ?_
              go_step
              (refine takeV 12 _ al9 (by kernel_rfl) (by kernel_rfl) (by kernel_rfl) (by exact fun _ _ _ _ h => h) (V.indexSl Tryd.underlying134 isz133 rfl rfl isn9 (by omega) rfl nq9) rfl ?_)
              go_step
              apply takeS 13 al9 (by kernel_rfl) (by kernel_rfl) (by kernel_rfl) (by exact fun _ _ _ _ h => h) [14, 15, 16, 17] (by kernel_rfl) (hS.sub sb9)
              case hfr => intro w hS; ((refine wpl (by kernel_rfl) ?_; apply wp_loadE hS 133 _ rfl _ _ rfl 2 (row_of rfl) _ _ _ _ _; (case hp => exact pl9); (case inst => infer_instance); (case he => with_reducible assumption); (case hq => exact rfl); (case hj => omega); refine put_move ?_; go_step)); refine wpList_nil ?_; exact ⟨rfl, rfl⟩
              case hd => rfl
              (refine takeV 14 _ al9 (by kernel_rfl) (by kernel_rfl) (by kernel_rfl) (by exact fun _ _ _ _ h => h) (V.indexSl Tryd.underlying134 isz133 rfl rfl isn9 (by omega) rfl nq9) rfl ?_)
              go_step
              refine branch1 15 al9 rfl (by kernel_rfl) ?_
              (apply wp_storeE hS 133 _ _ rfl _ _ rfl 2 (row_of rfl) _ _ _ _ _; (case hp => exact pl9); (case inst => infer_instance); (case he => with_reducible assumption); (case hone => with_reducible assumption); (case hq => exact rfl); (case hj => omega); (case hy => exact rfl); (case hd => exact rfl); clear hS; intro w hS)
              refine ⟨fun h => absurd (by decide) h, ?_⟩
              (refine takeV 16 _ al9 (by kernel_rfl) (by kernel_rfl) (by kernel_rfl) (by exact fun _ _ _ _ h => h) (V.indexSl Tryd.underlying134 isz133 rfl rfl isn9 (by omega) rfl nq9) rfl ?_)
              go_step
              refine branch1 17 al9 rfl (by kernel_rfl) ?_
              (apply wp_storeE hS 133 _ _ rfl _ _ rfl 2 (row_of rfl) _ _ _ _ _; (case hp => exact pl9); (case inst => infer_instance); (case he => with_reducible assumption); (case hone => with_reducible assumption); (case hq => exact rfl); (case hj => omega); (case hy => exact rfl); (case hd => exact rfl); clear hS; intro w hS)
              refine ⟨fun h => absurd (by decide) h, ?_⟩
              refine drawn_done (by kernel_rfl) ?_ _
            repeat' (first
              | ((with_reducible apply gt9 (some 36) (.binOp .sub _ _ _ _)); (refine wplV (.int _ (((q : Nat) : Int))) (V.as (V.subI rfl rfl (by omega)) (by omega)) rfl ?_; go_step)) | ((with_reducible apply gt9 _ (.move _)); (first | go_big_want | go_step); go_step) | ((with_reducible apply gt9 _ (.assign _)); (first | go_big_want | go_step); go_step) | ((fail_if_success with_reducible apply ga9); go_step))
            go_roundg (gk - 1)
            case measure => omega
            case rel => exact ⟨q, swp Z (q + 1) q, by omega, by omega, by go_num, HD.out.step (by omega) (by omega) (by omega), fun _ => by have := HV2.out.1 hc; exact Int.le_of_lt this, HR2.out.trans (swp_mid _ _ _ _ _ (by omega) (by omega) (by omega) (by omega) (by rw [HR2.out.len]; omega)), hS⟩
          · skip
            repeat' (first
              | ((with_reducible apply gt9 (some 16) (.binOp .add _ _ _ _)); (refine wplV (.int _ (((i + 1 : Nat) : Int))) (V.as (V.addI rfl rfl (by omega)) (by omega)) rfl ?_; go_step)) | ((with_reducible apply gt9 _ (.move _)); (first | go_big_want | go_step); go_step) | ((with_reducible apply gt9 _ (.assign _)); (first | go_big_want | go_step); go_step) | ((fail_if_success with_reducible apply ga9); go_step))
            go_roundg (gk1 - 1)
            case measure => omega
            case rel =>
              refine ⟨i + 1, Z, by omega, by omega, by go_num, HD.out.asc HA.out (by omega) (by omega) (fun _ => ?_) (fun _ => HH.out (by omega)), HR2.out, hS⟩
              have := HV2.out
              show (elt Q (q + 1 - 1)).w ≤ (elt Q i).w
              rw [Nat.add_sub_cancel]
              omega
        · obtain rfl : j = a := by omega
          repeat' (first
            | ((fail_if_success with_reducible apply ga9); go_step))
          refine drawn_lit [14] (fun w => St W w (pks g n c Z :: rs')) (by kernel_rfl) ?_
          replace hS := hS.drew
          focus
            refine takeM 0 _ al9 (by kernel_rfl) (by kernel_rfl) (by kernel_rfl) (by exact fun _ _ _ _ h => h) rfl ?_
            go_step
            refine takeM 1 _ al9 (by kernel_rfl) (by kernel_rfl) (by kernel_rfl) (by exact fun _ _ _ _ h => h) rfl ?_
            go_step
            (refine takeD 2 _ al9 (by kernel_rfl) (by kernel_rfl) (by kernel_rfl) (by exact fun _ _ _ _ h => h) (V.gtr rfl rfl) rfl (fun hB => ?_) (fun hB => ?_))
            rotate_left 1
            focus
              (try (have hF : False := (by omega); cases hF))
              all_goals
                go_step
                refine takeM 3 _ al9 (by kernel_rfl) (by kernel_rfl) (by kernel_rfl) (by exact fun _ _ _ _ h => h) rfl ?_
                go_step
                refine takeN 4 al9 (by kernel_rfl) (by kernel_rfl) (by kernel_rfl) (by exact fun _ _ _ _ h => h) rfl ?_
                go_step
                refine takeN 5 al9 (by kernel_rfl) (by kernel_rfl) (by kernel_rfl) (by exact fun _ _ _ _ h => h) rfl ?_
                go_step
                refine takeN 6 al9 (by kernel_rfl) (by kernel_rfl) (by kernel_rfl) (by exact fun _ _ _ _ h => h) rfl ?_
                go_step
                refine takeN 7 al9 (by kernel_rfl) (by kernel_rfl) (by kernel_rfl) (by exact fun _ _ _ _ h => h) rfl ?_
                go_step
                refine takeN 8 al9 (by kernel_rfl) (by kernel_rfl) (by kernel_rfl) (by exact fun _ _ _ _ h => h) rfl ?_
                go_step
                refine takeN 9 al9 (by kernel_rfl) (by kernel_rfl) (by kernel_rfl) (by exact fun _ _ _ _ h => h) rfl ?_
                go_step
                refine takeN 10 al9 (by kernel_rfl) (by kernel_rfl) (by kernel_rfl) (by exact fun _ _ _ _ h => h) rfl ?_
                go_step
                refine takeN 11 al9 (by kernel_rfl) (by kernel_rfl) (by kernel_rfl) (by exact fun _ _ _ _ h => h) rfl ?_
                go_step
                refine takeN 12 al9 (by kernel_rfl) (by kernel_rfl) (by kernel_rfl) (by exact fun _ _ _ _ h => h) rfl ?_
                go_step
                refine takeN 13 al9 (by kernel_rfl) (by kernel_rfl) (by kernel_rfl) (by exact fun _ _ _ _ h => h) rfl ?_
                go_step
                refine takeN 14 al9 (by kernel_rfl) (by kernel_rfl) (by kernel_rfl) (by exact fun _ _ _ _ h => h) rfl ?_
                go_step
                refine takeN 15 al9 (by kernel_rfl) (by kernel_rfl) (by kernel_rfl) (by exact fun _ _ _ _ h => h) rfl ?_
                go_step
                refine takePickF 16 al9 (by kernel_rfl) (by kernel_rfl) (by kernel_rfl) (by exact fun _ _ _ _ h => h) rfl rfl ?_
                go_step
                refine drawn_done (by kernel_rfl) ?_ _
            rotate_right 1
            focus
              (try (have hF : False := (by omega); cases hF))
              all_goals
                go_step
                refine takeM 3 _ al9 (by kernel_rfl) (by kernel_rfl) (by kernel_rfl) (by exact fun _ _ _ _ h => h) rfl ?_
                go_step
                refine takeM 4 _ al9 (by kernel_rfl) (by kernel_rfl) (by kernel_rfl) (by exact fun _ _ _ _ h => h) rfl ?_
                go_step
                refine takeM 5 _ al9 (by kernel_rfl) (by kernel_rfl) (by kernel_rfl) (by exact fun _ _ _ _ h => h) rfl ?_
                go_step
                refine takeM 6 _ al9 (by kernel_rfl) (by kernel_rfl) (by kernel_rfl) (by exact fun _ _ _ _ h => h) rfl ?_
                go_step
                first | (refine takeV 7 _ al9 (by kernel_rfl) (by kernel_rfl) (by kernel_rfl) (by exact fun _ _ _ _ h => h) (V.indexSl Tryd.underlying134 isz133 rfl rfl isn9 (by omega) rfl nq9) rfl ?_)
                go_step
                apply takeS 8 al9 (by kernel_rfl) (by kernel_rfl) (by kernel_rfl) (by exact fun _ _ _ _ h => h) [14, 15, 16] (by kernel_rfl) (hS.sub sb9)
                case hfr => intro w hS; (first | (refine wpl (by kernel_rfl) ?_; apply wp_loadE hS 133 _ rfl _ _ rfl 2 (row_of rfl) _ _ _ _ _; (case hp => exact pl9); (case inst => infer_instance); (case he => with_reducible assumption); (case hq => exact rfl); (case hj => omega); refine put_move ?_; go_step) | (refine wpl (by kernel_rfl) ?_; apply wp_loadA hS 133 _ rfl _ rfl 2 (row_of rfl) _; (case hp => exact pl9); refine put_move ?_; go_step) | (refine wpl (by kernel_rfl) ?_; apply wp_loadG hS 133 _ rfl _ rfl 2 (row_of rfl) _; (case hp => exact pl9); (case hn => rfl); refine put_move ?_; go_step) | (refine wpl (by kernel_rfl) ?_; apply wp_loadRW hS 133 _ rfl _ _ rfl 2 (row_of rfl) _; (case hc => with_reducible assumption); (case hn => rfl); refine put_move ?_; go_step)); refine wpList_nil ?_; exact ⟨rfl, rfl⟩
                case hd => rfl
                refine takeM 9 _ al9 (by kernel_rfl) (by kernel_rfl) (by kernel_rfl) (by exact fun _ _ _ _ h => h) rfl ?_
                go_step
                refine takeM 10 _ al9 (by kernel_rfl) (by kernel_rfl) (by kernel_rfl) (by exact fun _ _ _ _ h => h) rfl ?_
                go_step
                first | (refine takeV 11 _ al9 (by kernel_rfl) (by kernel_rfl) (by kernel_rfl) (by exact fun _ _ _ _ h => h) (V.subI rfl rfl (by omega)) rfl ?_) | (refine takeV 11 _ al9 (by kernel_rfl) (by kernel_rfl) (by kernel_rfl) (by exact fun _ _ _ _ h => h) (V.subR (by decide) rfl rfl) rfl ?_)
                go_step
                first | (refine takeV 12 _ al9 (by kernel_rfl) (by kernel_rfl) (by kernel_rfl) (by exact fun _ _ _ _ h => h) (V.indexSl Tryd.underlying134 isz133 rfl rfl isn9 (by omega) rfl nq9) rfl ?_)
                go_step
                apply takeS 13 al9 (by kernel_rfl) (by kernel_rfl) (by kernel_rfl) (by exact fun _ _ _ _ h => h) [14, 15, 16] (by kernel_rfl) (hS.sub sb9)
                case hfr => intro w hS; (first | (refine wpl (by kernel_rfl) ?_; apply wp_loadE hS 133 _ rfl _ _ rfl 2 (row_of rfl) _ _ _ _ _; (case hp => exact pl9); (case inst => infer_instance); (case he => with_reducible assumption); (case hq => exact rfl); (case hj => omega); refine put_move ?_; go_step) | (refine wpl (by kernel_rfl) ?_; apply wp_loadA hS 133 _ rfl _ rfl 2 (row_of rfl) _; (case hp => exact pl9); refine put_move ?_; go_step) | (refine wpl (by kernel_rfl) ?_; apply wp_loadG hS 133 _ rfl _ rfl 2 (row_of rfl) _; (case hp => exact pl9); (case hn => rfl); refine put_move ?_; go_step) | (refine wpl (by kernel_rfl) ?_; apply wp_loadRW hS 133 _ rfl _ _ rfl 2 (row_of rfl) _; (case hc => with_reducible assumption); (case hn => rfl); refine put_move ?_; go_step)); refine wpList_nil ?_; exact ⟨rfl, rfl⟩
                case hd => rfl
                refine branch1 14 al9 rfl (by kernel_rfl) ?_
                fail "no law: Op.call { callee := Callee.value (Operand.tmp 22), args := #"
                refine ⟨fun h => absurd (by decide) h, ?_⟩
                refine drawn_move ?_
                go_step
                first | (refine takeV 15 _ al9 (by kernel_rfl) (by kernel_rfl) (by kernel_rfl) (by exact fun _ _ _ _ h => h) (V.lss rfl rfl) rfl ?_)
                go_step
                refine takePickT 16 al9 (by kernel_rfl) (by kernel_rfl) (by kernel_rfl) (by exact fun _ _ _ _ h => h) rfl rfl ?_
                go_step
                refine drawn_done (by kernel_rfl) ?_ _
          repeat' (first
            | ((with_reducible apply gt9 (some 16) (.binOp .add _ _ _ _)); (refine wplV (.int _ (((i + 1 : Nat) : Int))) (V.as (V.addI rfl rfl (by omega)) (by omega)) rfl ?_; go_step)) | ((with_reducible apply gt9 _ (.move _)); (first | go_big_want | go_step); go_step) | ((with_reducible apply gt9 _ (.assign _)); (first | go_big_want | go_step); go_step) | ((fail_if_success with_reducible apply ga9); go_step))
          go_roundg (gk1 - 1)
          case measure => omega
          case rel => exact ⟨i + 1, Z, by omega, by omega, by go_num, hD.asc HA.out (by omega) (by omega) (fun _ => by omega) (fun _ => hhi (by omega)), hR, hS⟩
    · skip
      repeat' (first
        | ((with_reducible apply gt9 _ (.move _)); (first | go_big_want | go_step); go_step) | ((with_reducible apply gt9 (some 14) (.binOp .lss _ _ _ _)); (refine wvv9 (V.lss rfl rfl) ?_; go_step)) | ((fail_if_success with_reducible apply ga9); go_step))
      go_end0
      exact ⟨rfl, Q, hA.sub (Nat.le_refl _) (by omega), hR, hS⟩
end Go.Proofs.YtehbjhocgnfpmaaDoor

/- The walk of symMergeCmpFunc. -/
namespace Go.Proofs.YtehbjhocgnfpmaaDoor
set_option maxRecDepth 100000
open Go.RowKit
set_option linter.unusedVariables false
set_option maxRecDepth 100000 in
set_option maxHeartbeats 8000000 in
theorem symMerge_any (N : Nat) : ∀ (W w0 : World) (rs rs' : List Res) (g n c a m b : Nat) (P : List PkV), b - a ≤ N → St W w0 rs → Pull (pks g n c P) rs rs' → a < m → m < b → b ≤ n → n ≤ 1000000 → Asc PkV.w a m P → Asc PkV.w m b P →
    Calls Tryd.prog 101 #[.slice (some ⟨g, 0, none⟩) n c, .int .i64 a, .int .i64 m, .int .i64 b, byW] w0 fun e w => e = .returned (.tuple #[]) ∧ ∃ Q, Asc PkV.w a b Q ∧ Rg a b P Q ∧ St W w (pks g n c Q :: rs') := by
  induction N with
  | zero => intro W w0 rs rs' g n c a m b P hN; omega
  | succ N ih =>
  intro W w0 rs rs' g n c a m b P hN hS hp ham hmb hb hn hA1 hA2
  replace hS := hS.pull hp
  have he := pkE_len
  have h1e := pkE_one
  have hPl := own_recs hS Pull.head pkE_len (by decide)
  have IH := hid ih
  have HA1 := hid hA1
  have HA2 := hid hA2
  clear ih hA1 hA2
  by_cases h1 : m - a = 1
  · obtain rfl : m = a + 1 := by omega
    go_enter Tryd.func101, Tryd.ntmps101
    repeat' (first
      | ((with_reducible apply gt9 (some 27) (.binOp .sub _ _ _ _)); (refine wplV (.int _ (1)) (V.as (V.subI rfl rfl (by omega)) (by omega)) rfl ?_; go_step)) | ((with_reducible apply gt9 _ (.move _)); (first | go_big_want | go_step); go_step) | ((with_reducible apply gt9 _ (.assign _)); (first | go_big_want | go_step); go_step) | ((with_reducible apply gt9 (some 28) (.binOp .eql 3 _ _ _)); (refine wvv9 (V.eql rfl rfl) ?_; go_step)) | ((fail_if_success with_reducible apply ga9); go_step))
    go_loopg [10, 11] (b - (a + 1)) (fun gk iv jv w => ∃ (i j : Nat), gk + i = j ∧ a + 1 ≤ i ∧ j ≤ b ∧ iv = .int .i64 i ∧ jv = .int .i64 j ∧ (∀ x, a + 1 ≤ x → x < i → wk P x ≤ wk P a) ∧ (∀ x, j ≤ x → x < b → wk P a ≤ wk P x) ∧ St W w (pks g n c P :: rs'))
    case atStart => exact ⟨a + 1, b, by omega, by omega, by omega, rfl, rfl, fun x h1 h2 => by omega, fun x h1 h2 => by omega, hS⟩
    case round =>
      clear hS
      obtain ⟨i, j, hk, hi, hj, rfl, rfl, hlo, hhi, hS⟩ := hrel
      have HLO := hid hlo
      have HHI := hid hhi
      clear hlo hhi
      by_cases hlt : i < j
      · obtain ⟨h, hh⟩ : ∃ h, h = (i + j) / 2 := ⟨_, rfl⟩
        obtain ⟨v, hv⟩ : ∃ v, cmpv (elt P h).w (elt P a).w = v := ⟨_, rfl⟩
        have hv2 := cmpv_lt (elt P h).w (elt P a).w
        rw [hv] at hv2
        have HV := hid hv
        have HV2 := hid hv2
        clear hv hv2
        repeat' (first
          | ((with_reducible apply gt9 (some 36) (.binOp .add _ _ _ _)); (refine wplV (.int _ (((i + j : Nat) : Int))) (V.as (V.addI rfl rfl (by omega)) (by omega)) rfl ?_; go_step)) | ((with_reducible apply gt9 (some 38) (.binOp .shr _ _ _ _)); (refine wplV (.int _ (((h : Nat) : Int))) (V.as (V.shr rfl rfl isn9 (by omega) rfl) (by omega)) rfl ?_; go_step)) | ((with_reducible apply gt9 _ (.move _)); (first | go_big_want | go_step); go_step) | ((with_reducible apply gt9 _ (.assign _)); (first | go_big_want | go_step); go_step) | ((with_reducible apply gt9 (some 33) (.binOp .lss _ _ _ _)); (refine wvv9 (V.lss rfl rfl) ?_; go_step)) | ((with_reducible apply gt9 (some 37) (.convert 3 147 _)); (refine wvv9 (V.convI (by rw [Tryd.underlying3]; rfl) Tryd.underlying147 rfl (IntWalk.u64_in _ (by omega))) ?_; go_step)) | ((with_reducible apply gt9 (some 39) (.convert 147 3 _)); (refine wvv9 (V.convI (by rw [Tryd.underlying147]; rfl) Tryd.underlying3 rfl (IntWalk.i64_in _ (by omega))) ?_; go_step)) | ((fail_if_success with_reducible apply ga9); go_step))
        refine drawn_lit [9] (fun w => St W w (pks g n c P :: rs')) (by kernel_rfl) ?_
        replace hS := hS.drew
        focus
          refine takeM 0 _ al9 (by kernel_rfl) (by kernel_rfl) (by kernel_rfl) (by exact fun _ _ _ _ h => h) rfl ?_
          go_step
          refine takeM 1 _ al9 (by kernel_rfl) (by kernel_rfl) (by kernel_rfl) (by exact fun _ _ _ _ h => h) rfl ?_
          go_step
          refine takeM 2 _ al9 (by kernel_rfl) (by kernel_rfl) (by kernel_rfl) (by exact fun _ _ _ _ h => h) rfl ?_
          go_step
          (refine takeV 3 _ al9 (by kernel_rfl) (by kernel_rfl) (by kernel_rfl) (by exact fun _ _ _ _ h => h) (V.indexSl Tryd.underlying134 isz133 rfl rfl isn9 (by omega) rfl nq9) rfl ?_)
          go_step
          apply takeS 4 al9 (by kernel_rfl) (by kernel_rfl) (by kernel_rfl) (by exact fun _ _ _ _ h => h) [9, 10] (by kernel_rfl) (hS.sub sb9)
          case hfr => intro w hS; ((refine wpl (by kernel_rfl) ?_; apply wp_loadE hS 133 _ rfl _ _ rfl 2 (row_of rfl) _ _ _ _ _; (case hp => exact pl9); (case inst => infer_instance); (case he => with_reducible assumption); (case hq => exact rfl); (case hj => omega); refine put_move ?_; go_step)); refine wpList_nil ?_; exact ⟨rfl, rfl⟩
          case hd => rfl
          refine takeM 5 _ al9 (by kernel_rfl) (by kernel_rfl) (by kernel_rfl) (by exact fun _ _ _ _ h => h) rfl ?_
          go_step
          refine takeM 6 _ al9 (by kernel_rfl) (by kernel_rfl) (by kernel_rfl) (by exact fun _ _ _ _ h => h) rfl ?_
          go_step
          (refine takeV 7 _ al9 (by kernel_rfl) (by kernel_rfl) (by kernel_rfl) (by exact fun _ _ _ _ h => h) (V.indexSl Tryd.underlying134 isz133 rfl rfl isn9 (by omega) rfl nq9) rfl ?_)
          go_step
          apply takeS 8 al9 (by kernel_rfl) (by kernel_rfl) (by kernel_rfl) (by exact fun _ _ _ _ h => h) [9, 10] (by kernel_rfl) (hS.sub sb9)
          case hfr => intro w hS; ((refine wpl (by kernel_rfl) ?_; apply wp_loadE hS 133 _ rfl _ _ rfl 2 (row_of rfl) _ _ _ _ _; (case hp => exact pl9); (case inst => infer_instance); (case he => with_reducible assumption); (case hq => exact rfl); (case hj => omega); refine put_move ?_; go_step)); refine wpList_nil ?_; exact ⟨rfl, rfl⟩
          case hd => rfl
          refine branch1 9 al9 rfl (by kernel_rfl) ?_
          refine wp_callV (f := 67) rfl rfl Tryd.call67 (byWeight_any _ (elt P h) (elt P a)) ?_; rintro e w ⟨rfl, hE⟩; replace hS := hS.ext hE; clear hE; rw [HV.out]; refine ⟨_, rfl, ?_⟩
          refine ⟨fun h => absurd (by decide) h, ?_⟩
          refine drawn_move ?_
          go_step
          (refine takeV 10 _ al9 (by kernel_rfl) (by kernel_rfl) (by kernel_rfl) (by exact fun _ _ _ _ h => h) (V.lss rfl rfl) rfl ?_)
          go_step
          refine drawn_done (by kernel_rfl) ?_ _
        by_cases hc : v < 0
        · skip
          repeat' (first
            | ((with_reducible apply gt9 (some 52) (.binOp .add _ _ _ _)); (refine wplV (.int _ (((h + 1 : Nat) : Int))) (V.as (V.addI rfl rfl (by omega)) (by omega)) rfl ?_; go_step)) | ((with_reducible apply gt9 _ (.move _)); (first | go_big_want | go_step); go_step) | ((with_reducible apply gt9 _ (.assign _)); (first | go_big_want | go_step); go_step) | ((fail_if_success with_reducible apply ga9); go_step))
          go_roundg (j - (h + 1))
          case measure => omega
          case rel =>
            refine ⟨h + 1, j, by omega, by omega, by omega, by go_num, rfl, fun x k1 k2 => ?_, HHI.out, hS⟩
            have := HA2.out x h k1 (by omega) (by omega)
            have := HV2.out.1 hc
            show (elt P x).w ≤ (elt P a).w
            omega
        · skip
          repeat' (first
            | ((with_reducible apply gt9 _ (.move _)); (first | go_big_want | go_step); go_step) | ((with_reducible apply gt9 _ (.assign _)); (first | go_big_want | go_step); go_step) | ((fail_if_success with_reducible apply ga9); go_step))
          go_roundg (h - i)
          case measure => omega
          case rel =>
            refine ⟨i, h, by omega, by omega, by omega, rfl, by go_num, HLO.out, fun x k1 k2 => ?_, hS⟩
            have := HA2.out h x (by omega) k1 (by omega)
            have := HV2.out
            show (elt P a).w ≤ (elt P x).w
            omega
      · obtain rfl : i = j := by omega
        obtain ⟨p, rfl⟩ : ∃ p, i = p + 1 := ⟨i - 1, by omega⟩
        repeat' (first
          | ((with_reducible apply gt9 _ (.move _)); (first | go_big_want | go_step); go_step) | ((with_reducible apply gt9 _ (.assign _)); (first | go_big_want | go_step); go_step) | ((with_reducible apply gt9 (some 33) (.binOp .lss _ _ _ _)); (refine wvv9 (V.lss rfl rfl) ?_; go_step)) | ((fail_if_success with_reducible apply ga9); go_step))
        repeat' (first
          | ((fail_if_success with_reducible apply ga9); go_step))
        go_loopg [13] (p - a) (fun gk kv w => ∃ (k : Nat) (Q : List PkV), gk + k = p ∧ a ≤ k ∧ kv = .int .i64 k ∧ Upw a k P Q ∧ Rg a b P Q ∧ St W w (pks g n c Q :: rs'))
        case atStart => exact ⟨a, P, by omega, by omega, rfl, Upw.refl a P, Rg.refl a b P, hS⟩
        case round =>
          clear hS
          obtain ⟨k, Q, hk2, hak, rfl, hU, hR, hS⟩ := hrel
          have HU := hid hU
          have HR := hid hR
          clear hU hR
          by_cases hlt2 : k < p
          · skip
            repeat' (first
              | ((with_reducible apply gt9 (some 57) (.binOp .sub _ _ _ _)); (refine wplV (.int _ (((p : Nat) : Int))) (V.as (V.subI rfl rfl (by omega)) (by omega)) rfl ?_; go_step)) | ((with_reducible apply gt9 _ (.move _)); (first | go_big_want | go_step); go_step) | ((with_reducible apply gt9 (some 58) (.binOp .lss _ _ _ _)); (refine wvv9 (V.lss rfl rfl) ?_; go_step)) | ((fail_if_success with_reducible apply ga9); go_step))
            refine drawn_lit [15, 17] (fun w => St W w (pks g n c Q :: rs')) (by kernel_rfl) ?_
            replace hS := hS.drew
            focus
              refine takeM 0 _ al9 (by kernel_rfl) (by kernel_rfl) (by kernel_rfl) (by exact fun _ _ _ _ h => h) rfl ?_
              go_step
              refine takeM 1 _ al9 (by kernel_rfl) (by kernel_rfl) (by kernel_rfl) (by exact fun _ _ _ _ h => h) rfl ?_
              go_step
              refine takeM 2 _ al9 (by kernel_rfl) (by kernel_rfl) (by kernel_rfl) (by exact fun _ _ _ _ h => h) rfl ?_
              go_step
              refine takeM 3 _ al9 (by kernel_rfl) (by kernel_rfl) (by kernel_rfl) (by exact fun _ _ _ _ h => h) rfl ?_
              go_step
              (refine takeV 4 (.int _ (((k + 1 : Nat) : Int))) al9 (by kernel_rfl) (by kernel_rfl) (by kernel_rfl) (by exact fun _ _ _ _ h => h) (V.as (V.addI rfl rfl (by omega)) (by omega)) rfl ?_)
              go_step
              refine takeM 5 _ al9 (by kernel_rfl) (by kernel_rfl) (by kernel_rfl) (by exact fun _ _ _ _ h => h) rfl ?_
              go_step
              refine takeM 6 _ al9 (by kernel_rfl) (by kernel_rfl) (by kernel_rfl) (by exact fun _ _ _ _ h => h) rfl ?_
              go_step
              (refine takeV 7 (.int _ (((k + 1 : Nat) : Int))) al9 (by kernel_rfl) (by kernel_rfl) (by kernel_rfl) (by exact fun _ _ _ _ h => h) (V.as (V.addI rfl rfl (by omega)) (by omega)) rfl ?_)
              go_step
              (refine takeV 8 _ al9 (by kernel_rfl) (by kernel_rfl) (by kernel_rfl) (by exact fun _ _ _ _ h => h) (V.indexSl Tryd.underlying134 isz133 rfl rfl isn9 (by omega) rfl nq9) rfl ?_)
              go_step
              apply takeS 9 al9 (by kernel_rfl) (by kernel_rfl) (by kernel_rfl) (by exact fun _ _ _ _ h => h) [14, 15, 16, 17] (by kernel_rfl) (hS.sub sb9)
              case hfr => intro w hS; ((refine wpl (by kernel_rfl) ?_; apply wp_loadE hS 133 _ rfl _ _ rfl 2 (row_of rfl) _ _ _ _ _; (case hp => exact pl9); (case inst => infer_instance); (case he => with_reducible assumption); (case hq => exact rfl); (case hj => omega); refine put_move ?_; go_step)); refine wpList_nil ?_; exact ⟨rfl, rfl⟩
              case hd => rfl
              refine takeM 10 _ al9 (by kernel_rfl) (by kernel_rfl) (by kernel_rfl) (by exact fun _ _ _ _ h => h) rfl ?_
              go_step
              refine takeM 11 _ al9 (by kernel_rfl) (by kernel_rfl) (by kernel_rfl) (by exact fun _ _ _ _ h => h) rfl ?_
              go_step
              (refine takeV 12 _ al9 (by kernel_rfl) (by kernel_rfl) (by kernel_rfl) (by exact fun _ _ _ _ h => h) (V.indexSl Tryd.underlying134 isz133 rfl rfl isn9 (by omega) rfl nq9) rfl ?_)
              go_step
              apply takeS 13 al9 (by kernel_rfl) (by kernel_rfl) (by kernel_rfl) (by exact fun _ _ _ _ h => h) [14, 15, 16, 17] (by kernel_rfl) (hS.sub sb9)
              case hfr => intro w hS; ((refine wpl (by kernel_rfl) ?_; apply wp_loadE hS 133 _ rfl _ _ rfl 2 (row_of rfl) _ _ _ _ _; (case hp => exact pl9); (case inst => infer_instance); (case he => with_reducible assumption); (case hq => exact rfl); (case hj => omega); refine put_move ?_; go_step)); refine wpList_nil ?_; exact ⟨rfl, rfl⟩
              case hd => rfl
              (refine takeV 14 _ al9 (by kernel_rfl) (by kernel_rfl) (by kernel_rfl) (by exact fun _ _ _ _ h => h) (V.indexSl Tryd.underlying134 isz133 rfl rfl isn9 (by omega) rfl nq9) rfl ?_)
              go_step
              refine branch1 15 al9 rfl (by kernel_rfl) ?_
              (apply wp_storeE hS 133 _ _ rfl _ _ rfl 2 (row_of rfl) _ _ _ _ _; (case hp => exact pl9); (case inst => infer_instance); (case he => with_reducible assumption); (case hone => with_reducible assumption); (case hq => exact rfl); (case hj => omega); (case hy => exact rfl); (case hd => exact rfl); clear hS; intro w hS)
              refine ⟨fun h => absurd (by decide) h, ?_⟩
              (refine takeV 16 _ al9 (by kernel_rfl) (by kernel_rfl) (by kernel_rfl) (by exact fun _ _ _ _ h => h) (V.indexSl Tryd.underlying134 isz133 rfl rfl isn9 (by omega) rfl nq9) rfl ?_)
              go_step
              refine branch1 17 al9 rfl (by kernel_rfl) ?_
              (apply wp_storeE hS 133 _ _ rfl _ _ rfl 2 (row_of rfl) _ _ _ _ _; (case hp => exact pl9); (case inst => infer_instance); (case he => with_reducible assumption); (case hone => with_reducible assumption); (case hq => exact rfl); (case hj => omega); (case hy => exact rfl); (case hd => exact rfl); clear hS; intro w hS)
              refine ⟨fun h => absurd (by decide) h, ?_⟩
              refine drawn_done (by kernel_rfl) ?_ _
            repeat' (first
              | ((with_reducible apply gt9 (some 60) (.binOp .add _ _ _ _)); (refine wplV (.int _ (((k + 1 : Nat) : Int))) (V.as (V.addI rfl rfl (by omega)) (by omega)) rfl ?_; go_step)) | ((with_reducible apply gt9 _ (.move _)); (first | go_big_want | go_step); go_step) | ((with_reducible apply gt9 _ (.assign _)); (first | go_big_want | go_step); go_step) | ((fail_if_success with_reducible apply ga9); go_step))
            go_roundg (gk - 1)
            case measure => omega
            case rel => exact ⟨k + 1, swp Q k (k + 1), by omega, by omega, by go_num, HU.out.step (by omega) (by omega), HR.out.trans (swp_mid _ _ _ _ _ (by omega) (by omega) (by omega) (by omega) (by rw [HR.out.len]; omega)), hS⟩
          · obtain rfl : k = p := by omega
            repeat' (first
              | ((with_reducible apply gt9 (some 57) (.binOp .sub _ _ _ _)); (refine wplV (.int _ (((k : Nat) : Int))) (V.as (V.subI rfl rfl (by omega)) (by omega)) rfl ?_; go_step)) | ((with_reducible apply gt9 _ (.move _)); (first | go_big_want | go_step); go_step) | ((with_reducible apply gt9 (some 58) (.binOp .lss _ _ _ _)); (refine wvv9 (V.lss rfl rfl) ?_; go_step)) | ((fail_if_success with_reducible apply ga9); go_step))
            refine bodyPost_ret (results_none rfl _ _ _) rfl ?_
            refine ⟨rfl, Q, HU.out.asc HA2.out hak (by omega) (fun h => HLO.out k (by omega) (by omega)) (fun h => HHI.out (k + 1) (Nat.le_refl _) h), HR.out, hS⟩
  · by_cases h2 : b - m = 1
    · obtain rfl : b = m + 1 := by omega
      go_enter Tryd.func101, Tryd.ntmps101
      repeat' (first
        | ((with_reducible apply gt9 (some 27) (.binOp .sub _ _ _ _)); (refine wplV (.int _ (((m - a : Nat) : Int))) (V.as (V.subI rfl rfl (by omega)) (by omega)) rfl ?_; go_step)) | ((with_reducible apply gt9 _ (.move _)); (first | go_big_want | go_step); go_step) | ((with_reducible apply gt9 (some 28) (.binOp .eql 3 _ _ _)); (refine wvv9 (V.eql rfl rfl) ?_; go_step)) | ((fail_if_success with_reducible apply ga9); go_step))
      repeat' (first
        | ((with_reducible apply gt9 (some 79) (.binOp .sub _ _ _ _)); (refine wplV (.int _ (1)) (V.as (V.subI rfl rfl (by omega)) (by omega)) rfl ?_; go_step)) | ((with_reducible apply gt9 _ (.move _)); (first | go_big_want | go_step); go_step) | ((with_reducible apply gt9 _ (.assign _)); (first | go_big_want | go_step); go_step) | ((with_reducible apply gt9 (some 80) (.binOp .eql 3 _ _ _)); (refine wvv9 (V.eql rfl rfl) ?_; go_step)) | ((fail_if_success with_reducible apply ga9); go_step))
      go_loopg [14, 15] (m - a) (fun gk iv jv w => ∃ (i j : Nat), gk + i = j ∧ a ≤ i ∧ j ≤ m ∧ iv = .int .i64 i ∧ jv = .int .i64 j ∧ (∀ x, a ≤ x → x < i → wk P x ≤ wk P m) ∧ (∀ x, j ≤ x → x < m → wk P m ≤ wk P x) ∧ St W w (pks g n c P :: rs'))
      case atStart => exact ⟨a, m, by omega, by omega, by omega, rfl, rfl, fun x h1 h2 => by omega, fun x h1 h2 => by omega, hS⟩
      case round =>
        clear hS
        obtain ⟨i, j, hk, hi, hj, rfl, rfl, hlo, hhi, hS⟩ := hrel
        have HLO := hid hlo
        have HHI := hid hhi
        clear hlo hhi
        by_cases hlt : i < j
        · obtain ⟨h, hh⟩ : ∃ h, h = (i + j) / 2 := ⟨_, rfl⟩
          obtain ⟨v, hv⟩ : ∃ v, cmpv (elt P m).w (elt P h).w = v := ⟨_, rfl⟩
          have hv2 := cmpv_lt (elt P m).w (elt P h).w
          rw [hv] at hv2
          have HV := hid hv
          have HV2 := hid hv2
          clear hv hv2
          repeat' (first
            | ((with_reducible apply gt9 (some 88) (.binOp .add _ _ _ _)); (refine wplV (.int _ (((i + j : Nat) : Int))) (V.as (V.addI rfl rfl (by omega)) (by omega)) rfl ?_; go_step)) | ((with_reducible apply gt9 (some 90) (.binOp .shr _ _ _ _)); (refine wplV (.int _ (((h : Nat) : Int))) (V.as (V.shr rfl rfl isn9 (by omega) rfl) (by omega)) rfl ?_; go_step)) | ((with_reducible apply gt9 _ (.move _)); (first | go_big_want | go_step); go_step) | ((with_reducible apply gt9 _ (.assign _)); (first | go_big_want | go_step); go_step) | ((with_reducible apply gt9 (some 85) (.binOp .lss _ _ _ _)); (refine wvv9 (V.lss rfl rfl) ?_; go_step)) | ((with_reducible apply gt9 (some 89) (.convert 3 147 _)); (refine wvv9 (V.convI (by rw [Tryd.underlying3]; rfl) Tryd.underlying147 rfl (IntWalk.u64_in _ (by omega))) ?_; go_step)) | ((with_reducible apply gt9 (some 91) (.convert 147 3 _)); (refine wvv9 (V.convI (by rw [Tryd.underlying147]; rfl) Tryd.underlying3 rfl (IntWalk.i64_in _ (by omega))) ?_; go_step)) | ((fail_if_success with_reducible apply ga9); go_step))
          refine drawn_lit [9] (fun w => St W w (pks g n c P :: rs')) (by kernel_rfl) ?_
          replace hS := hS.drew
          focus
            refine takeM 0 _ al9 (by kernel_rfl) (by kernel_rfl) (by kernel_rfl) (by exact fun _ _ _ _ h => h) rfl ?_
            go_step
            refine takeM 1 _ al9 (by kernel_rfl) (by kernel_rfl) (by kernel_rfl) (by exact fun _ _ _ _ h => h) rfl ?_
            go_step
            refine takeM 2 _ al9 (by kernel_rfl) (by kernel_rfl) (by kernel_rfl) (by exact fun _ _ _ _ h => h) rfl ?_
            go_step
            (refine takeV 3 _ al9 (by kernel_rfl) (by kernel_rfl) (by kernel_rfl) (by exact fun _ _ _ _ h => h) (V.indexSl Tryd.underlying134 isz133 rfl rfl isn9 (by omega) rfl nq9) rfl ?_)
            go_step
            apply takeS 4 al9 (by kernel_rfl) (by kernel_rfl) (by kernel_rfl) (by exact fun _ _ _ _ h => h) [9, 10, 11] (by kernel_rfl) (hS.sub sb9)
            case hfr => intro w hS; ((refine wpl (by kernel_rfl) ?_; apply wp_loadE hS 133 _ rfl _ _ rfl 2 (row_of rfl) _ _ _ _ _; (case hp => exact pl9); (case inst => infer_instance); (case he => with_reducible assumption); (case hq => exact rfl); (case hj => omega); refine put_move ?_; go_step)); refine wpList_nil ?_; exact ⟨rfl, rfl⟩
            case hd => rfl
            refine takeM 5 _ al9 (by kernel_rfl) (by kernel_rfl) (by kernel_rfl) (by exact fun _ _ _ _ h => h) rfl ?_
            go_step
            refine takeM 6 _ al9 (by kernel_rfl) (by kernel_rfl) (by kernel_rfl) (by exact fun _ _ _ _ h => h) rfl ?_
            go_step
            (refine takeV 7 _ al9 (by kernel_rfl) (by kernel_rfl) (by kernel_rfl) (by exact fun _ _ _ _ h => h) (V.indexSl Tryd.underlying134 isz133 rfl rfl isn9 (by omega) rfl nq9) rfl ?_)
            go_step
            apply takeS 8 al9 (by kernel_rfl) (by kernel_rfl) (by kernel_rfl) (by exact fun _ _ _ _ h => h) [9, 10, 11] (by kernel_rfl) (hS.sub sb9)
            case hfr => intro w hS; ((refine wpl (by kernel_rfl) ?_; apply wp_loadE hS 133 _ rfl _ _ rfl 2 (row_of rfl) _ _ _ _ _; (case hp => exact pl9); (case inst => infer_instance); (case he => with_reducible assumption); (case hq => exact rfl); (case hj => omega); refine put_move ?_; go_step)); refine wpList_nil ?_; exact ⟨rfl, rfl⟩
            case hd => rfl
            refine branch1 9 al9 rfl (by kernel_rfl) ?_
            refine wp_callV (f := 67) rfl rfl Tryd.call67 (byWeight_any _ (elt P m) (elt P h)) ?_; rintro e w ⟨rfl, hE⟩; replace hS := hS.ext hE; clear hE; rw [HV.out]; refine ⟨_, rfl, ?_⟩
            refine ⟨fun h => absurd (by decide) h, ?_⟩
            refine drawn_move ?_
            go_step
            (refine takeV 10 _ al9 (by kernel_rfl) (by kernel_rfl) (by kernel_rfl) (by exact fun _ _ _ _ h => h) (V.lss rfl rfl) rfl ?_)
            go_step
            (refine takeV 11 _ al9 (by kernel_rfl) (by kernel_rfl) (by kernel_rfl) (by exact fun _ _ _ _ h => h) (V.notD rfl) rfl ?_)
            go_step
            refine drawn_done (by kernel_rfl) ?_ _
          by_cases hc : v < 0
          · skip
            repeat' (first
              | ((with_reducible apply gt9 _ (.move _)); (first | go_big_want | go_step); go_step) | ((with_reducible apply gt9 _ (.assign _)); (first | go_big_want | go_step); go_step) | ((fail_if_success with_reducible apply ga9); go_step))
            go_roundg (h - i)
            case measure => omega
            case rel =>
              refine ⟨i, h, by omega, by omega, by omega, rfl, by go_num, HLO.out, fun x k1 k2 => ?_, hS⟩
              have := HA1.out h x (by omega) k1 (by omega)
              have := HV2.out.1 hc
              show (elt P m).w ≤ (elt P x).w
              omega
          · skip
            repeat' (first
              | ((with_reducible apply gt9 (some 105) (.binOp .add _ _ _ _)); (refine wplV (.int _ (((h + 1 : Nat) : Int))) (V.as (V.addI rfl rfl (by omega)) (by omega)) rfl ?_; go_step)) | ((with_reducible apply gt9 _ (.move _)); (first | go_big_want | go_step); go_step) | ((with_reducible apply gt9 _ (.assign _)); (first | go_big_want | go_step); go_step) | ((fail_if_success with_reducible apply ga9); go_step))
            go_roundg (j - (h + 1))
            case measure => omega
            case rel =>
              refine ⟨h + 1, j, by omega, by omega, by omega, by go_num, rfl, fun x k1 k2 => ?_, HHI.out, hS⟩
              have := HA1.out x h k1 (by omega) (by omega)
              have := HV2.out
              show (elt P x).w ≤ (elt P m).w
              omega
        · obtain rfl : i = j := by omega
          repeat' (first
            | ((with_reducible apply gt9 _ (.move _)); (first | go_big_want | go_step); go_step) | ((with_reducible apply gt9 _ (.assign _)); (first | go_big_want | go_step); go_step) | ((with_reducible apply gt9 (some 85) (.binOp .lss _ _ _ _)); (refine wvv9 (V.lss rfl rfl) ?_; go_step)) | ((fail_if_success with_reducible apply ga9); go_step))
          repeat' (first
            | ((fail_if_success with_reducible apply ga9); go_step))
          go_loopg [17] (m - i) (fun gk kv w => ∃ (k : Nat) (Q : List PkV), gk + i = k ∧ k ≤ m ∧ kv = .int .i64 k ∧ Dn m k P Q ∧ Rg a (m + 1) P Q ∧ St W w (pks g n c Q :: rs'))
          case atStart => exact ⟨m, P, by omega, by omega, rfl, Dn.refl m P, Rg.refl a _ P, hS⟩
          case round =>
            clear hS
            obtain ⟨k, Q, hk2, hkm, rfl, hU, hR, hS⟩ := hrel
            have HU := hid hU
            have HR := hid hR
            clear hU hR
            by_cases hlt2 : i < k
            · obtain ⟨q, rfl⟩ : ∃ q, k = q + 1 := ⟨k - 1, by omega⟩
              repeat' (first
                | ((with_reducible apply gt9 _ (.move _)); (first | go_big_want | go_step); go_step) | ((with_reducible apply gt9 (some 110) (.binOp .gtr _ _ _ _)); (refine wvv9 (V.gtr rfl rfl) ?_; go_step)) | ((fail_if_success with_reducible apply ga9); go_step))
              refine drawn_lit [15, 17] (fun w => St W w (pks g n c Q :: rs')) (by kernel_rfl) ?_
              replace hS := hS.drew
              focus
                refine takeM 0 _ al9 (by kernel_rfl) (by kernel_rfl) (by kernel_rfl) (by exact fun _ _ _ _ h => h) rfl ?_
                go_step
                refine takeM 1 _ al9 (by kernel_rfl) (by kernel_rfl) (by kernel_rfl) (by exact fun _ _ _ _ h => h) rfl ?_
                go_step
                refine takeM 2 _ al9 (by kernel_rfl) (by kernel_rfl) (by kernel_rfl) (by exact fun _ _ _ _ h => h) rfl ?_
                go_step
                refine takeM 3 _ al9 (by kernel_rfl) (by kernel_rfl) (by kernel_rfl) (by exact fun _ _ _ _ h => h) rfl ?_
                go_step
                (refine takeV 4 (.int _ (((q : Nat) : Int))) al9 (by kernel_rfl) (by kernel_rfl) (by kernel_rfl) (by exact fun _ _ _ _ h => h) (V.as (V.subI rfl rfl (by omega)) (by omega)) rfl ?_)
                go_step
                refine takeM 5 _ al9 (by kernel_rfl) (by kernel_rfl) (by kernel_rfl) (by exact fun _ _ _ _ h => h) rfl ?_
                go_step
                refine takeM 6 _ al9 (by kernel_rfl) (by kernel_rfl) (by kernel_rfl) (by exact fun _ _ _ _ h => h) rfl ?_
                go_step
                (refine takeV 7 (.int _ (((q : Nat) : Int))) al9 (by kernel_rfl) (by kernel_rfl) (by kernel_rfl) (by exact fun _ _ _ _ h => h) (V.as (V.subI rfl rfl (by omega)) (by omega)) rfl ?_)
                go_step
                (refine takeV 8 _ al9 (by kernel_rfl) (by kernel_rfl) (by kernel_rfl) (by exact fun _ _ _ _ h => h) (V.indexSl Tryd.underlying134 isz133 rfl rfl isn9 (by omega) rfl nq9) rfl ?_)
                go_step
                apply takeS 9 al9 (by kernel_rfl) (by kernel_rfl) (by kernel_rfl) (by exact fun _ _ _ _ h => h) [14, 15, 16, 17] (by kernel_rfl) (hS.sub sb9)
                case hfr => intro w hS; ((refine wpl (by kernel_rfl) ?_; apply wp_loadE hS 133 _ rfl _ _ rfl 2 (row_of rfl) _ _ _ _ _; (case hp => exact pl9); (case inst => infer_instance); (case he => with_reducible assumption); (case hq => exact rfl); (case hj => omega); refine put_move ?_; go_step)); refine wpList_nil ?_; exact ⟨rfl, rfl⟩
                case hd => rfl
                refine takeM 10 _ al9 (by kernel_rfl) (by kernel_rfl) (by kernel_rfl) (by exact fun _ _ _ _ h => h) rfl ?_
                go_step
                refine takeM 11 _ al9 (by kernel_rfl) (by kernel_rfl) (by kernel_rfl) (by exact fun _ _ _ _ h => h) rfl ?_
                go_step
                (refine takeV 12 _ al9 (by kernel_rfl) (by kernel_rfl) (by kernel_rfl) (by exact fun _ _ _ _ h => h) (V.indexSl Tryd.underlying134 isz133 rfl rfl isn9 (by omega) rfl nq9) rfl ?_)
                go_step
                apply takeS 13 al9 (by kernel_rfl) (by kernel_rfl) (by kernel_rfl) (by exact fun _ _ _ _ h => h) [14, 15, 16, 17] (by kernel_rfl) (hS.sub sb9)
                case hfr => intro w hS; ((refine wpl (by kernel_rfl) ?_; apply wp_loadE hS 133 _ rfl _ _ rfl 2 (row_of rfl) _ _ _ _ _; (case hp => exact pl9); (case inst => infer_instance); (case he => with_reducible assumption); (case hq => exact rfl); (case hj => omega); refine put_move ?_; go_step)); refine wpList_nil ?_; exact ⟨rfl, rfl⟩
                case hd => rfl
                (refine takeV 14 _ al9 (by kernel_rfl) (by kernel_rfl) (by kernel_rfl) (by exact fun _ _ _ _ h => h) (V.indexSl Tryd.underlying134 isz133 rfl rfl isn9 (by omega) rfl nq9) rfl ?_)
                go_step
                refine branch1 15 al9 rfl (by kernel_rfl) ?_
                (apply wp_storeE hS 133 _ _ rfl _ _ rfl 2 (row_of rfl) _ _ _ _ _; (case hp => exact pl9); (case inst => infer_instance); (case he => with_reducible assumption); (case hone => with_reducible assumption); (case hq => exact rfl); (case hj => omega); (case hy => exact rfl); (case hd => exact rfl); clear hS; intro w hS)
                refine ⟨fun h => absurd (by decide) h, ?_⟩
                (refine takeV 16 _ al9 (by kernel_rfl) (by kernel_rfl) (by kernel_rfl) (by exact fun _ _ _ _ h => h) (V.indexSl Tryd.underlying134 isz133 rfl rfl isn9 (by omega) rfl nq9) rfl ?_)
                go_step
                refine branch1 17 al9 rfl (by kernel_rfl) ?_
                (apply wp_storeE hS 133 _ _ rfl _ _ rfl 2 (row_of rfl) _ _ _ _ _; (case hp => exact pl9); (case inst => infer_instance); (case he => with_reducible assumption); (case hone => with_reducible assumption); (case hq => exact rfl); (case hj => omega); (case hy => exact rfl); (case hd => exact rfl); clear hS; intro w hS)
                refine ⟨fun h => absurd (by decide) h, ?_⟩
                refine drawn_done (by kernel_rfl) ?_ _
              repeat' (first
                | ((with_reducible apply gt9 (some 112) (.binOp .sub _ _ _ _)); (refine wplV (.int _ (((q : Nat) : Int))) (V.as (V.subI rfl rfl (by omega)) (by omega)) rfl ?_; go_step)) | ((with_reducible apply gt9 _ (.move _)); (first | go_big_want | go_step); go_step) | ((with_reducible apply gt9 _ (.assign _)); (first | go_big_want | go_step); go_step) | ((fail_if_success with_reducible apply ga9); go_step))
              go_roundg (gk - 1)
              case measure => omega
              case rel => exact ⟨q, swp Q (q + 1) q, by omega, by omega, by go_num, HU.out.step (by omega) (by omega) (by omega), HR.out.trans (swp_mid _ _ _ _ _ (by omega) (by omega) (by omega) (by omega) (by rw [HR.out.len]; omega)), hS⟩
            · obtain rfl : k = i := by omega
              repeat' (first
                | ((with_reducible apply gt9 _ (.move _)); (first | go_big_want | go_step); go_step) | ((with_reducible apply gt9 (some 110) (.binOp .gtr _ _ _ _)); (refine wvv9 (V.gtr rfl rfl) ?_; go_step)) | ((fail_if_success with_reducible apply ga9); go_step))
              refine bodyPost_ret (results_none rfl _ _ _) rfl ?_
              refine ⟨rfl, Q, HU.out.asc HA1.out hi (by omega) (fun h => HLO.out (k - 1) (by omega) (by omega)) (fun h => HHI.out k (Nat.le_refl _) h), HR.out, hS⟩
    · obtain ⟨mid, hmid⟩ : ∃ mid, mid = (a + b) / 2 := ⟨_, rfl⟩
      obtain ⟨T, hT⟩ : ∃ T, T = mid + m := ⟨_, rfl⟩
      obtain ⟨s0, hs0⟩ : ∃ s0, s0 = if mid < m then T - b else a := ⟨_, rfl⟩
      obtain ⟨r0, hr0⟩ : ∃ r0, r0 = if mid < m then mid else m := ⟨_, rfl⟩
      have hs0a : mid < m → s0 = T - b := fun h => by rw [hs0, if_pos h]
      have hs0b : ¬ mid < m → s0 = a := fun h => by rw [hs0, if_neg h]
      have hr0a : mid < m → r0 = mid := fun h => by rw [hr0, if_pos h]
      have hr0b : ¬ mid < m → r0 = m := fun h => by rw [hr0, if_neg h]
      clear hs0 hr0
      have hF : s0 ≤ r0 ∧ a ≤ s0 ∧ r0 ≤ mid ∧ r0 ≤ m ∧ (∀ st, s0 ≤ st → st ≤ r0 → m ≤ T - st ∧ T - st ≤ b ∧ st ≤ T) := by
        by_cases hc : mid < m
        · have := hs0a hc; have := hr0a hc
          exact ⟨by omega, by omega, by omega, by omega, fun st k1 k2 => by omega⟩
        · have := hs0b hc; have := hr0b hc
          exact ⟨by omega, by omega, by omega, by omega, fun st k1 k2 => by omega⟩
      obtain ⟨f1, f2, f3, f4, f5⟩ := hF
      have F5 := hid f5
      clear f5
      have HS0a := hid hs0a
      have HS0b := hid hs0b
      have HR0a := hid hr0a
      have HR0b := hid hr0b
      clear hs0a hs0b hr0a hr0b
      obtain ⟨d1, hd1⟩ : ∃ d, d = m - a := ⟨_, rfl⟩
      obtain ⟨d2, hd2⟩ : ∃ d, d = b - m := ⟨_, rfl⟩
      go_enter Tryd.func101, Tryd.ntmps101
      repeat' (first
        | ((with_reducible apply gt9 (some 27) (.binOp .sub _ _ _ _)); (refine wplV (.int _ (((d1 : Nat) : Int))) (V.as (V.subI rfl rfl (by omega)) (by omega)) rfl ?_; go_step)) | ((with_reducible apply gt9 _ (.move _)); (first | go_big_want | go_step); go_step) | ((with_reducible apply gt9 (some 28) (.binOp .eql 3 _ _ _)); (refine wvv9 (V.eql rfl rfl) ?_; go_step)) | ((fail_if_success with_reducible apply ga9); go_step))
      repeat' (first
        | ((with_reducible apply gt9 (some 79) (.binOp .sub _ _ _ _)); (refine wplV (.int _ (((d2 : Nat) : Int))) (V.as (V.subI rfl rfl (by omega)) (by omega)) rfl ?_; go_step)) | ((with_reducible apply gt9 _ (.move _)); (first | go_big_want | go_step); go_step) | ((with_reducible apply gt9 (some 80) (.binOp .eql 3 _ _ _)); (refine wvv9 (V.eql rfl rfl) ?_; go_step)) | ((fail_if_success with_reducible apply ga9); go_step))
      have h1' : a + 2 ≤ m := by omega
      have h2' : m + 2 ≤ b := by omega
      clear h1 h2 hd1 hd2
      by_cases hc : mid < m
      · have e1 := HS0a.out hc
        have e2 := HR0a.out hc
        repeat' (first
          | ((with_reducible apply gt9 (some 131) (.binOp .add _ _ _ _)); (refine wplV (.int _ (((a + b : Nat) : Int))) (V.as (V.addI rfl rfl (by omega)) (by omega)) rfl ?_; go_step)) | ((with_reducible apply gt9 (some 133) (.binOp .shr _ _ _ _)); (refine wplV (.int _ (((mid : Nat) : Int))) (V.as (V.shr rfl rfl isn9 (by omega) rfl) (by omega)) rfl ?_; go_step)) | ((with_reducible apply gt9 (some 137) (.binOp .add _ _ _ _)); (refine wplV (.int _ (((T : Nat) : Int))) (V.as (V.addI rfl rfl (by omega)) (by omega)) rfl ?_; go_step)) | ((with_reducible apply gt9 (some 143) (.binOp .sub _ _ _ _)); (refine wplV (.int _ (((s0 : Nat) : Int))) (V.as (V.subI rfl rfl (by omega)) (by omega)) rfl ?_; go_step)) | ((with_reducible apply gt9 _ (.move _)); (first | go_big_want | go_step); go_step) | ((with_reducible apply gt9 _ (.assign _)); (first | go_big_want | go_step); go_step) | ((with_reducible apply gt9 (some 132) (.convert 3 147 _)); (refine wvv9 (V.convI (by rw [Tryd.underlying3]; rfl) Tryd.underlying147 rfl (IntWalk.u64_in _ (by omega))) ?_; go_step)) | ((with_reducible apply gt9 (some 134) (.convert 147 3 _)); (refine wvv9 (V.convI (by rw [Tryd.underlying147]; rfl) Tryd.underlying3 rfl (IntWalk.i64_in _ (by omega))) ?_; go_step)) | ((with_reducible apply gt9 (some 140) (.binOp .gtr _ _ _ _)); (refine wvv9 (V.gtr rfl rfl) ?_; go_step)) | ((fail_if_success with_reducible apply ga9); go_step))
        repeat' (first
          | ((with_reducible apply gt9 (some 148) (.binOp .sub _ _ _ _)); (refine wplV (.int _ (((T - 1 : Nat) : Int))) (V.as (V.subI rfl rfl (by omega)) (by omega)) rfl ?_; go_step)) | ((with_reducible apply gt9 _ (.assign _)); (first | go_big_want | go_step); go_step) | ((fail_if_success with_reducible apply ga9); go_step))
        go_loopg [20, 21] (r0 - s0) (fun gk iv jv w => ∃ (st r : Nat), gk + st = r ∧ s0 ≤ st ∧ r ≤ r0 ∧ iv = .int .i64 st ∧ jv = .int .i64 r ∧ (s0 < st → wk P (st - 1) ≤ wk P (T - st)) ∧ (r < r0 → wk P (T - 1 - r) ≤ wk P r) ∧ St W w (pks g n c P :: rs'))
        case atStart => exact ⟨s0, r0, by omega, by omega, by omega, by first | rfl | rw [e1], by first | rfl | rw [e2], fun h => by omega, fun h => by omega, hS⟩
        case round =>
          clear hS
          obtain ⟨st, r, hk, hst, hr, rfl, rfl, hlo, hhi, hS⟩ := hrel
          have HLO := hid hlo
          have HHI := hid hhi
          clear hlo hhi
          have f5 := F5.out st hst (by omega)
          by_cases hlt : st < r
          · obtain ⟨h, hh⟩ : ∃ h, h = (st + r) / 2 := ⟨_, rfl⟩
            obtain ⟨y, hy⟩ : ∃ y, y = T - 1 - h := ⟨_, rfl⟩
            have f6 := F5.out (h + 1) (by omega) (by omega)
            obtain ⟨v, hv⟩ : ∃ v, cmpv (elt P y).w (elt P h).w = v := ⟨_, rfl⟩
            have hv2 := cmpv_lt (elt P y).w (elt P h).w
            rw [hv] at hv2
            have HV := hid hv
            have HV2 := hid hv2
            clear hv hv2
            repeat' (first
              | ((with_reducible apply gt9 (some 154) (.binOp .add _ _ _ _)); (refine wplV (.int _ (((st + r : Nat) : Int))) (V.as (V.addI rfl rfl (by omega)) (by omega)) rfl ?_; go_step)) | ((with_reducible apply gt9 (some 156) (.binOp .shr _ _ _ _)); (refine wplV (.int _ (((h : Nat) : Int))) (V.as (V.shr rfl rfl isn9 (by omega) rfl) (by omega)) rfl ?_; go_step)) | ((with_reducible apply gt9 _ (.move _)); (first | go_big_want | go_step); go_step) | ((with_reducible apply gt9 _ (.assign _)); (first | go_big_want | go_step); go_step) | ((with_reducible apply gt9 (some 151) (.binOp .lss _ _ _ _)); (refine wvv9 (V.lss rfl rfl) ?_; go_step)) | ((with_reducible apply gt9 (some 155) (.convert 3 147 _)); (refine wvv9 (V.convI (by rw [Tryd.underlying3]; rfl) Tryd.underlying147 rfl (IntWalk.u64_in _ (by omega))) ?_; go_step)) | ((with_reducible apply gt9 (some 157) (.convert 147 3 _)); (refine wvv9 (V.convI (by rw [Tryd.underlying147]; rfl) Tryd.underlying3 rfl (IntWalk.i64_in _ (by omega))) ?_; go_step)) | ((fail_if_success with_reducible apply ga9); go_step))
            refine drawn_lit [11] (fun w => St W w (pks g n c P :: rs')) (by kernel_rfl) ?_
            replace hS := hS.drew
            focus
              refine takeM 0 _ al9 (by kernel_rfl) (by kernel_rfl) (by kernel_rfl) (by exact fun _ _ _ _ h => h) rfl ?_
              go_step
              refine takeM 1 _ al9 (by kernel_rfl) (by kernel_rfl) (by kernel_rfl) (by exact fun _ _ _ _ h => h) rfl ?_
              go_step
              refine takeM 2 _ al9 (by kernel_rfl) (by kernel_rfl) (by kernel_rfl) (by exact fun _ _ _ _ h => h) rfl ?_
              go_step
              refine takeM 3 _ al9 (by kernel_rfl) (by kernel_rfl) (by kernel_rfl) (by exact fun _ _ _ _ h => h) rfl ?_
              go_step
              (refine takeV 4 (.int _ (((y : Nat) : Int))) al9 (by kernel_rfl) (by kernel_rfl) (by kernel_rfl) (by exact fun _ _ _ _ h => h) (V.as (V.subI rfl rfl (by omega)) (by omega)) rfl ?_)
              go_step
              (refine takeV 5 _ al9 (by kernel_rfl) (by kernel_rfl) (by kernel_rfl) (by exact fun _ _ _ _ h => h) (V.indexSl Tryd.underlying134 isz133 rfl rfl isn9 (by omega) rfl nq9) rfl ?_)
              go_step
              apply takeS 6 al9 (by kernel_rfl) (by kernel_rfl) (by kernel_rfl) (by exact fun _ _ _ _ h => h) [11, 12, 13] (by kernel_rfl) (hS.sub sb9)
              case hfr => intro w hS; ((refine wpl (by kernel_rfl) ?_; apply wp_loadE hS 133 _ rfl _ _ rfl 2 (row_of rfl) _ _ _ _ _; (case hp => exact pl9); (case inst => infer_instance); (case he => with_reducible assumption); (case hq => exact rfl); (case hj => omega); refine put_move ?_; go_step)); refine wpList_nil ?_; exact ⟨rfl, rfl⟩
              case hd => rfl
              refine takeM 7 _ al9 (by kernel_rfl) (by kernel_rfl) (by kernel_rfl) (by exact fun _ _ _ _ h => h) rfl ?_
              go_step
              refine takeM 8 _ al9 (by kernel_rfl) (by kernel_rfl) (by kernel_rfl) (by exact fun _ _ _ _ h => h) rfl ?_
              go_step
              (refine takeV 9 _ al9 (by kernel_rfl) (by kernel_rfl) (by kernel_rfl) (by exact fun _ _ _ _ h => h) (V.indexSl Tryd.underlying134 isz133 rfl rfl isn9 (by omega) rfl nq9) rfl ?_)
              go_step
              apply takeS 10 al9 (by kernel_rfl) (by kernel_rfl) (by kernel_rfl) (by exact fun _ _ _ _ h => h) [11, 12, 13] (by kernel_rfl) (hS.sub sb9)
              case hfr => intro w hS; ((refine wpl (by kernel_rfl) ?_; apply wp_loadE hS 133 _ rfl _ _ rfl 2 (row_of rfl) _ _ _ _ _; (case hp => exact pl9); (case inst => infer_instance); (case he => with_reducible assumption); (case hq => exact rfl); (case hj => omega); refine put_move ?_; go_step)); refine wpList_nil ?_; exact ⟨rfl, rfl⟩
              case hd => rfl
              refine branch1 11 al9 rfl (by kernel_rfl) ?_
              refine wp_callV (f := 67) rfl rfl Tryd.call67 (byWeight_any _ (elt P y) (elt P h)) ?_; rintro e w ⟨rfl, hE⟩; replace hS := hS.ext hE; clear hE; rw [HV.out]; refine ⟨_, rfl, ?_⟩
              refine ⟨fun h => absurd (by decide) h, ?_⟩
              refine drawn_move ?_
              go_step
              (refine takeV 12 _ al9 (by kernel_rfl) (by kernel_rfl) (by kernel_rfl) (by exact fun _ _ _ _ h => h) (V.lss rfl rfl) rfl ?_)
              go_step
              (refine takeV 13 _ al9 (by kernel_rfl) (by kernel_rfl) (by kernel_rfl) (by exact fun _ _ _ _ h => h) (V.notD rfl) rfl ?_)
              go_step
              refine drawn_done (by kernel_rfl) ?_ _
            by_cases hc2 : v < 0
            · skip
              repeat' (first
                | ((with_reducible apply gt9 _ (.move _)); (first | go_big_want | go_step); go_step) | ((with_reducible apply gt9 _ (.assign _)); (first | go_big_want | go_step); go_step) | ((fail_if_success with_reducible apply ga9); go_step))
              go_roundg (h - st)
              case measure => omega
              case rel =>
                refine ⟨st, h, by omega, by omega, by omega, rfl, by go_num, HLO.out, fun k1 => ?_, hS⟩
                have := HV2.out.1 hc2
                rw [← hy]
                exact Int.le_of_lt this
            · skip
              repeat' (first
                | ((with_reducible apply gt9 (some 173) (.binOp .add _ _ _ _)); (refine wplV (.int _ (((h + 1 : Nat) : Int))) (V.as (V.addI rfl rfl (by omega)) (by omega)) rfl ?_; go_step)) | ((with_reducible apply gt9 _ (.move _)); (first | go_big_want | go_step); go_step) | ((with_reducible apply gt9 _ (.assign _)); (first | go_big_want | go_step); go_step) | ((fail_if_success with_reducible apply ga9); go_step))
              go_roundg (r - (h + 1))
              case measure => omega
              case rel =>
                refine ⟨h + 1, r, by omega, by omega, by omega, by go_num, rfl, fun k1 => ?_, HHI.out, hS⟩
                have := HV2.out
                rw [show T - (h + 1) = y by omega, Nat.add_sub_cancel]
                show (elt P h).w ≤ (elt P y).w
                omega
          · obtain rfl : st = r := by omega
            obtain ⟨en, hen⟩ : ∃ en, en = T - st := ⟨_, rfl⟩
            have HLO2 : Hid (a < st → m ≤ en → en < b → wk P (st - 1) ≤ wk P en) := fun k1 k2 k3 => by
              rw [hen]; exact HLO.out (by omega)
            have HHI2 : Hid (m < en → st < m → wk P (en - 1) ≤ wk P st) := fun k1 k2 => by
              rw [show en - 1 = T - 1 - st by omega]; exact HHI.out (by omega)
            clear HLO HHI
            repeat' (first
              | ((with_reducible apply gt9 _ (.move _)); (first | go_big_want | go_step); go_step) | ((with_reducible apply gt9 (some 151) (.binOp .lss _ _ _ _)); (refine wvv9 (V.lss rfl rfl) ?_; go_step)) | ((fail_if_success with_reducible apply ga9); go_step))
            by_cases hrot : st < m ∧ m < en
            · have hrot1 := hrot.1
              have hrot2 := hrot.2
              repeat' (first
                | ((with_reducible apply gt9 (some 177) (.binOp .sub _ _ _ _)); (refine wplV (.int _ (((en : Nat) : Int))) (V.as (V.subI rfl rfl (by omega)) (by omega)) rfl ?_; go_step)) | ((with_reducible apply gt9 _ (.call ⟨.value (.func 109), _, _⟩)); refine wpl_call (f := 109) Tryd.call109 (by kernel_rfl) ?_; refine ⟨_, (rotate_any W _ _ rs' g n c st m en P hS Pull.head hrot1 hrot2 (by omega) hn byW), ?_⟩; rintro e w ⟨rfl, Q, hQ, hS2⟩; replace hS := hS2; clear hS2; refine ⟨_, rfl, ?_⟩; refine put_move ?_; go_step) | ((with_reducible apply gt9 _ (.move _)); (first | go_big_want | go_step); go_step) | ((with_reducible apply gt9 _ (.assign _)); (first | go_big_want | go_step); go_step) | ((with_reducible apply gt9 _ (.pick _ _ _)); (refine wplPickT rfl (by kernel_rfl) ?_; go_step)) | ((with_reducible apply gt9 (some 180) (.binOp .lss _ _ _ _)); (refine wplD _ (V.lss rfl rfl) (by kernel_rfl) (fun hB => ?_) (fun hB => ?_) <;> (try (have hF : False := (by omega); cases hF)) <;> go_step)) | ((with_reducible apply gt9 (some 184) (.binOp .lss _ _ _ _)); (refine wvv9 (V.lss rfl rfl) ?_; go_step)) | ((fail_if_success with_reducible apply ga9); go_step))
              obtain ⟨s1, s2, s3, s4, hx⟩ := sym_parts HA1.out HA2.out ham hmb hmid (show en = mid + m - st by omega) (by omega) (by omega) (by omega) (by omega) (by omega) HLO2.out HHI2.out hQ
              have hQr := hQ.rg (show st ≤ m by omega) (show m ≤ en by omega)
              have hQl := hQr.len
              have HQR := hid (hQr.wide (show a ≤ st by omega) (show en ≤ b by omega) (by omega) (by omega))
              have HX := hid hx
              have S1 := hid s1
              have S2 := hid s2
              have S3 := hid s3
              have S4 := hid s4
              have g1 : a ≤ st := by omega
              have g2 : st ≤ mid := by omega
              have g3 : mid ≤ en := by omega
              have g4 : en ≤ b := by omega
              have g5 : mid - a ≤ N := by omega
              have g6 : b - mid ≤ N := by omega
              have g7 : a < mid := by omega
              have g8 : mid < b := by omega
              have hQn : Q.length = n := by omega
              clear hx s1 s2 s3 s4 hQ hQr HLO2 HHI2 HA1 HA2 F5 HS0a HS0b HR0a HR0b hen hlt hk hst hr f5 f1 f2 f3 f4 hT hmid e1 e2 hc h1' h2' hN hrot hQl hPl hp ham hmb
              by_cases hl : a < st ∧ st < mid
              · obtain ⟨hl1, hl2⟩ := hl
                have hb2 : mid ≤ n := by omega
                have HC := hid (fun (w : World) (hS : St W w (pks g n c Q :: rs')) => IH.out W w (pks g n c Q :: rs') rs' g n c a st mid Q g5 hS Pull.head hl1 hl2 hb2 hn S1.out S2.out)
                repeat' (first
                  | ((with_reducible apply gt9 _ (.call ⟨.value (.func 101), _, _⟩)); refine wpl_call (f := 101) Tryd.call101 (by kernel_rfl) ?_; refine ⟨_, (HC.out _ hS), ?_⟩; rintro e w ⟨rfl, R, hR1, hR2, hS2⟩; replace hS := hS2; clear hS2; refine ⟨_, rfl, ?_⟩; refine put_move ?_; go_step) | ((with_reducible apply gt9 _ (.move _)); (first | go_big_want | go_step); go_step) | ((with_reducible apply gt9 _ (.pick _ _ _)); (refine wplPickT rfl (by kernel_rfl) ?_; go_step)) | ((with_reducible apply gt9 (some 194) (.binOp .lss _ _ _ _)); (refine wplD _ (V.lss rfl rfl) (by kernel_rfl) (fun hB => ?_) (fun hB => ?_) <;> (try (have hF : False := (by omega); cases hF)) <;> go_step)) | ((with_reducible apply gt9 (some 198) (.binOp .lss _ _ _ _)); (refine wvv9 (V.lss rfl rfl) ?_; go_step)) | ((fail_if_success with_reducible apply ga9); go_step))
                have S5 := hid (S3.out.same (Q := R) fun x k1 k2 => hR2.out x (by omega))
                have S6 := hid (S4.out.same (Q := R) fun x k1 k2 => hR2.out x (by omega))
                have R1 := hid hR1
                have R2 := hid hR2
                clear hR1 hR2
                by_cases hr : mid < en ∧ en < b
                · obtain ⟨hr1, hr2⟩ := hr
                  have HC := hid (fun (w : World) (hS : St W w (pks g n c R :: rs')) => IH.out W w (pks g n c R :: rs') rs' g n c mid en b R g6 hS Pull.head hr1 hr2 hb hn S5.out S6.out)
                  repeat' (first
                    | ((with_reducible apply gt9 _ (.call ⟨.value (.func 101), _, _⟩)); refine wpl_call (f := 101) Tryd.call101 (by kernel_rfl) ?_; refine ⟨_, (HC.out _ hS), ?_⟩; rintro e w ⟨rfl, Z, hZ1, hZ2, hS2⟩; replace hS := hS2; clear hS2; refine ⟨_, rfl, ?_⟩; refine put_move ?_; go_step) | ((with_reducible apply gt9 _ (.move _)); (first | go_big_want | go_step); go_step) | ((with_reducible apply gt9 _ (.pick _ _ _)); (refine wplPickT rfl (by kernel_rfl) ?_; go_step)) | ((with_reducible apply gt9 (some 208) (.binOp .lss _ _ _ _)); (refine wplD _ (V.lss rfl rfl) (by kernel_rfl) (fun hB => ?_) (fun hB => ?_) <;> (try (have hF : False := (by omega); cases hF)) <;> go_step)) | ((with_reducible apply gt9 (some 212) (.binOp .lss _ _ _ _)); (refine wvv9 (V.lss rfl rfl) ?_; go_step)) | ((fail_if_success with_reducible apply ga9); go_step))
                  go_end0
                  obtain ⟨j1, j2⟩ := sym_join (show a ≤ mid by omega) (show mid ≤ b by omega) (show b ≤ Q.length by rw [hQn]; exact hb) HX.out R2.out hZ2 R1.out hZ1
                  exact ⟨rfl, Z, j1, HQR.out.trans j2, hS⟩
                · have hZ1 : Asc PkV.w mid b R := by
                    by_cases c1 : mid < en
                    · exact S5.out.sub (Nat.le_refl _) (by omega)
                    · exact S6.out.sub (by omega) (Nat.le_refl _)
                  repeat' (first
                    | ((with_reducible apply gt9 _ (.move _)); (first | go_big_want | go_step); go_step) | ((with_reducible apply gt9 _ (.pick _ _ _)); (refine wplPickT rfl (by kernel_rfl) ?_; go_step)) | ((with_reducible apply gt9 (some 208) (.binOp .lss _ _ _ _)); (refine wplD _ (V.lss rfl rfl) (by kernel_rfl) (fun hB => ?_) (fun hB => ?_) <;> (try (have hF : False := (by omega); cases hF)) <;> go_step)) | ((with_reducible apply gt9 (some 212) (.binOp .lss _ _ _ _)); (refine wvv9 (V.lss rfl rfl) ?_; go_step)) | ((fail_if_success with_reducible apply ga9); go_step))
                  all_goals
                    go_end0
                    obtain ⟨j1, j2⟩ := sym_join (show a ≤ mid by omega) (show mid ≤ b by omega) (show b ≤ Q.length by rw [hQn]; exact hb) HX.out R2.out (Rg.refl _ _ _) R1.out hZ1
                    exact ⟨rfl, R, j1, HQR.out.trans j2, hS⟩
              · obtain ⟨R, hRe⟩ : ∃ R, R = Q := ⟨Q, rfl⟩
                have hR2 : Rg a mid Q R := by rw [hRe]; exact Rg.refl _ _ _
                have hR1 : Asc PkV.w a mid R := by
                  rw [hRe]
                  by_cases c1 : a < st
                  · exact S1.out.sub (Nat.le_refl _) (by omega)
                  · exact S2.out.sub (by omega) (Nat.le_refl _)
                rw [← hRe] at hS
                repeat' (first
                  | go_skip | ((with_reducible apply gt9 _ (.move _)); (first | go_big_want | go_step); go_step) | ((with_reducible apply gt9 _ (.pick _ _ _)); first | (refine wplPickT rfl (by kernel_rfl) ?_; go_step) | (refine wplPickF rfl (by kernel_rfl) ?_; go_step)) | ((with_reducible apply gt9 (some 194) (.binOp .lss _ _ _ _)); (refine wplD _ (V.lss rfl rfl) (by kernel_rfl) (fun hB => ?_) (fun hB => ?_) <;> (try (have hF : False := (by omega); cases hF)) <;> go_step)) | ((with_reducible apply gt9 (some 198) (.binOp .lss _ _ _ _)); (refine wvv9 (V.lss rfl rfl) ?_; go_step)) | ((fail_if_success with_reducible apply ga9); go_step))
                all_goals
                  have S5 := hid (S3.out.same (Q := R) fun x k1 k2 => hR2.out x (by omega))
                  have S6 := hid (S4.out.same (Q := R) fun x k1 k2 => hR2.out x (by omega))
                  have R1 := hid hR1
                  have R2 := hid hR2
                  clear hR1 hR2
                  by_cases hr : mid < en ∧ en < b
                  · obtain ⟨hr1, hr2⟩ := hr
                    have HC := hid (fun (w : World) (hS : St W w (pks g n c R :: rs')) => IH.out W w (pks g n c R :: rs') rs' g n c mid en b R g6 hS Pull.head hr1 hr2 hb hn S5.out S6.out)
                    repeat' (first
                      | ((with_reducible apply gt9 _ (.call ⟨.value (.func 101), _, _⟩)); refine wpl_call (f := 101) Tryd.call101 (by kernel_rfl) ?_; refine ⟨_, (HC.out _ hS), ?_⟩; rintro e w ⟨rfl, Z, hZ1, hZ2, hS2⟩; replace hS := hS2; clear hS2; refine ⟨_, rfl, ?_⟩; refine put_move ?_; go_step) | ((with_reducible apply gt9 _ (.move _)); (first | go_big_want | go_step); go_step) | ((with_reducible apply gt9 _ (.pick _ _ _)); (refine wplPickT rfl (by kernel_rfl) ?_; go_step)) | ((with_reducible apply gt9 (some 208) (.binOp .lss _ _ _ _)); (refine wplD _ (V.lss rfl rfl) (by kernel_rfl) (fun hB => ?_) (fun hB => ?_) <;> (try (have hF : False := (by omega); cases hF)) <;> go_step)) | ((with_reducible apply gt9 (some 212) (.binOp .lss _ _ _ _)); (refine wvv9 (V.lss rfl rfl) ?_; go_step)) | ((fail_if_success with_reducible apply ga9); go_step))
                    go_end0
                    obtain ⟨j1, j2⟩ := sym_join (show a ≤ mid by omega) (show mid ≤ b by omega) (show b ≤ Q.length by rw [hQn]; exact hb) HX.out R2.out hZ2 R1.out hZ1
                    exact ⟨rfl, Z, j1, HQR.out.trans j2, hS⟩
                  · have hZ1 : Asc PkV.w mid b R := by
                      by_cases c1 : mid < en
                      · exact S5.out.sub (Nat.le_refl _) (by omega)
                      · exact S6.out.sub (by omega) (Nat.le_refl _)
                    repeat' (first
                      | ((with_reducible apply gt9 _ (.move _)); (first | go_big_want | go_step); go_step) | ((with_reducible apply gt9 _ (.pick _ _ _)); (refine wplPickT rfl (by kernel_rfl) ?_; go_step)) | ((with_reducible apply gt9 (some 208) (.binOp .lss _ _ _ _)); (refine wplD _ (V.lss rfl rfl) (by kernel_rfl) (fun hB => ?_) (fun hB => ?_) <;> (try (have hF : False := (by omega); cases hF)) <;> go_step)) | ((with_reducible apply gt9 (some 212) (.binOp .lss _ _ _ _)); (refine wvv9 (V.lss rfl rfl) ?_; go_step)) | ((fail_if_success with_reducible apply ga9); go_step))
                    all_goals
                      go_end0
                      obtain ⟨j1, j2⟩ := sym_join (show a ≤ mid by omega) (show mid ≤ b by omega) (show b ≤ Q.length by rw [hQn]; exact hb) HX.out R2.out (Rg.refl _ _ _) R1.out hZ1
                      exact ⟨rfl, R, j1, HQR.out.trans j2, hS⟩
            · obtain ⟨Q, hQe, hQ⟩ : ∃ Q, Q = P ∧ Rot st m en P Q := ⟨P, rfl, Rot.triv (by omega) (by omega) (by omega) (by omega)⟩
              rw [← hQe] at hS
              repeat' (first
                | ((with_reducible apply gt9 (some 177) (.binOp .sub _ _ _ _)); (refine wplV (.int _ (((en : Nat) : Int))) (V.as (V.subI rfl rfl (by omega)) (by omega)) rfl ?_; go_step)) | ((with_reducible apply gt9 _ (.move _)); (first | go_big_want | go_step); go_step) | ((with_reducible apply gt9 _ (.assign _)); (first | go_big_want | go_step); go_step) | ((with_reducible apply gt9 _ (.pick _ _ _)); (refine wplPickT rfl (by kernel_rfl) ?_; go_step)) | ((with_reducible apply gt9 (some 180) (.binOp .lss _ _ _ _)); (refine wplD _ (V.lss rfl rfl) (by kernel_rfl) (fun hB => ?_) (fun hB => ?_) <;> (try (have hF : False := (by omega); cases hF)) <;> go_step)) | ((with_reducible apply gt9 (some 184) (.binOp .lss _ _ _ _)); (refine wvv9 (V.lss rfl rfl) ?_; go_step)) | ((fail_if_success with_reducible apply ga9); go_step))
              all_goals
                obtain ⟨s1, s2, s3, s4, hx⟩ := sym_parts HA1.out HA2.out ham hmb hmid (show en = mid + m - st by omega) (by omega) (by omega) (by omega) (by omega) (by omega) HLO2.out HHI2.out hQ
                have hQr := hQ.rg (show st ≤ m by omega) (show m ≤ en by omega)
                have hQl := hQr.len
                have HQR := hid (hQr.wide (show a ≤ st by omega) (show en ≤ b by omega) (by omega) (by omega))
                have HX := hid hx
                have S1 := hid s1
                have S2 := hid s2
                have S3 := hid s3
                have S4 := hid s4
                have g1 : a ≤ st := by omega
                have g2 : st ≤ mid := by omega
                have g3 : mid ≤ en := by omega
                have g4 : en ≤ b := by omega
                have g5 : mid - a ≤ N := by omega
                have g6 : b - mid ≤ N := by omega
                have g7 : a < mid := by omega
                have g8 : mid < b := by omega
                have hQn : Q.length = n := by omega
                clear hx s1 s2 s3 s4 hQ hQr HLO2 HHI2 HA1 HA2 F5 HS0a HS0b HR0a HR0b hen hlt hk hst hr f5 f1 f2 f3 f4 hT hmid e1 e2 hc h1' h2' hN hrot hQl hPl hp ham hmb
                by_cases hl : a < st ∧ st < mid
                · obtain ⟨hl1, hl2⟩ := hl
                  have hb2 : mid ≤ n := by omega
                  have HC := hid (fun (w : World) (hS : St W w (pks g n c Q :: rs')) => IH.out W w (pks g n c Q :: rs') rs' g n c a st mid Q g5 hS Pull.head hl1 hl2 hb2 hn S1.out S2.out)
                  repeat' (first
                    | ((with_reducible apply gt9 _ (.call ⟨.value (.func 101), _, _⟩)); refine wpl_call (f := 101) Tryd.call101 (by kernel_rfl) ?_; refine ⟨_, (HC.out _ hS), ?_⟩; rintro e w ⟨rfl, R, hR1, hR2, hS2⟩; replace hS := hS2; clear hS2; refine ⟨_, rfl, ?_⟩; refine put_move ?_; go_step) | ((with_reducible apply gt9 _ (.move _)); (first | go_big_want | go_step); go_step) | ((with_reducible apply gt9 _ (.pick _ _ _)); (refine wplPickT rfl (by kernel_rfl) ?_; go_step)) | ((with_reducible apply gt9 (some 194) (.binOp .lss _ _ _ _)); (refine wplD _ (V.lss rfl rfl) (by kernel_rfl) (fun hB => ?_) (fun hB => ?_) <;> (try (have hF : False := (by omega); cases hF)) <;> go_step)) | ((with_reducible apply gt9 (some 198) (.binOp .lss _ _ _ _)); (refine wvv9 (V.lss rfl rfl) ?_; go_step)) | ((fail_if_success with_reducible apply ga9); go_step))
                  have S5 := hid (S3.out.same (Q := R) fun x k1 k2 => hR2.out x (by omega))
                  have S6 := hid (S4.out.same (Q := R) fun x k1 k2 => hR2.out x (by omega))
                  have R1 := hid hR1
                  have R2 := hid hR2
                  clear hR1 hR2
                  by_cases hr : mid < en ∧ en < b
                  · obtain ⟨hr1, hr2⟩ := hr
                    have HC := hid (fun (w : World) (hS : St W w (pks g n c R :: rs')) => IH.out W w (pks g n c R :: rs') rs' g n c mid en b R g6 hS Pull.head hr1 hr2 hb hn S5.out S6.out)
                    repeat' (first
                      | ((with_reducible apply gt9 _ (.call ⟨.value (.func 101), _, _⟩)); refine wpl_call (f := 101) Tryd.call101 (by kernel_rfl) ?_; refine ⟨_, (HC.out _ hS), ?_⟩; rintro e w ⟨rfl, Z, hZ1, hZ2, hS2⟩; replace hS := hS2; clear hS2; refine ⟨_, rfl, ?_⟩; refine put_move ?_; go_step) | ((with_reducible apply gt9 _ (.move _)); (first | go_big_want | go_step); go_step) | ((with_reducible apply gt9 _ (.pick _ _ _)); (refine wplPickT rfl (by kernel_rfl) ?_; go_step)) | ((with_reducible apply gt9 (some 208) (.binOp .lss _ _ _ _)); (refine wplD _ (V.lss rfl rfl) (by kernel_rfl) (fun hB => ?_) (fun hB => ?_) <;> (try (have hF : False := (by omega); cases hF)) <;> go_step)) | ((with_reducible apply gt9 (some 212) (.binOp .lss _ _ _ _)); (refine wvv9 (V.lss rfl rfl) ?_; go_step)) | ((fail_if_success with_reducible apply ga9); go_step))
                    go_end0
                    obtain ⟨j1, j2⟩ := sym_join (show a ≤ mid by omega) (show mid ≤ b by omega) (show b ≤ Q.length by rw [hQn]; exact hb) HX.out R2.out hZ2 R1.out hZ1
                    exact ⟨rfl, Z, j1, HQR.out.trans j2, hS⟩
                  · have hZ1 : Asc PkV.w mid b R := by
                      by_cases c1 : mid < en
                      · exact S5.out.sub (Nat.le_refl _) (by omega)
                      · exact S6.out.sub (by omega) (Nat.le_refl _)
                    repeat' (first
                      | go_skip | ((with_reducible apply gt9 _ (.move _)); (first | go_big_want | go_step); go_step) | ((with_reducible apply gt9 _ (.pick _ _ _)); first | (refine wplPickT rfl (by kernel_rfl) ?_; go_step) | (refine wplPickF rfl (by kernel_rfl) ?_; go_step)) | ((with_reducible apply gt9 (some 208) (.binOp .lss _ _ _ _)); (refine wplD _ (V.lss rfl rfl) (by kernel_rfl) (fun hB => ?_) (fun hB => ?_) <;> (try (have hF : False := (by omega); cases hF)) <;> go_step)) | ((with_reducible apply gt9 (some 212) (.binOp .lss _ _ _ _)); (refine wvv9 (V.lss rfl rfl) ?_; go_step)) | ((fail_if_success with_reducible apply ga9); go_step))
                    all_goals
                      go_end0
                      obtain ⟨j1, j2⟩ := sym_join (show a ≤ mid by omega) (show mid ≤ b by omega) (show b ≤ Q.length by rw [hQn]; exact hb) HX.out R2.out (Rg.refl _ _ _) R1.out hZ1
                      exact ⟨rfl, R, j1, HQR.out.trans j2, hS⟩
                · obtain ⟨R, hRe⟩ : ∃ R, R = Q := ⟨Q, rfl⟩
                  have hR2 : Rg a mid Q R := by rw [hRe]; exact Rg.refl _ _ _
                  have hR1 : Asc PkV.w a mid R := by
                    rw [hRe]
                    by_cases c1 : a < st
                    · exact S1.out.sub (Nat.le_refl _) (by omega)
                    · exact S2.out.sub (by omega) (Nat.le_refl _)
                  rw [← hRe] at hS
                  repeat' (first
                    | go_skip | ((with_reducible apply gt9 _ (.move _)); (first | go_big_want | go_step); go_step) | ((with_reducible apply gt9 _ (.pick _ _ _)); first | (refine wplPickT rfl (by kernel_rfl) ?_; go_step) | (refine wplPickF rfl (by kernel_rfl) ?_; go_step)) | ((with_reducible apply gt9 (some 194) (.binOp .lss _ _ _ _)); (refine wplD _ (V.lss rfl rfl) (by kernel_rfl) (fun hB => ?_) (fun hB => ?_) <;> (try (have hF : False := (by omega); cases hF)) <;> go_step)) | ((with_reducible apply gt9 (some 198) (.binOp .lss _ _ _ _)); (refine wvv9 (V.lss rfl rfl) ?_; go_step)) | ((fail_if_success with_reducible apply ga9); go_step))
                  all_goals
                    have S5 := hid (S3.out.same (Q := R) fun x k1 k2 => hR2.out x (by omega))
                    have S6 := hid (S4.out.same (Q := R) fun x k1 k2 => hR2.out x (by omega))
                    have R1 := hid hR1
                    have R2 := hid hR2
                    clear hR1 hR2
                    by_cases hr : mid < en ∧ en < b
                    · obtain ⟨hr1, hr2⟩ := hr
                      have HC := hid (fun (w : World) (hS : St W w (pks g n c R :: rs')) => IH.out W w (pks g n c R :: rs') rs' g n c mid en b R g6 hS Pull.head hr1 hr2 hb hn S5.out S6.out)
                      repeat' (first
                        | ((with_reducible apply gt9 _ (.call ⟨.value (.func 101), _, _⟩)); refine wpl_call (f := 101) Tryd.call101 (by kernel_rfl) ?_; refine ⟨_, (HC.out _ hS), ?_⟩; rintro e w ⟨rfl, Z, hZ1, hZ2, hS2⟩; replace hS := hS2; clear hS2; refine ⟨_, rfl, ?_⟩; refine put_move ?_; go_step) | ((with_reducible apply gt9 _ (.move _)); (first | go_big_want | go_step); go_step) | ((with_reducible apply gt9 _ (.pick _ _ _)); (refine wplPickT rfl (by kernel_rfl) ?_; go_step)) | ((with_reducible apply gt9 (some 208) (.binOp .lss _ _ _ _)); (refine wplD _ (V.lss rfl rfl) (by kernel_rfl) (fun hB => ?_) (fun hB => ?_) <;> (try (have hF : False := (by omega); cases hF)) <;> go_step)) | ((with_reducible apply gt9 (some 212) (.binOp .lss _ _ _ _)); (refine wvv9 (V.lss rfl rfl) ?_; go_step)) | ((fail_if_success with_reducible apply ga9); go_step))
                      go_end0
                      obtain ⟨j1, j2⟩ := sym_join (show a ≤ mid by omega) (show mid ≤ b by omega) (show b ≤ Q.length by rw [hQn]; exact hb) HX.out R2.out hZ2 R1.out hZ1
                      exact ⟨rfl, Z, j1, HQR.out.trans j2, hS⟩
                    · have hZ1 : Asc PkV.w mid b R := by
                        by_cases c1 : mid < en
                        · exact S5.out.sub (Nat.le_refl _) (by omega)
                        · exact S6.out.sub (by omega) (Nat.le_refl _)
                      repeat' (first
                        | go_skip | ((with_reducible apply gt9 _ (.move _)); (first | go_big_want | go_step); go_step) | ((with_reducible apply gt9 _ (.pick _ _ _)); first | (refine wplPickT rfl (by kernel_rfl) ?_; go_step) | (refine wplPickF rfl (by kernel_rfl) ?_; go_step)) | ((with_reducible apply gt9 (some 208) (.binOp .lss _ _ _ _)); (refine wplD _ (V.lss rfl rfl) (by kernel_rfl) (fun hB => ?_) (fun hB => ?_) <;> (try (have hF : False := (by omega); cases hF)) <;> go_step)) | ((with_reducible apply gt9 (some 212) (.binOp .lss _ _ _ _)); (refine wvv9 (V.lss rfl rfl) ?_; go_step)) | ((fail_if_success with_reducible apply ga9); go_step))
                      all_goals
                        go_end0
                        obtain ⟨j1, j2⟩ := sym_join (show a ≤ mid by omega) (show mid ≤ b by omega) (show b ≤ Q.length by rw [hQn]; exact hb) HX.out R2.out (Rg.refl _ _ _) R1.out hZ1
                        exact ⟨rfl, R, j1, HQR.out.trans j2, hS⟩
      · have e1 := HS0b.out hc
        have e2 := HR0b.out hc
        repeat' (first
          | ((with_reducible apply gt9 (some 131) (.binOp .add _ _ _ _)); (refine wplV (.int _ (((a + b : Nat) : Int))) (V.as (V.addI rfl rfl (by omega)) (by omega)) rfl ?_; go_step)) | ((with_reducible apply gt9 (some 133) (.binOp .shr _ _ _ _)); (refine wplV (.int _ (((mid : Nat) : Int))) (V.as (V.shr rfl rfl isn9 (by omega) rfl) (by omega)) rfl ?_; go_step)) | ((with_reducible apply gt9 (some 137) (.binOp .add _ _ _ _)); (refine wplV (.int _ (((T : Nat) : Int))) (V.as (V.addI rfl rfl (by omega)) (by omega)) rfl ?_; go_step)) | ((with_reducible apply gt9 _ (.move _)); (first | go_big_want | go_step); go_step) | ((with_reducible apply gt9 _ (.assign _)); (first | go_big_want | go_step); go_step) | ((with_reducible apply gt9 (some 132) (.convert 3 147 _)); (refine wvv9 (V.convI (by rw [Tryd.underlying3]; rfl) Tryd.underlying147 rfl (IntWalk.u64_in _ (by omega))) ?_; go_step)) | ((with_reducible apply gt9 (some 134) (.convert 147 3 _)); (refine wvv9 (V.convI (by rw [Tryd.underlying147]; rfl) Tryd.underlying3 rfl (IntWalk.i64_in _ (by omega))) ?_; go_step)) | ((with_reducible apply gt9 (some 140) (.binOp .gtr _ _ _ _)); (refine wvv9 (V.gtr rfl rfl) ?_; go_step)) | ((fail_if_success with_reducible apply ga9); go_step))
        repeat' (first
          | ((with_reducible apply gt9 (some 148) (.binOp .sub _ _ _ _)); (refine wplV (.int _ (((T - 1 : Nat) : Int))) (V.as (V.subI rfl rfl (by omega)) (by omega)) rfl ?_; go_step)) | ((with_reducible apply gt9 _ (.assign _)); (first | go_big_want | go_step); go_step) | ((fail_if_success with_reducible apply ga9); go_step))
        go_loopg [20, 21] (r0 - s0) (fun gk iv jv w => ∃ (st r : Nat), gk + st = r ∧ s0 ≤ st ∧ r ≤ r0 ∧ iv = .int .i64 st ∧ jv = .int .i64 r ∧ (s0 < st → wk P (st - 1) ≤ wk P (T - st)) ∧ (r < r0 → wk P (T - 1 - r) ≤ wk P r) ∧ St W w (pks g n c P :: rs'))
        case atStart => exact ⟨s0, r0, by omega, by omega, by omega, by first | rfl | rw [e1], by first | rfl | rw [e2], fun h => by omega, fun h => by omega, hS⟩
        case round =>
          clear hS
          obtain ⟨st, r, hk, hst, hr, rfl, rfl, hlo, hhi, hS⟩ := hrel
          have HLO := hid hlo
          have HHI := hid hhi
          clear hlo hhi
          have f5 := F5.out st hst (by omega)
          by_cases hlt : st < r
          · obtain ⟨h, hh⟩ : ∃ h, h = (st + r) / 2 := ⟨_, rfl⟩
            obtain ⟨y, hy⟩ : ∃ y, y = T - 1 - h := ⟨_, rfl⟩
            have f6 := F5.out (h + 1) (by omega) (by omega)
            obtain ⟨v, hv⟩ : ∃ v, cmpv (elt P y).w (elt P h).w = v := ⟨_, rfl⟩
            have hv2 := cmpv_lt (elt P y).w (elt P h).w
            rw [hv] at hv2
            have HV := hid hv
            have HV2 := hid hv2
            clear hv hv2
            repeat' (first
              | ((with_reducible apply gt9 (some 154) (.binOp .add _ _ _ _)); (refine wplV (.int _ (((st + r : Nat) : Int))) (V.as (V.addI rfl rfl (by omega)) (by omega)) rfl ?_; go_step)) | ((with_reducible apply gt9 (some 156) (.binOp .shr _ _ _ _)); (refine wplV (.int _ (((h : Nat) : Int))) (V.as (V.shr rfl rfl isn9 (by omega) rfl) (by omega)) rfl ?_; go_step)) | ((with_reducible apply gt9 _ (.move _)); (first | go_big_want | go_step); go_step) | ((with_reducible apply gt9 _ (.assign _)); (first | go_big_want | go_step); go_step) | ((with_reducible apply gt9 (some 151) (.binOp .lss _ _ _ _)); (refine wvv9 (V.lss rfl rfl) ?_; go_step)) | ((with_reducible apply gt9 (some 155) (.convert 3 147 _)); (refine wvv9 (V.convI (by rw [Tryd.underlying3]; rfl) Tryd.underlying147 rfl (IntWalk.u64_in _ (by omega))) ?_; go_step)) | ((with_reducible apply gt9 (some 157) (.convert 147 3 _)); (refine wvv9 (V.convI (by rw [Tryd.underlying147]; rfl) Tryd.underlying3 rfl (IntWalk.i64_in _ (by omega))) ?_; go_step)) | ((fail_if_success with_reducible apply ga9); go_step))
            refine drawn_lit [11] (fun w => St W w (pks g n c P :: rs')) (by kernel_rfl) ?_
            replace hS := hS.drew
            focus
              refine takeM 0 _ al9 (by kernel_rfl) (by kernel_rfl) (by kernel_rfl) (by exact fun _ _ _ _ h => h) rfl ?_
              go_step
              refine takeM 1 _ al9 (by kernel_rfl) (by kernel_rfl) (by kernel_rfl) (by exact fun _ _ _ _ h => h) rfl ?_
              go_step
              refine takeM 2 _ al9 (by kernel_rfl) (by kernel_rfl) (by kernel_rfl) (by exact fun _ _ _ _ h => h) rfl ?_
              go_step
              refine takeM 3 _ al9 (by kernel_rfl) (by kernel_rfl) (by kernel_rfl) (by exact fun _ _ _ _ h => h) rfl ?_
              go_step
              (refine takeV 4 (.int _ (((y : Nat) : Int))) al9 (by kernel_rfl) (by kernel_rfl) (by kernel_rfl) (by exact fun _ _ _ _ h => h) (V.as (V.subI rfl rfl (by omega)) (by omega)) rfl ?_)
              go_step
              (refine takeV 5 _ al9 (by kernel_rfl) (by kernel_rfl) (by kernel_rfl) (by exact fun _ _ _ _ h => h) (V.indexSl Tryd.underlying134 isz133 rfl rfl isn9 (by omega) rfl nq9) rfl ?_)
              go_step
              apply takeS 6 al9 (by kernel_rfl) (by kernel_rfl) (by kernel_rfl) (by exact fun _ _ _ _ h => h) [11, 12, 13] (by kernel_rfl) (hS.sub sb9)
              case hfr => intro w hS; ((refine wpl (by kernel_rfl) ?_; apply wp_loadE hS 133 _ rfl _ _ rfl 2 (row_of rfl) _ _ _ _ _; (case hp => exact pl9); (case inst => infer_instance); (case he => with_reducible assumption); (case hq => exact rfl); (case hj => omega); refine put_move ?_; go_step)); refine wpList_nil ?_; exact ⟨rfl, rfl⟩
              case hd => rfl
              refine takeM 7 _ al9 (by kernel_rfl) (by kernel_rfl) (by kernel_rfl) (by exact fun _ _ _ _ h => h) rfl ?_
              go_step
              refine takeM 8 _ al9 (by kernel_rfl) (by kernel_rfl) (by kernel_rfl) (by exact fun _ _ _ _ h => h) rfl ?_
              go_step
              (refine takeV 9 _ al9 (by kernel_rfl) (by kernel_rfl) (by kernel_rfl) (by exact fun _ _ _ _ h => h) (V.indexSl Tryd.underlying134 isz133 rfl rfl isn9 (by omega) rfl nq9) rfl ?_)
              go_step
              apply takeS 10 al9 (by kernel_rfl) (by kernel_rfl) (by kernel_rfl) (by exact fun _ _ _ _ h => h) [11, 12, 13] (by kernel_rfl) (hS.sub sb9)
              case hfr => intro w hS; ((refine wpl (by kernel_rfl) ?_; apply wp_loadE hS 133 _ rfl _ _ rfl 2 (row_of rfl) _ _ _ _ _; (case hp => exact pl9); (case inst => infer_instance); (case he => with_reducible assumption); (case hq => exact rfl); (case hj => omega); refine put_move ?_; go_step)); refine wpList_nil ?_; exact ⟨rfl, rfl⟩
              case hd => rfl
              refine branch1 11 al9 rfl (by kernel_rfl) ?_
              refine wp_callV (f := 67) rfl rfl Tryd.call67 (byWeight_any _ (elt P y) (elt P h)) ?_; rintro e w ⟨rfl, hE⟩; replace hS := hS.ext hE; clear hE; rw [HV.out]; refine ⟨_, rfl, ?_⟩
              refine ⟨fun h => absurd (by decide) h, ?_⟩
              refine drawn_move ?_
              go_step
              (refine takeV 12 _ al9 (by kernel_rfl) (by kernel_rfl) (by kernel_rfl) (by exact fun _ _ _ _ h => h) (V.lss rfl rfl) rfl ?_)
              go_step
              (refine takeV 13 _ al9 (by kernel_rfl) (by kernel_rfl) (by kernel_rfl) (by exact fun _ _ _ _ h => h) (V.notD rfl) rfl ?_)
              go_step
              refine drawn_done (by kernel_rfl) ?_ _
            by_cases hc2 : v < 0
            · skip
              repeat' (first
                | ((with_reducible apply gt9 _ (.move _)); (first | go_big_want | go_step); go_step) | ((with_reducible apply gt9 _ (.assign _)); (first | go_big_want | go_step); go_step) | ((fail_if_success with_reducible apply ga9); go_step))
              go_roundg (h - st)
              case measure => omega
              case rel =>
                refine ⟨st, h, by omega, by omega, by omega, rfl, by go_num, HLO.out, fun k1 => ?_, hS⟩
                have := HV2.out.1 hc2
                rw [← hy]
                exact Int.le_of_lt this
            · skip
              repeat' (first
                | ((with_reducible apply gt9 (some 173) (.binOp .add _ _ _ _)); (refine wplV (.int _ (((h + 1 : Nat) : Int))) (V.as (V.addI rfl rfl (by omega)) (by omega)) rfl ?_; go_step)) | ((with_reducible apply gt9 _ (.move _)); (first | go_big_want | go_step); go_step) | ((with_reducible apply gt9 _ (.assign _)); (first | go_big_want | go_step); go_step) | ((fail_if_success with_reducible apply ga9); go_step))
              go_roundg (r - (h + 1))
              case measure => omega
              case rel =>
                refine ⟨h + 1, r, by omega, by omega, by omega, by go_num, rfl, fun k1 => ?_, HHI.out, hS⟩
                have := HV2.out
                rw [show T - (h + 1) = y by omega, Nat.add_sub_cancel]
                show (elt P h).w ≤ (elt P y).w
                omega
          · obtain rfl : st = r := by omega
            obtain ⟨en, hen⟩ : ∃ en, en = T - st := ⟨_, rfl⟩
            have HLO2 : Hid (a < st → m ≤ en → en < b → wk P (st - 1) ≤ wk P en) := fun k1 k2 k3 => by
              rw [hen]; exact HLO.out (by omega)
            have HHI2 : Hid (m < en → st < m → wk P (en - 1) ≤ wk P st) := fun k1 k2 => by
              rw [show en - 1 = T - 1 - st by omega]; exact HHI.out (by omega)
            clear HLO HHI
            repeat' (first
              | ((with_reducible apply gt9 _ (.move _)); (first | go_big_want | go_step); go_step) | ((with_reducible apply gt9 (some 151) (.binOp .lss _ _ _ _)); (refine wvv9 (V.lss rfl rfl) ?_; go_step)) | ((fail_if_success with_reducible apply ga9); go_step))
            by_cases hrot : st < m ∧ m < en
            · have hrot1 := hrot.1
              have hrot2 := hrot.2
              repeat' (first
                | ((with_reducible apply gt9 (some 177) (.binOp .sub _ _ _ _)); (refine wplV (.int _ (((en : Nat) : Int))) (V.as (V.subI rfl rfl (by omega)) (by omega)) rfl ?_; go_step)) | ((with_reducible apply gt9 _ (.call ⟨.value (.func 109), _, _⟩)); refine wpl_call (f := 109) Tryd.call109 (by kernel_rfl) ?_; refine ⟨_, (rotate_any W _ _ rs' g n c st m en P hS Pull.head hrot1 hrot2 (by omega) hn byW), ?_⟩; rintro e w ⟨rfl, Q, hQ, hS2⟩; replace hS := hS2; clear hS2; refine ⟨_, rfl, ?_⟩; refine put_move ?_; go_step) | ((with_reducible apply gt9 _ (.move _)); (first | go_big_want | go_step); go_step) | ((with_reducible apply gt9 _ (.assign _)); (first | go_big_want | go_step); go_step) | ((with_reducible apply gt9 _ (.pick _ _ _)); (refine wplPickT rfl (by kernel_rfl) ?_; go_step)) | ((with_reducible apply gt9 (some 180) (.binOp .lss _ _ _ _)); (refine wplD _ (V.lss rfl rfl) (by kernel_rfl) (fun hB => ?_) (fun hB => ?_) <;> (try (have hF : False := (by omega); cases hF)) <;> go_step)) | ((with_reducible apply gt9 (some 184) (.binOp .lss _ _ _ _)); (refine wvv9 (V.lss rfl rfl) ?_; go_step)) | ((fail_if_success with_reducible apply ga9); go_step))
              obtain ⟨s1, s2, s3, s4, hx⟩ := sym_parts HA1.out HA2.out ham hmb hmid (show en = mid + m - st by omega) (by omega) (by omega) (by omega) (by omega) (by omega) HLO2.out HHI2.out hQ
              have hQr := hQ.rg (show st ≤ m by omega) (show m ≤ en by omega)
              have hQl := hQr.len
              have HQR := hid (hQr.wide (show a ≤ st by omega) (show en ≤ b by omega) (by omega) (by omega))
              have HX := hid hx
              have S1 := hid s1
              have S2 := hid s2
              have S3 := hid s3
              have S4 := hid s4
              have g1 : a ≤ st := by omega
              have g2 : st ≤ mid := by omega
              have g3 : mid ≤ en := by omega
              have g4 : en ≤ b := by omega
              have g5 : mid - a ≤ N := by omega
              have g6 : b - mid ≤ N := by omega
              have g7 : a < mid := by omega
              have g8 : mid < b := by omega
              have hQn : Q.length = n := by omega
              clear hx s1 s2 s3 s4 hQ hQr HLO2 HHI2 HA1 HA2 F5 HS0a HS0b HR0a HR0b hen hlt hk hst hr f5 f1 f2 f3 f4 hT hmid e1 e2 hc h1' h2' hN hrot hQl hPl hp ham hmb
              by_cases hl : a < st ∧ st < mid
              · obtain ⟨hl1, hl2⟩ := hl
                have hb2 : mid ≤ n := by omega
                have HC := hid (fun (w : World) (hS : St W w (pks g n c Q :: rs')) => IH.out W w (pks g n c Q :: rs') rs' g n c a st mid Q g5 hS Pull.head hl1 hl2 hb2 hn S1.out S2.out)
                repeat' (first
                  | ((with_reducible apply gt9 _ (.call ⟨.value (.func 101), _, _⟩)); refine wpl_call (f := 101) Tryd.call101 (by kernel_rfl) ?_; refine ⟨_, (HC.out _ hS), ?_⟩; rintro e w ⟨rfl, R, hR1, hR2, hS2⟩; replace hS := hS2; clear hS2; refine ⟨_, rfl, ?_⟩; refine put_move ?_; go_step) | ((with_reducible apply gt9 _ (.move _)); (first | go_big_want | go_step); go_step) | ((with_reducible apply gt9 _ (.pick _ _ _)); (refine wplPickT rfl (by kernel_rfl) ?_; go_step)) | ((with_reducible apply gt9 (some 194) (.binOp .lss _ _ _ _)); (refine wplD _ (V.lss rfl rfl) (by kernel_rfl) (fun hB => ?_) (fun hB => ?_) <;> (try (have hF : False := (by omega); cases hF)) <;> go_step)) | ((with_reducible apply gt9 (some 198) (.binOp .lss _ _ _ _)); (refine wvv9 (V.lss rfl rfl) ?_; go_step)) | ((fail_if_success with_reducible apply ga9); go_step))
                have S5 := hid (S3.out.same (Q := R) fun x k1 k2 => hR2.out x (by omega))
                have S6 := hid (S4.out.same (Q := R) fun x k1 k2 => hR2.out x (by omega))
                have R1 := hid hR1
                have R2 := hid hR2
                clear hR1 hR2
                by_cases hr : mid < en ∧ en < b
                · obtain ⟨hr1, hr2⟩ := hr
                  have HC := hid (fun (w : World) (hS : St W w (pks g n c R :: rs')) => IH.out W w (pks g n c R :: rs') rs' g n c mid en b R g6 hS Pull.head hr1 hr2 hb hn S5.out S6.out)
                  repeat' (first
                    | ((with_reducible apply gt9 _ (.call ⟨.value (.func 101), _, _⟩)); refine wpl_call (f := 101) Tryd.call101 (by kernel_rfl) ?_; refine ⟨_, (HC.out _ hS), ?_⟩; rintro e w ⟨rfl, Z, hZ1, hZ2, hS2⟩; replace hS := hS2; clear hS2; refine ⟨_, rfl, ?_⟩; refine put_move ?_; go_step) | ((with_reducible apply gt9 _ (.move _)); (first | go_big_want | go_step); go_step) | ((with_reducible apply gt9 _ (.pick _ _ _)); (refine wplPickT rfl (by kernel_rfl) ?_; go_step)) | ((with_reducible apply gt9 (some 208) (.binOp .lss _ _ _ _)); (refine wplD _ (V.lss rfl rfl) (by kernel_rfl) (fun hB => ?_) (fun hB => ?_) <;> (try (have hF : False := (by omega); cases hF)) <;> go_step)) | ((with_reducible apply gt9 (some 212) (.binOp .lss _ _ _ _)); (refine wvv9 (V.lss rfl rfl) ?_; go_step)) | ((fail_if_success with_reducible apply ga9); go_step))
                  go_end0
                  obtain ⟨j1, j2⟩ := sym_join (show a ≤ mid by omega) (show mid ≤ b by omega) (show b ≤ Q.length by rw [hQn]; exact hb) HX.out R2.out hZ2 R1.out hZ1
                  exact ⟨rfl, Z, j1, HQR.out.trans j2, hS⟩
                · have hZ1 : Asc PkV.w mid b R := by
                    by_cases c1 : mid < en
                    · exact S5.out.sub (Nat.le_refl _) (by omega)
                    · exact S6.out.sub (by omega) (Nat.le_refl _)
                  repeat' (first
                    | go_skip | ((with_reducible apply gt9 _ (.move _)); (first | go_big_want | go_step); go_step) | ((with_reducible apply gt9 _ (.pick _ _ _)); first | (refine wplPickT rfl (by kernel_rfl) ?_; go_step) | (refine wplPickF rfl (by kernel_rfl) ?_; go_step)) | ((with_reducible apply gt9 (some 208) (.binOp .lss _ _ _ _)); (refine wplD _ (V.lss rfl rfl) (by kernel_rfl) (fun hB => ?_) (fun hB => ?_) <;> (try (have hF : False := (by omega); cases hF)) <;> go_step)) | ((with_reducible apply gt9 (some 212) (.binOp .lss _ _ _ _)); (refine wvv9 (V.lss rfl rfl) ?_; go_step)) | ((fail_if_success with_reducible apply ga9); go_step))
                  all_goals
                    go_end0
                    obtain ⟨j1, j2⟩ := sym_join (show a ≤ mid by omega) (show mid ≤ b by omega) (show b ≤ Q.length by rw [hQn]; exact hb) HX.out R2.out (Rg.refl _ _ _) R1.out hZ1
                    exact ⟨rfl, R, j1, HQR.out.trans j2, hS⟩
              · obtain ⟨R, hRe⟩ : ∃ R, R = Q := ⟨Q, rfl⟩
                have hR2 : Rg a mid Q R := by rw [hRe]; exact Rg.refl _ _ _
                have hR1 : Asc PkV.w a mid R := by
                  rw [hRe]
                  by_cases c1 : a < st
                  · exact S1.out.sub (Nat.le_refl _) (by omega)
                  · exact S2.out.sub (by omega) (Nat.le_refl _)
                rw [← hRe] at hS
                repeat' (first
                  | go_skip | ((with_reducible apply gt9 _ (.move _)); (first | go_big_want | go_step); go_step) | ((with_reducible apply gt9 _ (.pick _ _ _)); (refine wplPickF rfl (by kernel_rfl) ?_; go_step)) | ((with_reducible apply gt9 (some 194) (.binOp .lss _ _ _ _)); (refine wplD _ (V.lss rfl rfl) (by kernel_rfl) (fun hB => ?_) (fun hB => ?_) <;> (try (have hF : False := (by omega); cases hF)) <;> go_step)) | ((fail_if_success with_reducible apply ga9); go_step))
                all_goals
                  have S5 := hid (S3.out.same (Q := R) fun x k1 k2 => hR2.out x (by omega))
                  have S6 := hid (S4.out.same (Q := R) fun x k1 k2 => hR2.out x (by omega))
                  have R1 := hid hR1
                  have R2 := hid hR2
                  clear hR1 hR2
                  by_cases hr : mid < en ∧ en < b
                  · obtain ⟨hr1, hr2⟩ := hr
                    have HC := hid (fun (w : World) (hS : St W w (pks g n c R :: rs')) => IH.out W w (pks g n c R :: rs') rs' g n c mid en b R g6 hS Pull.head hr1 hr2 hb hn S5.out S6.out)
                    repeat' (first
                      | ((with_reducible apply gt9 _ (.call ⟨.value (.func 101), _, _⟩)); refine wpl_call (f := 101) Tryd.call101 (by kernel_rfl) ?_; refine ⟨_, (HC.out _ hS), ?_⟩; rintro e w ⟨rfl, Z, hZ1, hZ2, hS2⟩; replace hS := hS2; clear hS2; refine ⟨_, rfl, ?_⟩; refine put_move ?_; go_step) | ((with_reducible apply gt9 _ (.move _)); (first | go_big_want | go_step); go_step) | ((with_reducible apply gt9 _ (.pick _ _ _)); (refine wplPickT rfl (by kernel_rfl) ?_; go_step)) | ((with_reducible apply gt9 (some 208) (.binOp .lss _ _ _ _)); (refine wplD _ (V.lss rfl rfl) (by kernel_rfl) (fun hB => ?_) (fun hB => ?_) <;> (try (have hF : False := (by omega); cases hF)) <;> go_step)) | ((with_reducible apply gt9 (some 212) (.binOp .lss _ _ _ _)); (refine wvv9 (V.lss rfl rfl) ?_; go_step)) | ((fail_if_success with_reducible apply ga9); go_step))
                    go_end0
                    obtain ⟨j1, j2⟩ := sym_join (show a ≤ mid by omega) (show mid ≤ b by omega) (show b ≤ Q.length by rw [hQn]; exact hb) HX.out R2.out hZ2 R1.out hZ1
                    exact ⟨rfl, Z, j1, HQR.out.trans j2, hS⟩
                  · have hZ1 : Asc PkV.w mid b R := by
                      by_cases c1 : mid < en
                      · exact S5.out.sub (Nat.le_refl _) (by omega)
                      · exact S6.out.sub (by omega) (Nat.le_refl _)
                    repeat' (first
                      | go_skip | ((with_reducible apply gt9 _ (.move _)); (first | go_big_want | go_step); go_step) | ((with_reducible apply gt9 _ (.pick _ _ _)); first | (refine wplPickT rfl (by kernel_rfl) ?_; go_step) | (refine wplPickF rfl (by kernel_rfl) ?_; go_step)) | ((with_reducible apply gt9 (some 208) (.binOp .lss _ _ _ _)); (refine wplD _ (V.lss rfl rfl) (by kernel_rfl) (fun hB => ?_) (fun hB => ?_) <;> (try (have hF : False := (by omega); cases hF)) <;> go_step)) | ((with_reducible apply gt9 (some 212) (.binOp .lss _ _ _ _)); (refine wvv9 (V.lss rfl rfl) ?_; go_step)) | ((fail_if_success with_reducible apply ga9); go_step))
                    all_goals
                      go_end0
                      obtain ⟨j1, j2⟩ := sym_join (show a ≤ mid by omega) (show mid ≤ b by omega) (show b ≤ Q.length by rw [hQn]; exact hb) HX.out R2.out (Rg.refl _ _ _) R1.out hZ1
                      exact ⟨rfl, R, j1, HQR.out.trans j2, hS⟩
            · obtain ⟨Q, hQe, hQ⟩ : ∃ Q, Q = P ∧ Rot st m en P Q := ⟨P, rfl, Rot.triv (by omega) (by omega) (by omega) (by omega)⟩
              rw [← hQe] at hS
              repeat' (first
                | ((with_reducible apply gt9 (some 177) (.binOp .sub _ _ _ _)); (refine wplV (.int _ (((en : Nat) : Int))) (V.as (V.subI rfl rfl (by omega)) (by omega)) rfl ?_; go_step)) | go_skip | ((with_reducible apply gt9 _ (.move _)); (first | go_big_want | go_step); go_step) | ((with_reducible apply gt9 _ (.assign _)); (first | go_big_want | go_step); go_step) | ((with_reducible apply gt9 _ (.pick _ _ _)); (refine wplPickF rfl (by kernel_rfl) ?_; go_step)) | ((with_reducible apply gt9 (some 180) (.binOp .lss _ _ _ _)); (refine wplD _ (V.lss rfl rfl) (by kernel_rfl) (fun hB => ?_) (fun hB => ?_) <;> (try (have hF : False := (by omega); cases hF)) <;> go_step)) | ((fail_if_success with_reducible apply ga9); go_step))
              all_goals
                obtain ⟨s1, s2, s3, s4, hx⟩ := sym_parts HA1.out HA2.out ham hmb hmid (show en = mid + m - st by omega) (by omega) (by omega) (by omega) (by omega) (by omega) HLO2.out HHI2.out hQ
                have hQr := hQ.rg (show st ≤ m by omega) (show m ≤ en by omega)
                have hQl := hQr.len
                have HQR := hid (hQr.wide (show a ≤ st by omega) (show en ≤ b by omega) (by omega) (by omega))
                have HX := hid hx
                have S1 := hid s1
                have S2 := hid s2
                have S3 := hid s3
                have S4 := hid s4
                have g1 : a ≤ st := by omega
                have g2 : st ≤ mid := by omega
                have g3 : mid ≤ en := by omega
                have g4 : en ≤ b := by omega
                have g5 : mid - a ≤ N := by omega
                have g6 : b - mid ≤ N := by omega
                have g7 : a < mid := by omega
                have g8 : mid < b := by omega
                have hQn : Q.length = n := by omega
                clear hx s1 s2 s3 s4 hQ hQr HLO2 HHI2 HA1 HA2 F5 HS0a HS0b HR0a HR0b hen hlt hk hst hr f5 f1 f2 f3 f4 hT hmid e1 e2 hc h1' h2' hN hrot hQl hPl hp ham hmb
                by_cases hl : a < st ∧ st < mid
                · obtain ⟨hl1, hl2⟩ := hl
                  have hb2 : mid ≤ n := by omega
                  have HC := hid (fun (w : World) (hS : St W w (pks g n c Q :: rs')) => IH.out W w (pks g n c Q :: rs') rs' g n c a st mid Q g5 hS Pull.head hl1 hl2 hb2 hn S1.out S2.out)
                  repeat' (first
                    | ((with_reducible apply gt9 _ (.call ⟨.value (.func 101), _, _⟩)); refine wpl_call (f := 101) Tryd.call101 (by kernel_rfl) ?_; refine ⟨_, (HC.out _ hS), ?_⟩; rintro e w ⟨rfl, R, hR1, hR2, hS2⟩; replace hS := hS2; clear hS2; refine ⟨_, rfl, ?_⟩; refine put_move ?_; go_step) | ((with_reducible apply gt9 _ (.move _)); (first | go_big_want | go_step); go_step) | ((with_reducible apply gt9 _ (.pick _ _ _)); (refine wplPickT rfl (by kernel_rfl) ?_; go_step)) | ((with_reducible apply gt9 (some 194) (.binOp .lss _ _ _ _)); (refine wplD _ (V.lss rfl rfl) (by kernel_rfl) (fun hB => ?_) (fun hB => ?_) <;> (try (have hF : False := (by omega); cases hF)) <;> go_step)) | ((with_reducible apply gt9 (some 198) (.binOp .lss _ _ _ _)); (refine wvv9 (V.lss rfl rfl) ?_; go_step)) | ((fail_if_success with_reducible apply ga9); go_step))
                  have S5 := hid (S3.out.same (Q := R) fun x k1 k2 => hR2.out x (by omega))
                  have S6 := hid (S4.out.same (Q := R) fun x k1 k2 => hR2.out x (by omega))
                  have R1 := hid hR1
                  have R2 := hid hR2
                  clear hR1 hR2
                  by_cases hr : mid < en ∧ en < b
                  · obtain ⟨hr1, hr2⟩ := hr
                    have HC := hid (fun (w : World) (hS : St W w (pks g n c R :: rs')) => IH.out W w (pks g n c R :: rs') rs' g n c mid en b R g6 hS Pull.head hr1 hr2 hb hn S5.out S6.out)
                    repeat' (first
                      | ((with_reducible apply gt9 _ (.call ⟨.value (.func 101), _, _⟩)); refine wpl_call (f := 101) Tryd.call101 (by kernel_rfl) ?_; refine ⟨_, (HC.out _ hS), ?_⟩; rintro e w ⟨rfl, Z, hZ1, hZ2, hS2⟩; replace hS := hS2; clear hS2; refine ⟨_, rfl, ?_⟩; refine put_move ?_; go_step) | ((with_reducible apply gt9 _ (.move _)); (first | go_big_want | go_step); go_step) | ((with_reducible apply gt9 _ (.pick _ _ _)); (refine wplPickT rfl (by kernel_rfl) ?_; go_step)) | ((with_reducible apply gt9 (some 208) (.binOp .lss _ _ _ _)); (refine wplD _ (V.lss rfl rfl) (by kernel_rfl) (fun hB => ?_) (fun hB => ?_) <;> (try (have hF : False := (by omega); cases hF)) <;> go_step)) | ((with_reducible apply gt9 (some 212) (.binOp .lss _ _ _ _)); (refine wvv9 (V.lss rfl rfl) ?_; go_step)) | ((fail_if_success with_reducible apply ga9); go_step))
                    go_end0
                    obtain ⟨j1, j2⟩ := sym_join (show a ≤ mid by omega) (show mid ≤ b by omega) (show b ≤ Q.length by rw [hQn]; exact hb) HX.out R2.out hZ2 R1.out hZ1
                    exact ⟨rfl, Z, j1, HQR.out.trans j2, hS⟩
                  · have hZ1 : Asc PkV.w mid b R := by
                      by_cases c1 : mid < en
                      · exact S5.out.sub (Nat.le_refl _) (by omega)
                      · exact S6.out.sub (by omega) (Nat.le_refl _)
                    repeat' (first
                      | go_skip | ((with_reducible apply gt9 _ (.move _)); (first | go_big_want | go_step); go_step) | ((with_reducible apply gt9 _ (.pick _ _ _)); first | (refine wplPickT rfl (by kernel_rfl) ?_; go_step) | (refine wplPickF rfl (by kernel_rfl) ?_; go_step)) | ((with_reducible apply gt9 (some 208) (.binOp .lss _ _ _ _)); (refine wplD _ (V.lss rfl rfl) (by kernel_rfl) (fun hB => ?_) (fun hB => ?_) <;> (try (have hF : False := (by omega); cases hF)) <;> go_step)) | ((with_reducible apply gt9 (some 212) (.binOp .lss _ _ _ _)); (refine wvv9 (V.lss rfl rfl) ?_; go_step)) | ((fail_if_success with_reducible apply ga9); go_step))
                    all_goals
                      go_end0
                      obtain ⟨j1, j2⟩ := sym_join (show a ≤ mid by omega) (show mid ≤ b by omega) (show b ≤ Q.length by rw [hQn]; exact hb) HX.out R2.out (Rg.refl _ _ _) R1.out hZ1
                      exact ⟨rfl, R, j1, HQR.out.trans j2, hS⟩
                · obtain ⟨R, hRe⟩ : ∃ R, R = Q := ⟨Q, rfl⟩
                  have hR2 : Rg a mid Q R := by rw [hRe]; exact Rg.refl _ _ _
                  have hR1 : Asc PkV.w a mid R := by
                    rw [hRe]
                    by_cases c1 : a < st
                    · exact S1.out.sub (Nat.le_refl _) (by omega)
                    · exact S2.out.sub (by omega) (Nat.le_refl _)
                  rw [← hRe] at hS
                  repeat' (first
                    | go_skip | ((with_reducible apply gt9 _ (.move _)); (first | go_big_want | go_step); go_step) | ((with_reducible apply gt9 _ (.pick _ _ _)); first | (refine wplPickT rfl (by kernel_rfl) ?_; go_step) | (refine wplPickF rfl (by kernel_rfl) ?_; go_step)) | ((with_reducible apply gt9 (some 194) (.binOp .lss _ _ _ _)); (refine wplD _ (V.lss rfl rfl) (by kernel_rfl) (fun hB => ?_) (fun hB => ?_) <;> (try (have hF : False := (by omega); cases hF)) <;> go_step)) | ((with_reducible apply gt9 (some 198) (.binOp .lss _ _ _ _)); (refine wvv9 (V.lss rfl rfl) ?_; go_step)) | ((fail_if_success with_reducible apply ga9); go_step))
                  all_goals
                    have S5 := hid (S3.out.same (Q := R) fun x k1 k2 => hR2.out x (by omega))
                    have S6 := hid (S4.out.same (Q := R) fun x k1 k2 => hR2.out x (by omega))
                    have R1 := hid hR1
                    have R2 := hid hR2
                    clear hR1 hR2
                    by_cases hr : mid < en ∧ en < b
                    · obtain ⟨hr1, hr2⟩ := hr
                      have HC := hid (fun (w : World) (hS : St W w (pks g n c R :: rs')) => IH.out W w (pks g n c R :: rs') rs' g n c mid en b R g6 hS Pull.head hr1 hr2 hb hn S5.out S6.out)
                      repeat' (first
                        | ((with_reducible apply gt9 _ (.call ⟨.value (.func 101), _, _⟩)); refine wpl_call (f := 101) Tryd.call101 (by kernel_rfl) ?_; refine ⟨_, (HC.out _ hS), ?_⟩; rintro e w ⟨rfl, Z, hZ1, hZ2, hS2⟩; replace hS := hS2; clear hS2; refine ⟨_, rfl, ?_⟩; refine put_move ?_; go_step) | ((with_reducible apply gt9 _ (.move _)); (first | go_big_want | go_step); go_step) | ((with_reducible apply gt9 _ (.pick _ _ _)); (refine wplPickT rfl (by kernel_rfl) ?_; go_step)) | ((with_reducible apply gt9 (some 208) (.binOp .lss _ _ _ _)); (refine wplD _ (V.lss rfl rfl) (by kernel_rfl) (fun hB => ?_) (fun hB => ?_) <;> (try (have hF : False := (by omega); cases hF)) <;> go_step)) | ((with_reducible apply gt9 (some 212) (.binOp .lss _ _ _ _)); (refine wvv9 (V.lss rfl rfl) ?_; go_step)) | ((fail_if_success with_reducible apply ga9); go_step))
                      go_end0
                      obtain ⟨j1, j2⟩ := sym_join (show a ≤ mid by omega) (show mid ≤ b by omega) (show b ≤ Q.length by rw [hQn]; exact hb) HX.out R2.out hZ2 R1.out hZ1
                      exact ⟨rfl, Z, j1, HQR.out.trans j2, hS⟩
                    · have hZ1 : Asc PkV.w mid b R := by
                        by_cases c1 : mid < en
                        · exact S5.out.sub (Nat.le_refl _) (by omega)
                        · exact S6.out.sub (by omega) (Nat.le_refl _)
                      repeat' (first
                        | go_skip | ((with_reducible apply gt9 _ (.move _)); (first | go_big_want | go_step); go_step) | ((with_reducible apply gt9 _ (.pick _ _ _)); first | (refine wplPickT rfl (by kernel_rfl) ?_; go_step) | (refine wplPickF rfl (by kernel_rfl) ?_; go_step)) | ((with_reducible apply gt9 (some 208) (.binOp .lss _ _ _ _)); (refine wplD _ (V.lss rfl rfl) (by kernel_rfl) (fun hB => ?_) (fun hB => ?_) <;> (try (have hF : False := (by omega); cases hF)) <;> go_step)) | ((with_reducible apply gt9 (some 212) (.binOp .lss _ _ _ _)); (refine wvv9 (V.lss rfl rfl) ?_; go_step)) | ((fail_if_success with_reducible apply ga9); go_step))
                      all_goals
                        go_end0
                        obtain ⟨j1, j2⟩ := sym_join (show a ≤ mid by omega) (show mid ≤ b by omega) (show b ≤ Q.length by rw [hQn]; exact hb) HX.out R2.out (Rg.refl _ _ _) R1.out hZ1
                        exact ⟨rfl, R, j1, HQR.out.trans j2, hS⟩
end Go.Proofs.YtehbjhocgnfpmaaDoor

/- The walk of slices.SortStableFunc. -/
namespace Go.Proofs.YtehbjhocgnfpmaaDoor
set_option maxRecDepth 100000
open Go.RowKit
set_option linter.unusedVariables false
theorem asc_void {lo hi : Nat} {P : List PkV} (h : hi ≤ lo) : Asc PkV.w lo hi P := fun i j h1 h2 h3 => by omega
theorem asc_eq {lo hi lo' hi' : Nat} {P : List PkV} (h : Asc PkV.w lo hi P) (h1 : lo = lo') (h2 : hi' ≤ hi) : Asc PkV.w lo' hi' P := by subst h1; exact h.sub (Nat.le_refl _) h2
/-- Blocks of s are sorted, each by itself. -/
def Blks (s n : Nat) (P : List PkV) : Prop := ∀ k, Asc PkV.w (k * s) (min (k * s + s) n) P
set_option maxRecDepth 100000 in
set_option maxHeartbeats 8000000 in
theorem stable_any (W w0 : World) (rs rs' : List Res) (g n c : Nat) (P : List PkV) (hS : St W w0 rs) (hp : Pull (pks g n c P) rs rs') (hn : n ≤ 100000) :
    Calls Tryd.prog 84 #[.slice (some ⟨g, 0, none⟩) n c, .int .i64 n, byW] w0 fun e w => e = .returned (.tuple #[]) ∧ ∃ Q, Asc PkV.w 0 n Q ∧ Rg 0 n P Q ∧ St W w (pks g n c Q :: rs') := by
  replace hS := hS.pull hp
  have hPl := own_recs hS Pull.head pkE_len (by decide)
  clear hp
  go_enter Tryd.func84, Tryd.ntmps84
  repeat' (first
    | ((with_reducible apply gt9 _ (.move _)); (first | go_big_want | go_step); go_step) | ((with_reducible apply gt9 _ (.assign _)); (first | go_big_want | go_step); go_step) | ((fail_if_success with_reducible apply ga9); go_step))
  go_loopg [7, 8] n (fun gk av bv w => ∃ (k a : Nat) (Q : List PkV), gk + k = n ∧ a = k * 20 ∧ a ≤ n ∧ av = .int .i64 a ∧ bv = .int .i64 (a + 20 : Nat) ∧ (∀ j, j < k → Asc PkV.w (j * 20) (j * 20 + 20) Q) ∧ Rg 0 n P Q ∧ St W w (pks g n c Q :: rs'))
  case atStart => exact ⟨0, 0, P, by omega, rfl, by omega, rfl, rfl, fun j h => by omega, Rg.refl _ _ _, hS⟩
  case round =>
    clear hS
    obtain ⟨k, a, Q, hk, ha, han, rfl, rfl, hA, hR, hS⟩ := hrel
    have HA := hid hA
    have HR := hid hR
    have hQl := hR.len
    clear hA hR
    by_cases hlt : a + 20 ≤ n
    · have HC := hid (fun (w : World) (hS : St W w (pks g n c Q :: rs')) => insSort_any W w (pks g n c Q :: rs') rs' g n c a (a + 20) Q hS Pull.head (by omega) hlt (by omega))
      repeat' (first
        | ((with_reducible apply gt9 (some 22) (.binOp .add _ _ _ _)); (refine wplV (.int _ (((a + 20 + 20 : Nat) : Int))) (V.as (V.addI rfl rfl (by omega)) (by omega)) rfl ?_; go_step)) | ((with_reducible apply gt9 _ (.call ⟨.value (.func 100), _, _⟩)); refine wpl_call (f := 100) Tryd.call100 (by kernel_rfl) ?_; refine ⟨_, (HC.out _ hS), ?_⟩; rintro e w ⟨rfl, Z, hZ1, hZ2, hS2⟩; replace hS := hS2; clear hS2; refine ⟨_, rfl, ?_⟩; refine put_move ?_; go_step) | ((with_reducible apply gt9 _ (.move _)); (first | go_big_want | go_step); go_step) | ((with_reducible apply gt9 _ (.assign _)); (first | go_big_want | go_step); go_step) | ((with_reducible apply gt9 (some 13) (.binOp .leq _ _ _ _)); (refine wvv9 (V.leq rfl rfl) ?_; go_step)) | ((fail_if_success with_reducible apply ga9); go_step))
      go_roundg (gk - 1)
      case measure => omega
      case rel =>
        refine ⟨k + 1, a + 20, Z, by omega, by omega, by omega, rfl, by go_num, fun j hj => ?_, HR.out.trans (hZ2.wide (by omega) (by omega) (by omega) (by omega)), hS⟩
        by_cases hjk : j = k
        · subst hjk; rw [← ha]; exact hZ1
        · exact (HA.out j (by omega)).same fun x k1 k2 => hZ2.out x (by omega)
    · have HC := hid (fun (w : World) (hS : St W w (pks g n c Q :: rs')) => insSort_any W w (pks g n c Q :: rs') rs' g n c a n Q hS Pull.head (by omega) (by omega) (by omega))
      repeat' (first
        | ((with_reducible apply gt9 _ (.move _)); (first | go_big_want | go_step); go_step) | ((with_reducible apply gt9 (some 13) (.binOp .leq _ _ _ _)); (refine wvv9 (V.leq rfl rfl) ?_; go_step)) | ((fail_if_success with_reducible apply ga9); go_step))
      repeat' (first
        | ((with_reducible apply gt9 _ (.call ⟨.value (.func 100), _, _⟩)); refine wpl_call (f := 100) Tryd.call100 (by kernel_rfl) ?_; refine ⟨_, (HC.out _ hS), ?_⟩; rintro e w ⟨rfl, Z, hZ1, hZ2, hS2⟩; replace hS := hS2; clear hS2; refine ⟨_, rfl, ?_⟩; refine put_move ?_; go_step) | ((fail_if_success with_reducible apply ga9); go_step))
      have hB : Blks 20 n Z := fun j => by
        by_cases h1 : j < k
        · exact ((HA.out j h1).same fun x k1 k2 => hZ2.out x (by omega)).sub (Nat.le_refl _) (Nat.min_le_left _ _)
        · by_cases h2 : j = k
          · subst h2; rw [← ha]; exact hZ1.sub (Nat.le_refl _) (Nat.min_le_right _ _)
          · exact asc_void (by omega)
      have hRZ : Rg 0 n P Z := HR.out.trans (hZ2.wide (by omega) (by omega) (by omega) (by omega))
      have HB := hid hB
      have HRZ := hid hRZ
      clear hB hRZ HR HA HC hZ1 hZ2
      go_loopg [6] (n - 20) (fun gk sv w => ∃ (s : Nat) (Q : List PkV), gk + s = max n s ∧ 1 ≤ s ∧ s ≤ 2 * n + 20 ∧ sv = .int .i64 s ∧ Blks s n Q ∧ Rg 0 n P Q ∧ St W w (pks g n c Q :: rs'))
      case atStart => exact ⟨20, Z, by omega, by omega, by omega, rfl, HB.out, HRZ.out, hS⟩
      case round =>
        clear hS HB HRZ
        obtain ⟨s, Q, hk, hs1, hs2, rfl, hB, hR, hS⟩ := hrel
        have HB := hid hB
        have HR := hid hR
        have hQl := hR.len
        clear hB hR
        by_cases hlt2 : s < n
        · obtain ⟨gk1, hgk1⟩ : ∃ x, x = gk := ⟨_, rfl⟩
          subst hgk1
          obtain ⟨t, ht⟩ : ∃ t, t = 2 * s := ⟨_, rfl⟩
          repeat' (first
            | ((with_reducible apply gt9 (some 32) (.binOp .mul _ _ _ _)); (refine wplV (.int _ (((t : Nat) : Int))) (V.as (V.mulI rfl rfl (by omega)) (by omega)) rfl ?_; go_step)) | ((with_reducible apply gt9 _ (.move _)); (first | go_big_want | go_step); go_step) | ((with_reducible apply gt9 _ (.assign _)); (first | go_big_want | go_step); go_step) | ((with_reducible apply gt9 (some 30) (.binOp .lss _ _ _ _)); (refine wvv9 (V.lss rfl rfl) ?_; go_step)) | ((fail_if_success with_reducible apply ga9); go_step))
          go_loopg [7, 8] n (fun gk av bv w => ∃ (k a : Nat) (Q : List PkV), gk + k = n ∧ a = k * t ∧ a ≤ n ∧ av = .int .i64 a ∧ bv = .int .i64 (a + t : Nat) ∧ (∀ j, j < k → Asc PkV.w (j * t) (j * t + t) Q) ∧ (∀ j, 2 * k ≤ j → Asc PkV.w (j * s) (min (j * s + s) n) Q) ∧ Rg 0 n P Q ∧ St W w (pks g n c Q :: rs'))
          case atStart => exact ⟨0, 0, Q, by omega, by omega, by omega, rfl, by rw [Nat.zero_add], fun j h => by omega, fun j _ => HB.out j, HR.out, hS⟩
          case round =>
            clear hS HB HR
            obtain ⟨k, a, Q, hk3, ha, han, rfl, rfl, hA, hA2, hR, hS⟩ := hrel
            have hQl := hR.len
            have m1 : 2 * k * s = a := by rw [ha, ht, Nat.mul_comm 2 k, Nat.mul_assoc]
            have m2 : (2 * k + 1) * s = a + s := by rw [Nat.add_mul, m1, Nat.one_mul]
            have m3 : (k + 1) * t = a + t := by rw [Nat.add_mul, Nat.one_mul, ← ha]
            have m4 : ∀ j, 2 * k + 2 ≤ j → a + t ≤ j * s := fun j hj => by
              have := Nat.mul_le_mul_right s hj
              rw [show (2 * k + 2) * s = a + t by rw [Nat.add_mul, m1, ht]] at this
              exact this
            have m5 : ∀ j, j < k → j * t + t ≤ a := fun j hj => by
              have := Nat.mul_le_mul_right t hj
              rw [Nat.succ_mul, ← ha] at this
              exact this
            have m6 : ∀ j, k < j → a + t ≤ j * t := fun j hj => by
              have := Nat.mul_le_mul_right t hj
              rw [show (k.succ) * t = a + t from m3] at this
              exact this
            have hkt : k ≤ k * t := Nat.le_mul_of_pos_right k (by omega)
            rw [← ha] at hkt
            have a1 := hA2 (2 * k) (Nat.le_refl _)
            have a2 := hA2 (2 * k + 1) (by omega)
            rw [m1] at a1
            rw [m2] at a2
            have HA := hid hA
            have HA2 := hid hA2
            have HR := hid hR
            have M3 := hid m3
            have M4 := hid m4
            have M5 := hid m5
            have M6 := hid m6
            have Ha := hid ha
            clear hA hA2 hR m1 m2 m3 m4 m5 m6 ha
            by_cases hlt : a + t ≤ n
            · have HC := hid (fun (w : World) (hS : St W w (pks g n c Q :: rs')) => symMerge_any n W w (pks g n c Q :: rs') rs' g n c a (a + s) (a + t) Q (by omega) hS Pull.head (by omega) (by omega) hlt (by omega) (asc_eq a1 rfl (by omega)) (asc_eq a2 rfl (by omega)))
              clear a1 a2
              repeat' (first
                | ((with_reducible apply gt9 (some 40) (.binOp .add _ _ _ _)); (refine wplV (.int _ (((a + s : Nat) : Int))) (V.as (V.addI rfl rfl (by omega)) (by omega)) rfl ?_; go_step)) | ((with_reducible apply gt9 (some 47) (.binOp .mul _ _ _ _)); (refine wplV (.int _ (((t : Nat) : Int))) (V.as (V.mulI rfl rfl (by omega)) (by omega)) rfl ?_; go_step)) | ((with_reducible apply gt9 (some 48) (.binOp .add _ _ _ _)); (refine wplV (.int _ (((a + t + t : Nat) : Int))) (V.as (V.addI rfl rfl (by omega)) (by omega)) rfl ?_; go_step)) | ((with_reducible apply gt9 _ (.call ⟨.value (.func 101), _, _⟩)); refine wpl_call (f := 101) Tryd.call101 (by kernel_rfl) ?_; refine ⟨_, (HC.out _ hS), ?_⟩; rintro e w ⟨rfl, Z, hZ1, hZ2, hS2⟩; replace hS := hS2; clear hS2; refine ⟨_, rfl, ?_⟩; refine put_move ?_; go_step) | ((with_reducible apply gt9 _ (.move _)); (first | go_big_want | go_step); go_step) | ((with_reducible apply gt9 _ (.assign _)); (first | go_big_want | go_step); go_step) | ((with_reducible apply gt9 (some 35) (.binOp .leq _ _ _ _)); (refine wvv9 (V.leq rfl rfl) ?_; go_step)) | ((fail_if_success with_reducible apply ga9); go_step))
              go_roundg (gk - 1)
              case measure => omega
              case rel =>
                refine ⟨k + 1, a + t, Z, by omega, M3.out.symm, by omega, rfl, by go_num, fun j hj => ?_, fun j hj => ?_, HR.out.trans (hZ2.wide (by omega) (by omega) (by omega) (by omega)), hS⟩
                · by_cases hjk : j = k
                  · subst hjk; rw [← Ha.out]; exact hZ1
                  · have := M5.out j (by omega)
                    exact (HA.out j (by omega)).same fun x k1 k2 => hZ2.out x (by omega)
                · have := M4.out j (by omega)
                  exact (HA2.out j (by omega)).same fun x k1 k2 => hZ2.out x (by omega)
            · have HF : Hid (∀ Z, Asc PkV.w a n Z → Rg a n Q Z → Blks t n Z ∧ Rg 0 n P Z) := fun Z hZ1 hZ2 => ⟨fun j => by
                by_cases h1 : j < k
                · have := M5.out j h1
                  exact ((HA.out j h1).same fun x k1 k2 => hZ2.out x (by omega)).sub (Nat.le_refl _) (Nat.min_le_left _ _)
                · by_cases h2 : j = k
                  · subst h2; rw [← Ha.out]; exact hZ1.sub (Nat.le_refl _) (Nat.min_le_right _ _)
                  · have := M6.out j (by omega)
                    exact asc_void (by omega), HR.out.trans (hZ2.wide (by omega) (by omega) (by omega) (by omega))⟩
              by_cases hm : a + s < n
              · have HC := hid (fun (w : World) (hS : St W w (pks g n c Q :: rs')) => symMerge_any n W w (pks g n c Q :: rs') rs' g n c a (a + s) n Q (by omega) hS Pull.head (by omega) hm (by omega) (by omega) (asc_eq a1 rfl (by omega)) (asc_eq a2 rfl (by omega)))
                clear a1 a2
                repeat' (first
                  | ((with_reducible apply gt9 _ (.move _)); (first | go_big_want | go_step); go_step) | ((with_reducible apply gt9 (some 35) (.binOp .leq _ _ _ _)); (refine wvv9 (V.leq rfl rfl) ?_; go_step)) | ((fail_if_success with_reducible apply ga9); go_step))
                repeat' (first
                  | ((with_reducible apply gt9 (some 51) (.binOp .add _ _ _ _)); (refine wplV (.int _ (((a + s : Nat) : Int))) (V.as (V.addI rfl rfl (by omega)) (by omega)) rfl ?_; go_step)) | ((with_reducible apply gt9 (some 62) (.binOp .mul _ _ _ _)); (refine wplV (.int _ (((t : Nat) : Int))) (V.as (V.mulI rfl rfl (by omega)) (by omega)) rfl ?_; go_step)) | ((with_reducible apply gt9 _ (.call ⟨.value (.func 101), _, _⟩)); refine wpl_call (f := 101) Tryd.call101 (by kernel_rfl) ?_; refine ⟨_, (HC.out _ hS), ?_⟩; rintro e w ⟨rfl, Z, hZ1, hZ2, hS2⟩; replace hS := hS2; clear hS2; refine ⟨_, rfl, ?_⟩; refine put_move ?_; go_step) | ((with_reducible apply gt9 _ (.move _)); (first | go_big_want | go_step); go_step) | ((with_reducible apply gt9 _ (.assign _)); (first | go_big_want | go_step); go_step) | ((with_reducible apply gt9 (some 54) (.binOp .lss _ _ _ _)); (refine wvv9 (V.lss rfl rfl) ?_; go_step)) | ((fail_if_success with_reducible apply ga9); go_step))
                obtain ⟨b1, b2⟩ := HF.out Z hZ1 hZ2
                go_roundg (n - t)
                case measure => omega
                case rel => exact ⟨t, Z, by omega, by omega, by omega, by go_num, b1, b2, hS⟩
              · obtain ⟨b1, b2⟩ := HF.out Q (asc_eq a1 rfl (by omega)) (Rg.refl _ _ _)
                have B1 := hid b1
                have B2 := hid b2
                clear a1 a2 b1 b2
                repeat' (first
                  | ((with_reducible apply gt9 _ (.move _)); (first | go_big_want | go_step); go_step) | ((with_reducible apply gt9 (some 35) (.binOp .leq _ _ _ _)); (refine wvv9 (V.leq rfl rfl) ?_; go_step)) | ((fail_if_success with_reducible apply ga9); go_step))
                repeat' (first
                  | ((with_reducible apply gt9 (some 51) (.binOp .add _ _ _ _)); (refine wplV (.int _ (((a + s : Nat) : Int))) (V.as (V.addI rfl rfl (by omega)) (by omega)) rfl ?_; go_step)) | ((with_reducible apply gt9 _ (.move _)); (first | go_big_want | go_step); go_step) | ((with_reducible apply gt9 _ (.assign _)); (first | go_big_want | go_step); go_step) | ((with_reducible apply gt9 (some 54) (.binOp .lss _ _ _ _)); (refine wvv9 (V.lss rfl rfl) ?_; go_step)) | ((fail_if_success with_reducible apply ga9); go_step))
                repeat' (first
                  | ((with_reducible apply gt9 (some 62) (.binOp .mul _ _ _ _)); (refine wplV (.int _ (((t : Nat) : Int))) (V.as (V.mulI rfl rfl (by omega)) (by omega)) rfl ?_; go_step)) | ((with_reducible apply gt9 _ (.assign _)); (first | go_big_want | go_step); go_step) | ((fail_if_success with_reducible apply ga9); go_step))
                go_roundg (n - t)
                case measure => omega
                case rel => exact ⟨t, Q, by omega, by omega, by omega, by go_num, B1.out, B2.out, hS⟩
        · skip
          repeat' (first
            | ((with_reducible apply gt9 _ (.move _)); (first | go_big_want | go_step); go_step) | ((with_reducible apply gt9 (some 30) (.binOp .lss _ _ _ _)); (refine wvv9 (V.lss rfl rfl) ?_; go_step)) | ((fail_if_success with_reducible apply ga9); go_step))
          go_end0
          have := HB.out 0
          rw [Nat.zero_mul, Nat.zero_add] at this
          exact ⟨rfl, Q, this.sub (Nat.le_refl _) (by omega), HR.out, hS⟩
theorem sortStable_any (W w0 : World) (rs rs' : List Res) (g n c : Nat) (P : List PkV) (hS : St W w0 rs) (hp : Pull (pks g n c P) rs rs') (hn : n ≤ 100000) :
    Calls Tryd.prog 66 #[.slice (some ⟨g, 0, none⟩) n c, byW] w0 fun e w => e = .returned (.tuple #[]) ∧ ∃ Q, Q.Perm P ∧ Q.Pairwise (fun a b => a.w ≤ b.w) ∧ St W w (pks g n c Q :: rs') := by
  replace hS := hS.pull hp
  have hPl := own_recs hS Pull.head pkE_len (by decide)
  have HC := hid (fun (w : World) (hS : St W w (pks g n c P :: rs')) => stable_any W w (pks g n c P :: rs') rs' g n c P hS Pull.head hn)
  clear hp
  go_enter Tryd.func66, Tryd.ntmps66
  repeat' (first
    | ((with_reducible apply gt9 _ (.call ⟨.value (.func 84), _, _⟩)); refine wpl_call (f := 84) Tryd.call84 (by kernel_rfl) ?_; refine ⟨_, (HC.out _ hS), ?_⟩; rintro e w ⟨rfl, Z, hZ1, hZ2, hS2⟩; replace hS := hS2; clear hS2; refine ⟨_, rfl, ?_⟩; refine put_move ?_; go_step) | ((with_reducible apply gt9 _ (.move _)); (first | go_big_want | go_step); go_step) | ((with_reducible apply gt9 _ (.call ⟨.builtin .len, _, _⟩)); (refine wvv9 (V.len Tryd.underlying134 rfl) ?_; go_step)) | ((fail_if_success with_reducible apply ga9); go_step))
  go_end0
  rw [← hPl] at hZ1 hZ2
  have hl := hZ2.len
  exact ⟨rfl, Z, hZ2.all, Asc.pair (hl.symm ▸ hZ1), hS⟩
end Go.Proofs.YtehbjhocgnfpmaaDoor

/- slices.Grow of nil, slices.Concat of two rows of ints, slices.Clone of packs. -/
namespace Go.Proofs.YtehbjhocgnfpmaaDoor
set_option maxRecDepth 100000
open Go.RowKit
set_option linter.unusedVariables false
theorem cutAt_zero (g c s : Nat) : cutAt (some ⟨g, 0, none⟩) c 0 s = some ⟨g, 0, none⟩ := by
  unfold cutAt
  split
  · rfl
  · rw [Option.map_some, Addr.add_mid, Nat.zero_mul]
section
variable {P : Program} {W w : World} {rs rs' : List Res} {Q : Exit → Act → World → Prop} {K : Act → World → Prop} {o : Oper} {a : Act}
/-- append of so many noughts to nil, of which none is kept: room alone. -/
theorem wp_appendZ (hS : St W w rs) (s x : Operand) (t tn : TypeId) (ho : o.op = .call { callee := .builtin .append, args := #[s, x], argTypes := #[t, tn] }) (e : TypeId) (b : Nat) (k : IntKind) (el : ElemZ P t e k 1 b) (kn : IntKind) (htn : P.underlying tn = some (.int kn))
    (hs : a.eval s = .slice none 0 0) (k2 : IntKind) (n : Nat) (hx : a.eval x = .int k2 n) (h0 : 0 < n) (h63 : n ≤ maxLen) (hb : n * b ≤ 281474976710656)
    (h : ∀ g c' w', n ≤ c' → c' ≤ maxLen → St W w' (own e 1 (some ⟨g, 0, none⟩) 0 c' [] :: rs) → K (a.put o.dst (.slice (some ⟨g, 0, none⟩) n c')) w') : o.wp P a w K Q := by
  obtain ⟨ht, ⟨i, z, hi, hz, hsz, hby, hzc⟩, _⟩ := el
  have hr := Lib.run_append_nil_zeros (P := P) w t tn o.type e i z k2 kn ht htn hi hz n h0 (by omega) (by unfold maxLen at h63; omega) (by rw [hby]; exact hb)
  have hg1 := grownCap_ge w n 0 e
  have hg2 := grownCap_le_maxLen w n 0 e h63
  obtain ⟨G, hG⟩ : ∃ G, grownCap w n 0 e = G := ⟨_, rfl⟩
  rw [hG] at hr hg1 hg2
  refine Lib.wp_append_run w s x t tn ho _ _ hs hx _ _ hr (h _ _ _ hg1 hg2 ?_)
  have hS2 := hS.drew
  obtain ⟨h1, f, h2, h3, h4⟩ := hS2
  refine ⟨h1.alloc _, w.heap.size :: f, List.nodup_cons.2 ⟨fun hm => by have := h4.lt _ hm; exact absurd this (Nat.lt_irrefl _), h2⟩, fun b hb => ?_, [w.heap.size], f, rfl, ⟨rfl, rfl, .inr ⟨w.heap.size, G, _, rfl, Nat.zero_le _, heap_alloc_new w.drew _, Nat.zero_le _, hg2, ?_, by simp⟩⟩, h4.loc fun b hb => ?_⟩
  · rcases List.mem_cons.1 hb with h | h
    · rw [h]; exact h1.sz
    · exact h3 b h
  · rw [Array.size_append, size_zeroCells, size_zeroCells, hzc, Array.size_replicate]; omega
  · exact heap_alloc_old w.drew _ (h4.lt b hb)
end
theorem V.cap {P : Program} {a : Act} {x : Operand} {t ty : TypeId} {ad : Option Addr} {n c : Nat} {e : TypeId} (ht : P.underlying t = some (.slice e)) (hx : a.eval x = .slice ad n c) : Val P (.call { callee := .builtin .cap, args := #[x], argTypes := #[t] }) ty a (.int .i64 c) := fun d pos af g w => by
  have e : P.elem t = e := by simp [Program.elem, ht]
  have e2 := run_cap_slice (P := P) w t ty ad n c (by rw [e]; exact ht)
  simp only [execOp, resolve, invoke, builtin, Sem.run_bind, Sem.run_pure, Result.andThen_ok, List.map_toArray, List.map_cons, List.map_nil, hx, e2]
  rfl
theorem grow_any (w0 : World) (n : Nat) (hn : n ≤ 1000000) : Calls Tryd.prog 86 #[.slice none 0 0, .int .i64 n] w0 fun e w => ∃ (ad : Option Addr) (c : Nat), e = .returned (.slice ad 0 c) ∧ St w0 w [own 3 1 ad 0 c []] := by
  have hS := St.start w0
  go_enter Tryd.func86, Tryd.ntmps86
  by_cases h0 : n = 0
  · subst h0
    repeat' (first
      | ((with_reducible apply gt9 _ (.move _)); (first | go_big_want | go_step); go_step) | ((with_reducible apply gt9 _ (.assign _)); (first | go_big_want | go_step); go_step) | ((with_reducible apply gt9 (some 6) (.binOp .lss _ _ _ _)); (refine wvv9 (V.lss rfl rfl) ?_; go_step)) | ((fail_if_success with_reducible apply ga9); go_step))
    repeat' (first
      | ((with_reducible apply gt9 (some 13) (.binOp .sub _ _ _ _)); (refine wplV (.int _ (0)) (V.as (V.subI rfl rfl (by omega)) (by omega)) rfl ?_; go_step)) | ((with_reducible apply gt9 (some 14) (.binOp .sub _ _ _ _)); (refine wplV (.int _ (0)) (V.as (V.subI rfl rfl (by omega)) (by omega)) rfl ?_; go_step)) | ((with_reducible apply gt9 _ (.move _)); (first | go_big_want | go_step); go_step) | ((with_reducible apply gt9 _ (.assign _)); (first | go_big_want | go_step); go_step) | ((with_reducible apply gt9 (some 10) (.call ⟨.builtin .cap, _, _⟩)); (refine wvv9 (V.cap Tryd.underlying24 rfl) ?_; go_step)) | ((with_reducible apply gt9 (some 12) (.call ⟨.builtin .len, _, _⟩)); (refine wvv9 (V.len Tryd.underlying24 rfl) ?_; go_step)) | ((with_reducible apply gt9 (some 16) (.binOp .gtr _ _ _ _)); (refine wvv9 (V.gtr rfl rfl) ?_; go_step)) | ((fail_if_success with_reducible apply ga9); go_step))
    repeat' (first
      | ((fail_if_success with_reducible apply ga9); go_step))
    go_ret
    exact ⟨none, 0, rfl, hS.nil 3 1⟩
  · skip
    repeat' (first
      | ((with_reducible apply gt9 _ (.move _)); (first | go_big_want | go_step); go_step) | ((with_reducible apply gt9 _ (.assign _)); (first | go_big_want | go_step); go_step) | ((with_reducible apply gt9 (some 6) (.binOp .lss _ _ _ _)); (refine wvv9 (V.lss rfl rfl) ?_; go_step)) | ((fail_if_success with_reducible apply ga9); go_step))
    repeat' (first
      | ((with_reducible apply gt9 (some 13) (.binOp .sub _ _ _ _)); (refine wplV (.int _ (0)) (V.as (V.subI rfl rfl (by omega)) (by omega)) rfl ?_; go_step)) | ((with_reducible apply gt9 (some 14) (.binOp .sub _ _ _ _)); (refine wplV (.int _ (((n : Nat) : Int))) (V.as (V.subI rfl rfl (by omega)) (by omega)) rfl ?_; go_step)) | ((with_reducible apply gt9 _ (.move _)); (first | go_big_want | go_step); go_step) | ((with_reducible apply gt9 _ (.assign _)); (first | go_big_want | go_step); go_step) | ((with_reducible apply gt9 (some 10) (.call ⟨.builtin .cap, _, _⟩)); (refine wvv9 (V.cap Tryd.underlying24 rfl) ?_; go_step)) | ((with_reducible apply gt9 (some 12) (.call ⟨.builtin .len, _, _⟩)); (refine wvv9 (V.len Tryd.underlying24 rfl) ?_; go_step)) | ((with_reducible apply gt9 (some 16) (.binOp .gtr _ _ _ _)); (refine wvv9 (V.gtr rfl rfl) ?_; go_step)) | ((fail_if_success with_reducible apply ga9); go_step))
    repeat' (first
      | ((with_reducible apply gt9 (some 20) _); refine wplV (.slice none 0 0) (V.slice Tryd.underlying24 isz3 rfl .none (.some rfl (show IsN ((0 : Nat) : Int) 0 from rfl)) (Nat.le_refl _) (Nat.le_refl _)) (by kernel_rfl) ?_; go_step) | ((with_reducible apply gt9 (some 22) _); refine wpl (by kernel_rfl) ?_; refine wp_appendZ (o := ⟨some 22, _, _, _, _, _⟩) hS _ _ 24 3 rfl 3 8 .i64 elz24 .i64 Tryd.underlying3 rfl .i64 n rfl (by omega) (by unfold maxLen; omega) (by omega) ?_; clear hS; intro g22 c22 w hc1 hc2 hS; refine put_move ?_; go_step) | ((with_reducible apply gt9 _ (.move _)); (first | go_big_want | go_step); go_step) | ((with_reducible apply gt9 _ (.assign _)); (first | go_big_want | go_step); go_step) | ((with_reducible apply gt9 (some 19) (.call ⟨.builtin .cap, _, _⟩)); (refine wvv9 (V.cap Tryd.underlying24 rfl) ?_; go_step)) | ((with_reducible apply gt9 (some 24) (.call ⟨.builtin .len, _, _⟩)); (refine wvv9 (V.len Tryd.underlying24 rfl) ?_; go_step)) | ((with_reducible apply gt9 (some 25) (.slice 24 _ _ _ _)); (refine wvv9 (V.slice Tryd.underlying24 isz3 rfl (by (first | exact Lo.none | exact Lo.some rfl isn9)) (by (first | exact Up.none | exact Up.some rfl isn9)) (by omega) (by omega)) ?_; go_step)) | ((fail_if_success with_reducible apply ga9); go_step))
    go_ret
    refine ⟨some ⟨g22, 0, none⟩, c22, ?_, hS⟩
    show Ending.returned (.slice (cutAt (some ⟨g22, 0, none⟩) c22 0 1) (0 - 0) (c22 - 0)) = _
    rw [cutAt_zero]
    rfl
theorem Pull.mem2 : ∀ (ss rs : List Res) (r : Res), ∃ ss', Pull r (ss ++ r :: rs) ss'
  | [], rs, r => ⟨rs, .head⟩
  | x :: ss, rs, r => by obtain ⟨s, hs⟩ := Pull.mem2 ss rs r; exact ⟨x :: s, .tail hs⟩
theorem pkE_all (P : List PkV) : ∀ u ∈ P.flatMap pkE, u.oneCell' = true := fun u hu => by
  obtain ⟨p, _, h⟩ := List.mem_flatMap.1 hu
  simp only [pkE, List.mem_cons, List.mem_nil_iff, or_false] at h
  rcases h with rfl | rfl <;> rfl
theorem V.eqlNilS {P : Program} {a : Act} {x y : Operand} {t ty u e : TypeId} {ad : Option Addr} {n c : Nat} (ht : P.underlying t = some (.slice e)) (hg : P.eqGuardType P.depth t = false) (hx : a.eval x = .slice ad n c) (hy : a.eval y = .slice none 0 0) : Val P (.binOp .eql t x y u) ty a (.bool ad.isNone) := fun d pos af g w => by
  have e1 : (eqGuard .eql t x y (.slice ad n c) (.slice none 0 0)).run P w = .ok () w := by
    unfold eqGuard
    simp
  have e2 : (binOp .eql t (.slice ad n c) (.slice none 0 0)).run P w = .ok (.bool ad.isNone) w := by
    have : binOp .eql t (.slice ad n c) (.slice none 0 0) = (do pure (.bool (← Op.equal t (.slice ad n c) (.slice none 0 0)))) := rfl
    rw [this]
    simp only [Sem.run_bind, run_equal_slice_nil w t e ad n c ht, Result.andThen_ok, Sem.run_pure]
  simp only [execOp, hx, hy, Sem.run_bind, e1, Result.andThen_ok, e2, Sem.run_pure]
section
variable {P : Program} {W w : World} {rs rs' : List Res} {Q : Exit → Act → World → Prop} {K : Act → World → Prop} {o : Oper} {a : Act}
/-- An empty slice that is not nil. -/
theorem wp_buildSlice0 (hS : St W w rs) (t : TypeId) (ho : o.op = .buildSlice t 0 #[]) (e : TypeId) (s b : Nat) (el : ElemT P t e s b)
    (h : ∀ g w', St W w' (own e s (some ⟨g, 0, none⟩) 0 0 [] :: rs) → K (a.put o.dst (.slice (some ⟨g, 0, none⟩) 0 0)) w') : o.wp P a w K Q := by
  obtain ⟨ht, ⟨i, z, hi, hz, hsz, hb, hzs⟩, hp⟩ := el
  have hr : (Instr.buildSlice t 0 #[]).run P w = .ok (.slice (some ⟨w.heap.size, 0, none⟩) 0 0) (w.alloc (.cells #[] e)) := by
    simp [Instr.buildSlice, run_underlying ht, sizeOf, typeInfo, hi, Instr.fill, newRow]
    rw [Array.eq_empty_of_size_eq_zero (xs := Array.map (fun x => default) (Array.range 0)) (by simp)]
  have hst := hS.allocOwn e s 0 [] (by simp) (Nat.zero_le _)
  unfold Oper.wp execOp
  simp only [ho, Sem.run_bind, Array.map_empty, hr, Result.andThen_ok, Sem.run_pure]
  exact h _ _ hst
end
theorem clone_any (W w0 : World) (rs rs' : List Res) (g n c : Nat) (P : List PkV) (hS : St W w0 rs) (hp : Pull (pks g n c P) rs rs') (hn : n ≤ 100000) (hn0 : 0 < n) :
    Calls Tryd.prog 68 #[.slice (some ⟨g, 0, none⟩) n c] w0 fun e w => ∃ (g' c' : Nat), e = .returned (.slice (some ⟨g', 0, none⟩) n c') ∧ St W w (pks g' n c' P :: pks g n c P :: rs') := by
  replace hS := hS.pull hp
  go_enter Tryd.func68, Tryd.ntmps68
  have he := pkE_len
  have hsl : ∀ w rs2, St W w (rs2 ++ pks g n c P :: rs') → Sl w 2 (.slice (some ⟨g, 0, none⟩) n c) n (P.flatMap pkE) := fun w rs2 h => by
    obtain ⟨ss', hp⟩ := Pull.mem2 rs2 rs' (pks g n c P)
    exact h.sl hp
  repeat' (first
    | ((with_reducible apply gt9 (some 4) _); refine wplV (.bool false) (V.eqlNilS (ad := some ⟨g, 0, none⟩) (n := n) (c := c) Tryd.underlying134 (by kernel_rfl) rfl rfl) (by kernel_rfl) ?_; go_step) | ((with_reducible apply gt9 _ (.move _)); (first | go_big_want | go_step); go_step) | ((with_reducible apply gt9 _ (.assign _)); (first | go_big_want | go_step); go_step) | ((fail_if_success with_reducible apply ga9); go_step))
  repeat' (first
    | ((with_reducible apply gt9 (some 5) _); refine wpl (by kernel_rfl) ?_; refine wp_buildSlice0 (o := ⟨some 5, _, _, _, _, _⟩) hS 134 rfl 133 2 32 el134 ?_; clear hS; intro g5 w hS; refine put_move ?_; go_step) | ((with_reducible apply gt9 (some 7) _); refine wpl (by kernel_rfl) ?_; refine wp_append (o := ⟨some 7, _, _, _, _, _⟩) hS _ _ 134 rfl 133 2 32 el134 _ _ _ _ rfl .head _ rfl n _ (hsl _ [_] hS) (pkE_all P) (by unfold maxLen; omega) (by omega) ?_; clear hS; intro ad7 c7 w hS; refine put_move ?_; go_step) | ((with_reducible apply gt9 _ (.move _)); (first | go_big_want | go_step); go_step) | ((with_reducible apply gt9 _ (.assign _)); (first | go_big_want | go_step); go_step) | ((fail_if_success with_reducible apply ga9); go_step))
  go_ret
  rw [Nat.zero_add, List.nil_append] at hS
  obtain ⟨g', rfl⟩ := own_some hS .head hn0
  refine ⟨g', c7, ?_, hS⟩
  show Ending.returned (.slice (some ⟨g', 0, none⟩) (0 + n) c7) = _
  rw [Nat.zero_add]
/-- A row of ints: where it lies, and what it is. -/
structure Sr where
  ad : Option Addr
  c : Nat
  xs : List Int
def Sr.val (p : Sr) : Value := .slice p.ad p.xs.length p.c
def Sr.res (p : Sr) : Res := own 3 1 p.ad p.xs.length p.c (p.xs.map (Value.int .i64))
def flat (R : List Sr) (k : Nat) : List Int := (R.take k).flatMap (·.xs)
theorem flat_succ (R : List Sr) (k : Nat) (r : Sr) (h : R[k]? = some r) : flat R (k + 1) = flat R k ++ r.xs := by
  obtain ⟨hk, e⟩ := List.getElem?_eq_some_iff.1 h
  unfold flat
  rw [List.take_succ_eq_append_getElem hk, List.flatMap_append, e]
  simp
theorem flat_le (R : List Sr) (k : Nat) : (flat R k).length ≤ (R.flatMap (·.xs)).length := by
  have : R.flatMap (·.xs) = (R.take k).flatMap (·.xs) ++ (R.drop k).flatMap (·.xs) := by rw [← List.flatMap_append, List.take_append_drop]
  rw [this, List.length_append]
  unfold flat
  omega
set_option maxHeartbeats 4000000 in
theorem concat_any (w0 : World) (g m mc : Nat) (R : List Sr) (hv : Sl w0 1 (.slice (some ⟨g, 0, none⟩) m mc) m (R.map Sr.val)) (hr : ∀ r ∈ R, Sl w0 1 r.val r.xs.length (r.xs.map (Value.int .i64))) (hm : m ≤ 1000) (hb : (R.flatMap (·.xs)).length ≤ 1000000) :
    Calls Tryd.prog 69 #[.slice (some ⟨g, 0, none⟩) m mc] w0 fun e w => ∃ (ad : Option Addr) (c : Nat), e = .returned (.slice ad (R.flatMap (·.xs)).length c) ∧ St w0 w [own 3 1 ad (R.flatMap (·.xs)).length c ((R.flatMap (·.xs)).map (Value.int .i64))] := by
  have hS := St.start w0
  have hRl : R.length = m := by have := hv.1; simpa using this
  have HC : Hid (∀ k r, k < m → R[k]? = some r → w0.cell? ⟨g, k, none⟩ = some (.slice r.ad r.xs.length r.c)) := fun k r hk h => by
    obtain ⟨_, a1, c1, e1, _, _, hor⟩ := hv
    cases e1
    rcases hor with h0 | ⟨b0, o0, e2, hc⟩
    · omega
    · cases e2
      have := hc k (by omega)
      rw [Nat.zero_add, List.getElem?_map, h] at this
      exact this
  have HR := hid hr
  have HF : Hid (flat R m = R.flatMap (·.xs)) := by unfold Hid; unfold flat; rw [← hRl, List.take_length]
  have HL : Hid (∀ k, (flat R k).length ≤ 1000000) := fun k => Nat.le_trans (flat_le R k) hb
  rw [← HF.out]
  clear hv hr hb
  go_enter Tryd.func69, Tryd.ntmps69
  repeat' (first
    | ((with_reducible apply gt9 _ (.move _)); (first | go_big_want | go_step); go_step) | ((with_reducible apply gt9 _ (.assign _)); (first | go_big_want | go_step); go_step) | ((with_reducible apply gt9 (some 10) (.call ⟨.builtin .len, _, _⟩)); (refine wvv9 (V.len Tryd.underlying160 rfl) ?_; go_step)) | ((fail_if_success with_reducible apply ga9); go_step))
  go_loopg [3, 11] m (fun gk sv iv w => ∃ (k L : Nat), gk + k = m ∧ L = (flat R k).length ∧ iv = .int .i64 k ∧ sv = .int .i64 L ∧ St w0 w [])
  case atStart => exact ⟨0, 0, by omega, rfl, rfl, rfl, hS⟩
  case round =>
    clear hS
    obtain ⟨k, L, hk, hL, rfl, rfl, hS⟩ := hrel
    have hL0 := HL.out k
    rw [← hL] at hL0
    by_cases hlt : k < m
    · obtain ⟨r, hr⟩ : ∃ r, R[k]? = some r := ⟨_, List.getElem?_eq_getElem (by omega)⟩
      have hc := HC.out k r hlt hr
      have hf := congrArg List.length (flat_succ R k r hr)
      rw [List.length_append, ← hL] at hf
      have hL1 := HL.out (k + 1)
      obtain ⟨N, hN⟩ : ∃ N, r.xs.length = N := ⟨_, rfl⟩
      rw [hN] at hf hc
      have HFk := hid hf
      rw [hf] at hL1
      clear hf hN hr
      repeat' (first
        | ((with_reducible apply gt9 _ (.move _)); (first | go_big_want | go_step); go_step) | ((with_reducible apply gt9 _ (.assign _)); (first | go_big_want | go_step); go_step) | ((with_reducible apply gt9 (some 12) (.binOp .lss _ _ _ _)); (refine wvv9 (V.lss rfl rfl) ?_; go_step)) | ((with_reducible apply gt9 (some 13) (.indexAddr 160 _ _)); (refine wvv9 (V.indexSl Tryd.underlying160 isz24 rfl rfl isn9 (by omega) (Nat.mul_one _) nq9) ?_; go_step)) | ((with_reducible apply gt9 _ (.load 24 _)); (refine wpl (by kernel_rfl) ?_; apply wp_loadW hS 24 _ rfl _ rfl (one_of rfl) _; (case hc => with_reducible assumption); refine put_move ?_; go_step)) | ((fail_if_success with_reducible apply ga9); go_step))
      repeat' (first
        | ((with_reducible apply gt9 (some 18) (.binOp .add _ _ _ _)); (refine wplV (.int _ (((L + N : Nat) : Int))) (V.as (V.addI rfl rfl (by omega)) (by omega)) rfl ?_; go_step)) | ((with_reducible apply gt9 _ (.move _)); (first | go_big_want | go_step); go_step) | ((with_reducible apply gt9 _ (.assign _)); (first | go_big_want | go_step); go_step) | ((with_reducible apply gt9 (some 17) (.call ⟨.builtin .len, _, _⟩)); (refine wvv9 (V.len Tryd.underlying24 rfl) ?_; go_step)) | ((with_reducible apply gt9 (some 20) (.binOp .lss _ _ _ _)); (refine wvv9 (V.lss rfl rfl) ?_; go_step)) | ((fail_if_success with_reducible apply ga9); go_step))
      repeat' (first
        | ((with_reducible apply gt9 (some 22) (.binOp .add _ _ _ _)); (refine wplV (.int _ (((k + 1 : Nat) : Int))) (V.as (V.addI rfl rfl (by omega)) (by omega)) rfl ?_; go_step)) | ((with_reducible apply gt9 _ (.move _)); (first | go_big_want | go_step); go_step) | ((fail_if_success with_reducible apply ga9); go_step))
      go_roundg (gk - 1)
      case measure => omega
      case rel => exact ⟨k + 1, L + N, by omega, HFk.out.symm, by go_num, rfl, hS⟩
    · obtain rfl : k = m := by omega
      repeat' (first
        | ((with_reducible apply gt9 _ (.move _)); (first | go_big_want | go_step); go_step) | ((with_reducible apply gt9 (some 12) (.binOp .lss _ _ _ _)); (refine wvv9 (V.lss rfl rfl) ?_; go_step)) | ((fail_if_success with_reducible apply ga9); go_step))
      repeat' (first
        | ((with_reducible apply gt9 _ (.call ⟨.value (.func 86), _, _⟩)); refine wpl_call (f := 86) Tryd.call86 (by kernel_rfl) ?_; refine ⟨_, (grow_any _ L (by omega)), ?_⟩; rintro e w ⟨ad, cc, rfl, hS2⟩; replace hS := hS.call1 hS2; clear hS2; refine ⟨_, rfl, ?_⟩; refine put_move ?_; go_step) | ((with_reducible apply gt9 _ (.move _)); (first | go_big_want | go_step); go_step) | ((with_reducible apply gt9 _ (.assign _)); (first | go_big_want | go_step); go_step) | ((with_reducible apply gt9 (some 26) (.call ⟨.builtin .len, _, _⟩)); (refine wvv9 (V.len Tryd.underlying160 rfl) ?_; go_step)) | ((fail_if_success with_reducible apply ga9); go_step))
      go_loopg [6, 27] k (fun gk sv iv w => ∃ (j M : Nat) (aa : Option Addr) (ca : Nat), gk + j = k ∧ M = (flat R j).length ∧ iv = .int .i64 j ∧ sv = .slice aa M ca ∧ St w0 w [own 3 1 aa M ca ((flat R j).map (Value.int .i64))])
      case atStart => exact ⟨0, 0, ad, cc, by omega, rfl, rfl, rfl, hS⟩
      case round =>
        clear hS
        obtain ⟨j, M, aa, ca, hj, hM, rfl, rfl, hS⟩ := hrel
        have hM0 := HL.out j
        rw [← hM] at hM0
        by_cases hlt2 : j < k
        · obtain ⟨r, hr⟩ : ∃ r, R[j]? = some r := ⟨_, List.getElem?_eq_getElem (by omega)⟩
          have hc := HC.out j r hlt2 hr
          have hsl : Sl w0 1 (.slice r.ad r.xs.length r.c) r.xs.length (r.xs.map (Value.int .i64)) := HR.out r (List.mem_of_getElem? hr)
          have hfe := flat_succ R j r hr
          have hf := congrArg List.length hfe
          rw [List.length_append, ← hM] at hf
          have hM1 := HL.out (j + 1)
          obtain ⟨N, hN⟩ : ∃ N, r.xs.length = N := ⟨_, rfl⟩
          rw [hN] at hf hc hsl
          have HFk := hid hf
          have HFE := hid hfe
          rw [hf] at hM1
          clear hf hN hr hfe
          repeat' (first
            | ((with_reducible apply gt9 (some 34) (.binOp .add _ _ _ _)); (refine wplV (.int _ (((j + 1 : Nat) : Int))) (V.as (V.addI rfl rfl (by omega)) (by omega)) rfl ?_; go_step)) | ((with_reducible apply gt9 _ (.move _)); (first | go_big_want | go_step); go_step) | ((with_reducible apply gt9 _ (.assign _)); (first | go_big_want | go_step); go_step) | ((with_reducible apply gt9 (some 28) (.binOp .lss _ _ _ _)); (refine wvv9 (V.lss rfl rfl) ?_; go_step)) | ((with_reducible apply gt9 (some 29) (.indexAddr 160 _ _)); (refine wvv9 (V.indexSl Tryd.underlying160 isz24 rfl rfl isn9 (by omega) (Nat.mul_one _) nq9) ?_; go_step)) | ((with_reducible apply gt9 _ (.load 24 _)); (refine wpl (by kernel_rfl) ?_; apply wp_loadW hS 24 _ rfl _ rfl (one_of rfl) _; (case hc => with_reducible assumption); refine put_move ?_; go_step)) | ((with_reducible apply gt9 (some 33) (.call ⟨.builtin .append, _, _⟩)); (refine wpl (by kernel_rfl) ?_; apply wp_append (o := ⟨some 33, _, _, _, _, _⟩) hS _ _ 24 rfl 3 1 8 el24 _ _ _ _ rfl; (case hp => exact pl9); (case hx => exact rfl); (case hm => (first | exact hS.slBlk pl9 (by rfl) (by decide) | exact hS.sl pl9 | with_reducible assumption | exact Sl.ext (by with_reducible assumption) hS.1 | exact Sl.nil _ _ | exact Sl.ext (by assumption) hS.1 | assumption)); (case h1 => (first | exact oneAll rfl | exact oneMap _ _ | (intro u hu; cases hu))); (case h63 => unfold maxLen; omega); (case hb => omega); clear hS; intro ad33 c33 w hS; (first | simp only [mapk1] at hS | simp only [mapk2] at hS | simp only [mapk3] at hS | simp only [mapk4] at hS | simp only [mapkl] at hS | skip); refine put_move ?_; go_step)) | ((fail_if_success with_reducible apply ga9); go_step))
          go_roundg (gk - 1)
          case measure => omega
          case rel => exact ⟨j + 1, M + N, _, _, by omega, HFk.out.symm, by go_num, rfl, by rw [HFE.out]; exact hS.sub sb9⟩
        · obtain rfl : j = k := by omega
          repeat' (first
            | ((with_reducible apply gt9 _ (.move _)); (first | go_big_want | go_step); go_step) | ((with_reducible apply gt9 _ (.assign _)); (first | go_big_want | go_step); go_step) | ((with_reducible apply gt9 (some 28) (.binOp .lss _ _ _ _)); (refine wvv9 (V.lss rfl rfl) ?_; go_step)) | ((fail_if_success with_reducible apply ga9); go_step))
          repeat' (first
            | ((fail_if_success with_reducible apply ga9); go_step))
          go_ret
          rw [← hM]
          exact ⟨aa, ca, rfl, hS⟩
end Go.Proofs.YtehbjhocgnfpmaaDoor
