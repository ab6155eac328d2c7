/- The law SegPure: what its proof needs, part 5. -/
import Derived.Test.YtehbjhocgnfpmaaDoorSegPureZ4
import Derived.ProofKit
import Derived.OpenShut
import Derived.ChangeOld
import Derived.Deep.Slices
import Derived.Test.YtehbjhocgnfpmaaDoorRows
import Derived.Test.YtehbjhocgnfpmaaDoorCards
import Derived.Test.YtehbjhocgnfpmaaDoorTie
import Derived.Deep.DeepHandedRow
import Derived.Lay
import Derived.SevenTiedAt
/- The closed fact on segments. -/
namespace Go.Proofs.YtehbjhocgnfpmaaDoor
open Go.RowKit
set_option maxRecDepth 100000
set_option linter.unusedVariables false
theorem bl52_0 (m0 : Int) (w : World) : (Instr.build 52 #[(0, .int .i64 m0)]).run Tryd.prog w = .ok (.agg (iv (((List.replicate 64 0).set 0 m0)))) w := by kernel_rfl
theorem cnt_one (a : Nat) (f : Nat → Int) : ∀ n, isum (fun s => (if s = a then 1 else 0) * f s) (List.range n) = if a < n then f a else 0
  | 0 => by simp [isum]
  | n + 1 => by
    have ih := cnt_one a f n
    unfold isum at ih ⊢
    rw [List.range_succ, List.map_append, List.sum_append, ih]
    simp only [List.map_cons, List.map_nil, List.sum_cons, List.sum_nil]
    by_cases h : n = a
    · subst h; simp
    · rw [if_neg h]
      by_cases h2 : a < n
      · rw [if_pos h2, if_pos (by omega)]; simp
      · rw [if_neg h2, if_neg (by omega)]; simp
theorem one_cost (a : Nat) (ha : a < 256) (f : Int → Nat) : costL (cnt [(a : Int)]) 256 f = f (a : Int) := by
  have h := cnt_one a (fun s => ((f (s : Int) : Nat) : Int)) 256
  rw [if_pos ha] at h
  rw [← h]
  unfold costL isum
  congr 1
  refine List.map_congr_left fun s hs => ?_
  rw [cnt_nth _ (List.mem_range.1 hs), List.count_singleton]
  by_cases e : s = a
  · subst e; simp
  · rw [if_neg e, if_neg (by simp; omega)]; simp
theorem one_pos (a : Nat) (ha : a < 256) (s : Int) : s ∈ posL (cnt [(a : Int)]) 256 ↔ s = a := by
  rw [posL_mem]
  constructor
  · rintro ⟨h1, h2, h3⟩
    rw [cnt_nth _ (by omega), List.count_singleton] at h3
    by_cases e : (((s.toNat : Nat) : Int)) = (a : Int)
    · omega
    · rw [if_neg (by simp; omega)] at h3; simp at h3
  · rintro rfl
    refine ⟨by omega, by omega, ?_⟩
    rw [cnt_nth _ (by omega), List.count_singleton]
    simp
theorem one_posL (a : Nat) (ha : a < 256) : posL (cnt [(a : Int)]) 256 = [(a : Int)] := by
  have h1 := one_pos a ha
  have h2 : (posL (cnt [(a : Int)]) 256).Nodup := by
    unfold posL
    exact List.Pairwise.map (R := fun a b => a ≠ b) _ (fun x y h e => h (by omega)) (List.Pairwise.filter _ List.nodup_range)
  generalize posL (cnt [(a : Int)]) 256 = P at h1 h2
  match P, h1, h2 with
  | [], h1, _ => exact absurd ((h1 a).2 rfl) (by simp)
  | [x], h1, _ => rw [(h1 x).1 (by simp)]
  | x :: y :: r, h1, h2 =>
    have e1 := (h1 x).1 (by simp)
    have e2 := (h1 y).1 (by simp)
    rw [e1, e2] at h2
    simp at h2
/-- One symbol alone has the word 0. -/
theorem one_word {a : Nat} (ha : a < 256) {C S : List Int} (h : Mk (cnt [(a : Int)]) 256 C S) : symW (wds C S) (a : Int) = some (1, 0) := by
  have hp := one_posL a ha
  have hb := h.best (fun _ => 1) ⟨by rw [hp]; intro s hs; exact ⟨Nat.le_refl _, by decide⟩, by rw [hp]; simp [nsum]⟩
  rw [one_cost a ha, one_cost a ha] at hb
  have ht := h.lens.top a (by rw [hp]; simp)
  have hG := wds_good h.ok
  unfold lw at hb ht
  cases hs : symW (wds C S) (a : Int) with
  | none => rw [hs] at ht; simp at ht
  | some y =>
    obtain ⟨m, cd⟩ := y
    rw [hs] at hb ht
    dsimp only at hb ht
    obtain rfl : m = 1 := by omega
    have := hG.long _ (symW_mem hs)
    dsimp only at this
    obtain rfl : cd = 0 := by omega
    rfl
/-- The block 3. -/
def blk3 : List Int := (List.replicate 64 0).set 0 3
theorem blk3_len : blk3.length = 64 := by unfold blk3; rw [List.length_set, List.length_replicate]
theorem blk3_fr : frF blk3 (pts 1 0) = [2] ∧ frR blk3 (pts 1 0) = [0] := by decide +kernel
theorem blk3_ok : blkE blk3 1 = 0 := by decide +kernel
theorem blk3_tk : tfl blk3 0 1 = [((2, 2, 3), true), ((0, 0, 0), false)] := by decide +kernel
theorem blk3_b : bE (cnt [2]) = 0 ∧ bE (cnt [0]) = 0 := by decide +kernel
theorem blk3_enc {C1 S1 C2 S2 : List Int} (h1 : Mk (cnt [2]) 256 C1 S1) (h2 : Mk (cnt [0]) 256 C2 S2) : segE C1 S1 C2 S2 blk3 1 = 0 ∧ (segB C1 S1 C2 S2 blk3 1).length = 1 := by
  have w1 := one_word (a := 2) (by decide) h1
  have w2 := one_word (a := 0) (by decide) h2
  have hw : words (wds C1 S1) (wds C2 S2) (tfl blk3 0 1) := by
    rw [blk3_tk]
    intro x hx
    simp only [List.mem_cons, List.not_mem_nil, or_false] at hx
    rcases hx with rfl | rfl
    · show (symW (wds C1 S1) 2).isSome = true
      rw [show (2 : Int) = ((2 : Nat) : Int) from rfl, w1]; rfl
    · show (symW (wds C2 S2) 0).isSome = true
      rw [show (0 : Int) = ((0 : Nat) : Int) from rfl, w2]; rfl
  have he := enc_all (wds C1 S1) (wds C2 S2) (tfl blk3 0 1) [] hw
  have hbits : (tfl blk3 0 1).flatMap (tkBits (wds C1 S1) (wds C2 S2)) = [false, true, true, false] := by
    rw [blk3_tk]
    simp only [List.flatMap_cons, List.flatMap_nil]
    have e1 : wb (wds C1 S1) 2 = [false] := by unfold wb; rw [show (2 : Int) = ((2 : Nat) : Int) from rfl, w1]; rfl
    have e2 : wb (wds C2 S2) 0 = [false] := by unfold wb; rw [show (0 : Int) = ((0 : Nat) : Int) from rfl, w2]; rfl
    unfold tkBits
    dsimp only
    rw [if_pos rfl, if_neg (by decide), e1, e2]
    rfl
  have ht : tbE C1 S1 C2 S2 = 0 := by unfold tbE; rw [if_pos h1.ok]; exact h2.ok
  have h0 : segE C1 S1 C2 S2 blk3 1 = 0 := by unfold segE; rw [if_pos ht, if_pos blk3_ok, he]
  refine ⟨h0, ?_⟩
  unfold segB segBits
  rw [if_pos h0, he, hbits]
  rfl
set_option maxHeartbeats 8000000 in
theorem blocked_any (w0 : World) : Calls Tryd.prog 15 #[] w0 fun e w => e = .returned (.bool true) ∧ Ext w0 w := by
  have hS := St.start w0
  have HL := hid blk3_len
  go_enter Tryd.func15, Tryd.ntmps15
  repeat' (first
    | ((with_reducible apply gt9 (some 7) _); refine wpl (by kernel_rfl) ?_; refine wp_buildSlice1 (o := ⟨some 7, _, _, _, _, _⟩) hS 22 1 _ rfl 52 64 512 el22 _ _ (Parts.agg (l := blk3.map (Value.int .i64)) rfl (by rw [List.length_map]; exact HL.out) Parts.nil) rfl (by decide) (by decide) ?_; clear hS; intro g7 w hS; rw [List.append_nil] at hS; have hsl7 := hS.slBlk (n := 1) (s := 64) Pull.head (by rw [List.length_map]; exact HL.out) (by decide); refine put_move ?_; go_step) | ((with_reducible apply gt9 (some 10) _); refine wpl_call (f := 22) Tryd.call22 (by kernel_rfl) ?_; refine ⟨_, (fitting_any _ (some ⟨g7, 0, none⟩) 1 1 blk3 0 (by decide) (by decide) hsl7), ?_⟩; rintro e w ⟨C1, S1, C2, S2, a1, a2, m1, k1, m2, k2, b, hC1, hC2, hm1, hm2, hb1, hb2, ht1, ht2, hM1, hM2, hb, rfl, hS2⟩; rw [blk3_fr.1] at hM1 hb; rw [blk3_fr.2] at hM2 hb; obtain rfl : b = true := hb.2 blk3_b; have HK := hid (blk3_enc (hM1 blk3_b.1) (hM2 blk3_b.2)); replace hS := call_two hS hS2; clear hS2 hM1 hM2 hb ht1 ht2; refine ⟨_, rfl, ?_⟩; refine put_move ?_; go_step) | ((with_reducible apply gt9 (some 16) _); refine wpl_call (f := 18) Tryd.call18 (by kernel_rfl) ?_; refine ⟨_, (segEncode_any _ C1 C2 S1 S2 a1 a2 m1 m2 k1 k2 hC1 hC2 (hS.sl pl9) (hS.sl pl9) (by omega) (by omega) (some ⟨g7, 0, none⟩) 1 1 blk3 (by decide) (by have hx := hS.slBlk (n := 1) (s := 64) (cs := blk3.map (Value.int .i64)) pl9 (by rw [List.length_map]; exact HL.out) (by decide); exact hx)), ?_⟩; rintro e w ⟨ao, co, mo, hmo, rfl, hS2⟩; rw [HK.out.1]; rw [HK.out.2] at hmo; subst hmo; replace hS := hS.call1 hS2; clear hS2; refine ⟨_, rfl, ?_⟩; refine put_move ?_; go_step) | ((with_reducible apply gt9 _ (.move _)); (first | go_big_want | go_step); go_step) | ((with_reducible apply gt9 _ (.assign _)); (first | go_big_want | go_step); go_step) | ((with_reducible apply gt9 (some 6) (.build 52 _)); (refine wvv9 (V.build (vs := [(0, _)]) rfl (bl52_0 _)) ?_; go_step)) | ((with_reducible apply gt9 _ (.extract _ _)); (refine wvv9 (V.extract rfl rfl) ?_; go_step)) | ((with_reducible apply gt9 (some 2) (.alloc 33)); (refine wpl (by kernel_rfl) ?_; apply wp_allocP (o := ⟨some 2, _, _, _, _, _⟩) hS 33 rfl _ zp33; clear hS; intro g2 w hS; refine put_move ?_; go_step)) | ((with_reducible apply gt9 _ (.store 33 _ _)); (refine wpl (by kernel_rfl) ?_; apply wp_storePP hS 33 _ _ rfl _ rfl 34 (row_of rfl) _ _; (case hp => exact pl9); (case hy => rfl); (case hn => (repeat (first | exact Pre.nil | (apply Pre.ints; (case hn => (first | (with_reducible assumption) | exact Len.rep | exact Len.set (by with_reducible assumption) | exact Len.set Len.rep | exact Len.set (Len.set Len.rep))); (case h => omega); (case hm => rfl)) | apply Pre.val))); (case hn' => (repeat (first | exact Pre.nil | (apply Pre.ints; (case hn => (first | (with_reducible assumption) | exact Len.rep | exact Len.set (by with_reducible assumption) | exact Len.set Len.rep | exact Len.set (Len.set Len.rep))); (case h => omega); (case hm => rfl)) | apply Pre.val))); (case hv => rfl); (case hd => exact rfl); clear hS; intro w hS)) | ((with_reducible apply gt9 _ (.load 33 _)); (refine wpl (by kernel_rfl) ?_; apply wp_loadPP hS 33 _ rfl _ _ rfl 34 (row_of rfl) _; (case hp => exact pl9); (case hi => (repeat (first | (apply AtP.head; (repeat (first | exact Pre.nil | (apply Pre.ints; (case hn => (first | (with_reducible assumption) | exact Len.rep | exact Len.set (by with_reducible assumption) | exact Len.set Len.rep | exact Len.set (Len.set Len.rep))); (case h => omega); (case hm => rfl)) | apply Pre.val))) | (apply AtP.skipI; (case hn => (first | (with_reducible assumption) | exact Len.rep | exact Len.set (by with_reducible assumption) | exact Len.set Len.rep | exact Len.set (Len.set Len.rep))); (case h => omega); (case ho => rfl)) | apply AtP.skipV))); refine put_move ?_; go_step)) | ((fail_if_success with_reducible apply ga9); go_step))
  repeat' (first
    | ((with_reducible apply gt9 _ (.move _)); (first | go_big_want | go_step); go_step) | ((with_reducible apply gt9 _ (.assign _)); (first | go_big_want | go_step); go_step) | ((with_reducible apply gt9 _ (.pick _ _ _)); (refine wplPickT rfl (by kernel_rfl) ?_; go_step)) | ((with_reducible apply gt9 (some 22) (.binOp .eql 25 _ _ _)); (refine wplD _ (V.eql rfl rfl) (by kernel_rfl) (fun hB => ?_) (fun hB => ?_) <;> (try (have hF : False := (by omega); cases hF)) <;> go_step)) | ((with_reducible apply gt9 _ (.call ⟨.builtin .len, _, _⟩)); (refine wvv9 (V.len Tryd.underlying34 rfl) ?_; go_step)) | ((with_reducible apply gt9 _ (.binOp .eql 3 _ _ _)); (refine wvv9 (V.eql rfl rfl) ?_; go_step)) | ((fail_if_success with_reducible apply ga9); go_step))
  all_goals (try (have hF : False := (by omega); cases hF))
  all_goals (go_ret; exact ⟨rfl, hS.1⟩)
end Go.Proofs.YtehbjhocgnfpmaaDoor

/- Opening the arguments of a law: what their readings say of the values and of memory. -/
namespace Go.Proofs.YtehbjhocgnfpmaaDoor
open Go.ChangeShapes Go.WideShapes Go.ChangeAt Go.RowKit
end Go.Proofs.YtehbjhocgnfpmaaDoor

/- Opening slices of whatever is made of integers alone: numbers, arrays of them, structs of them. -/
namespace Go.Proofs.YtehbjhocgnfpmaaDoor
open Go.ChangeShapes Go.WideShapes Go.ChangeAt Go.RowKit Go.Deep
/-- A type all of whose cells are integers of kind k. -/
def allInts (P : Program) (k : IntKind) : Nat → TypeId → Bool
  | 0, _ => false
  | d + 1, t => match P.underlying t with
    | some (.int k') => decide (k' = k) && P.cellsOf t == 1
    | some (.array n e) => allInts P k d e && P.cellsOf t == n * P.cellsOf e
    | some (.struct fs) => fs.toList.all (fun f => allInts P k d f.type) && (List.range (P.cellsOf t)).all fun j => fs.toList.any fun f => decide (f.offset ≤ j) && decide (j < f.offset + P.cellsOf f.type)
    | _ => false
theorem trod_ints {H : Type} {enc : TypeId × Value → H} {P : Program} {W : World} {base : Nat} {sp : Nat → Bool} {held : Bool} (k : IntKind) : ∀ (d : Nat) (t : TypeId), allInts P k d t = true → ∀ (fuel : Nat) (cs : List Value) (x : DataW H × List MemPlace),
    DataW.trod enc P W base sp held fuel t cs = some x → cs.length = P.cellsOf t ∧ ∀ j, j < cs.length → ∃ n, cs[j]? = some (.int k n) ∧ (Lit.int k n).wf = true := by
  intro d
  induction d with
  | zero => intro t h; simp [allInts] at h
  | succ d ih =>
    intro t ht fuel cs x h
    unfold allInts at ht
    split at ht
    · rename_i k' hu
      simp only [Bool.and_eq_true, decide_eq_true_eq, beq_iff_eq] at ht
      obtain ⟨rfl, hc⟩ := ht
      obtain ⟨n, rfl, _, hw⟩ := DataW.trod_int hu h
      refine ⟨by simp [hc], fun j hj => ?_⟩
      obtain rfl : j = 0 := by simp at hj; omega
      exact ⟨n, rfl, hw⟩
    · rename_i n e hu
      simp only [Bool.and_eq_true, beq_iff_eq] at ht
      obtain ⟨he, hc⟩ := ht
      obtain ⟨xs, m, _, _, hl, hxl, hf⟩ := DataW.trod_array hu h
      refine ⟨hl, fun j hj => ?_⟩
      rw [hl, hc] at hj
      have hcp : 0 < P.cellsOf e := by
        rcases Nat.eq_zero_or_pos (P.cellsOf e) with h0 | h0
        · rw [h0] at hj; simp at hj
        · exact h0
      have hjn : j / P.cellsOf e < n := by rw [Nat.div_lt_iff_lt_mul hcp]; exact hj
      have hfe := hf (j / P.cellsOf e) hjn
      rw [List.getElem?_eq_getElem (by omega)] at hfe
      obtain ⟨hl2, hv⟩ := ih e he m _ _ hfe
      have hm := Nat.mod_lt j hcp
      obtain ⟨v, hv1, hv2⟩ := hv (j % P.cellsOf e) (by rw [hl2]; exact hm)
      refine ⟨v, ?_, hv2⟩
      rw [List.getElem?_take, if_pos hm, List.getElem?_drop] at hv1
      rwa [show j / P.cellsOf e * P.cellsOf e + j % P.cellsOf e = j by rw [Nat.mul_comm]; exact Nat.div_add_mod j _] at hv1
    · rename_i fs hu
      simp only [Bool.and_eq_true] at ht
      obtain ⟨he, hc⟩ := ht
      obtain ⟨xs, m, _, _, hl, hxl, hf⟩ := DataW.trod_struct hu h
      refine ⟨hl, fun j hj => ?_⟩
      rw [List.all_eq_true] at he hc
      have h1 := hc j (List.mem_range.2 (by omega))
      rw [List.any_eq_true] at h1
      obtain ⟨f, hfm, h1⟩ := h1
      simp only [Bool.and_eq_true, decide_eq_true_eq] at h1
      obtain ⟨i, hi, hfi⟩ := List.getElem_of_mem hfm
      have hi' : i < fs.size := by simpa using hi
      have hfe := hf i f (by rw [Array.getElem?_eq_getElem hi']; simpa using hfi)
      rw [List.getElem?_eq_getElem (by omega)] at hfe
      obtain ⟨hl2, hv⟩ := ih f.type (he f hfm) m _ _ hfe
      obtain ⟨v, hv1, hv2⟩ := hv (j - f.offset) (by rw [hl2]; omega)
      refine ⟨v, ?_, hv2⟩
      rw [List.getElem?_take, if_pos (by omega), List.getElem?_drop, show f.offset + (j - f.offset) = j by omega] at hv1
      exact hv1
    · cases ht
/-- A slice of such elements that came in: all cells of all of its elements, one behind the other. -/
theorem op_slice_t {H : Type} {enc : TypeId × Value → H} {P : Program} {W : World} {t e : TypeId} {v : Value} {x : DataW H × List MemPlace} {fuel : Nat} (k : IntKind) (ht : P.underlying t = some (.slice e)) (dp : Nat) (he : allInts P k dp e = true)
    (s : Nat) (hs : P.cellsOf e = s) (hs0 : 0 < s) (h : DataW.trod enc P W 0 (fun _ => true) true fuel t [v] = some x) :
    ∃ (n : Nat) (ns : List Int), ns.length = n * s ∧ Sl W s v n (ns.map (Value.int k)) ∧ ∀ i, i < ns.length → (Lit.int k (nth ns i)).wf = true := by
  rcases open_slice ht h with ⟨h0, _⟩ | ⟨a, len, cap, m, n, D, Pl, hcs, hb, hl, hm, hmm, _, hx⟩
  · obtain rfl : v = .slice none 0 0 := by simpa using h0
    exact ⟨0, [], by simp, Sl.nil W s, fun i hi => by simp at hi⟩
  · obtain rfl : v = .slice (some a) len cap := by simpa using hcs
    have hmc : m = cap := by simpa using hmm
    subst hmc
    have each : ∀ i, i < len * s → ∃ q : Int, W.cell? (a.add i) = some (.int k q) ∧ (Lit.int k q).wf = true := by
      intro i hi
      have hsp : 0 < s := by
        rcases Nat.eq_zero_or_pos s with h0 | h0
        · rw [h0] at hi; simp at hi
        · exact h0
      have hil : i / s < len := by rw [Nat.div_lt_iff_lt_mul hsp]; exact hi
      obtain ⟨cs', h1, h2⟩ := hx (i / s) (by omega)
      rw [hs] at h1
      obtain ⟨hl3, hv3⟩ := trod_ints k dp e he _ _ _ h2
      obtain ⟨_, hl4, hc4⟩ := World.cells?_some h1
      have hm3 := Nat.mod_lt i hsp
      obtain ⟨q, hq1, hq2⟩ := hv3 (i % s) (by rw [hl4]; exact hm3)
      refine ⟨q, ?_, hq2⟩
      rw [← hq1, ← hc4 (i % s) hm3, Go.Deep.add_add, show i / s * s + i % s = i by rw [Nat.mul_comm]; exact Nat.div_add_mod i _]
    obtain ⟨f, hf⟩ := choose_lt each
    refine ⟨len, (List.range (len * s)).map f, by simp, ⟨by simp, some a, m, rfl, hl, hm, ?_⟩, ?_⟩
    · rcases Nat.eq_zero_or_pos (len * s) with h0 | h0
      · rcases Nat.eq_zero_or_pos len with h1 | h1
        · exact .inl h1
        · exact absurd h0 (by have := Nat.mul_pos h1 hs0; omega)
      · refine .inr ?_
        have hc0 := (hf 0 h0).1
        have hspot : a.spot = none := by
          rw [show a.add 0 = a from rfl] at hc0
          unfold World.cell? at hc0
          split at hc0
          · split at hc0
            · cases hc0
            · rename_i hh; simpa using hh
          · cases hc0
        refine ⟨a.block, a.off, by cases a; simp at hspot; simp [hspot], fun i hi => ?_⟩
        have hci := (hf i hi).1
        have haddr : a.add i = ⟨a.block, a.off + i, none⟩ := by
          unfold Addr.add
          split
          · rename_i h0; subst h0; cases a; simp at hspot; simp [hspot]
          · rfl
        rw [haddr] at hci
        rw [hci]
        simp [hi]
    · intro i hi
      have hi' : i < len * s := by simpa using hi
      have := (hf i hi').2
      simpa [nth, List.getD, hi'] using this
theorem op_slice {H : Type} {enc : TypeId × Value → H} {P : Program} {W : World} {t e : TypeId} {v : Value} {d : DataW H} {p : List MemPlace} (k : IntKind) (ht : P.underlying t = some (.slice e)) (dp : Nat) (he : allInts P k dp e = true)
    (s : Nat) (hs : P.cellsOf e = s) (hs0 : 0 < s) {base : Nat} (ho : Value.okWide P W .any base t v) (h : DataW.Trod enc P W 0 (fun _ => true) true t v d p) :
    ∃ (n : Nat) (ns : List Int), ns.length = n * s ∧ Sl W s v n (ns.map (Value.int k)) ∧ ∀ i, i < ns.length → (Lit.int k (nth ns i)).wf = true := by
  obtain ⟨fuel, h⟩ := h
  have hvc : v.cells.toList = [v] := by
    unfold Value.okWide at ho
    rw [ht] at ho
    dsimp only at ho
    unfold Cell.okWide at ho
    rw [ht] at ho
    dsimp only at ho
    unfold Cell.ok at ho
    rw [ht] at ho
    cases v <;> first | rfl | exact absurd ho (by simp)
  rw [hvc] at h
  exact op_slice_t k ht dp he s hs hs0 h
/-- A struct or an array that came in. -/
theorem op_agg {P : Program} {W : World} {base : Nat} {t : TypeId} {v : Value} (hd : (match P.underlying t with | some (.struct _) | some (.array _ _) => true | _ => false) = true) (ho : Value.okWide P W .any base t v) : ∃ cs, v = .agg cs := by
  unfold Value.okWide at ho
  split at ho
  · obtain ⟨cs, h, _⟩ := ho; exact ⟨cs, h⟩
  · obtain ⟨cs, h, _⟩ := ho; exact ⟨cs, h⟩
  · rename_i h1 h2
    split at hd
    · rename_i x h3; exact absurd h3 (h1 x)
    · rename_i x y h3; exact absurd h3 (h2 x y)
    · cases hd
theorem wf_i64_iff (n : Int) : (Lit.int .i64 n).wf = true ↔ -9223372036854775808 ≤ n ∧ n ≤ 9223372036854775807 := by
  simp only [Lit.wf, Bool.and_eq_true, decide_eq_true_eq]
  have h1 : IntKind.i64.min = -9223372036854775808 := rfl
  have h2 : IntKind.i64.max = 9223372036854775807 := rfl
  rw [h1, h2]
end Go.Proofs.YtehbjhocgnfpmaaDoor

/- Tables that came in. -/
namespace Go.Proofs.YtehbjhocgnfpmaaDoor
set_option maxRecDepth 100000
open Go.ChangeShapes Go.WideShapes Go.ChangeAt Go.RowKit Go.Deep
set_option linter.unusedVariables false
/-- Cells that are ints. -/
theorem ints_of {H : Type} {enc : TypeId × Value → H} {P : Program} {W : World} {base : Nat} {sp : Nat → Bool} {held : Bool} {dp : Nat} {t : TypeId} (ht : allInts P .i64 dp t = true) {fuel : Nat} {cs : List Value} {x : DataW H × List MemPlace} (h : DataW.trod enc P W base sp held fuel t cs = some x) :
    ∃ l : List Int, l.length = P.cellsOf t ∧ cs = l.map (Value.int .i64) ∧ ∀ i, i < l.length → -9223372036854775808 ≤ nth l i ∧ nth l i ≤ 9223372036854775807 := by
  obtain ⟨hl, hv⟩ := trod_ints .i64 dp t ht fuel cs x h
  have key : ∀ i, i < cs.length → ∃ n : Int, cs[i]? = some (.int .i64 n) ∧ -9223372036854775808 ≤ n ∧ n ≤ 9223372036854775807 := fun i hi => by
    obtain ⟨n, h1, h2⟩ := hv i hi
    exact ⟨n, h1, (wf_i64_iff n).1 h2⟩
  obtain ⟨f, hf⟩ := choose_lt key
  refine ⟨tab cs.length f, by rw [tab_len]; exact hl, ?_, fun i hi => ?_⟩
  · apply List.ext_getElem?
    intro i
    by_cases hi : i < cs.length
    · rw [List.getElem?_map, get_nth _ i (by rw [tab_len]; exact hi), nth_tab _ _ _ hi, (hf i hi).1]; rfl
    · rw [List.getElem?_eq_none (by omega), List.getElem?_eq_none (by rw [List.length_map, tab_len]; omega)]
  · rw [tab_len] at hi
    rw [nth_tab _ _ _ hi]; exact (hf i hi).2
structure TabIn (W : World) (C S : List Int) (ad : Option Addr) (n c : Nat) : Prop where
  len : Len C 16
  nc : n ≤ c
  cm : c ≤ 9223372036854775807
  rangeC : ∀ i, i < 16 → -9223372036854775808 ≤ nth C i ∧ nth C i ≤ 9223372036854775807
  sl : Sl W 1 (.slice ad n c) n (S.map (Value.int .i64))
  rangeS : ∀ i, i < n → -9223372036854775808 ≤ nth S i ∧ nth S i ≤ 9223372036854775807
theorem tab_cells {H : Type} {enc : TypeId × Value → H} {W : World} {fuel : Nat} {cs : List Value} {x : DataW H × List MemPlace} (h : DataW.trod enc Tryd.prog W 0 (fun _ => true) true fuel 31 cs = some x) :
    ∃ (C S : List Int) (ad : Option Addr) (n c : Nat), cs = pcells [.ints C, .val (.slice ad n c)] ∧ TabIn W C S ad n c := by
  obtain ⟨xs, m, _, _, hl, hxl, hf⟩ := DataW.trod_struct Tryd.underlying31 h
  have hl17 : cs.length = 17 := by rw [hl]; kernel_rfl
  have hx2 : xs.length = 2 := hxl
  have f0 := hf 0 { name := "Counts", type := 29, offset := 0, embedded := false, tag := "", pkgPath := "", byteOffset := 0 } rfl
  have f1 := hf 1 { name := "Syms", type := 24, offset := 16, embedded := false, tag := "", pkgPath := "", byteOffset := 128 } rfl
  dsimp only at f0 f1
  rw [List.getElem?_eq_getElem (by omega)] at f0 f1
  obtain ⟨C, hC, hcs, hr⟩ := ints_of (dp := 3) (by kernel_rfl) f0
  have hc16 : Tryd.prog.cellsOf 29 = 16 := by kernel_rfl
  have hc1 : Tryd.prog.cellsOf 24 = 1 := by kernel_rfl
  rw [hc16] at hC hcs
  rw [hc1] at f1
  obtain ⟨v, hv⟩ : ∃ v, cs.drop 16 = [v] := by
    match hd : cs.drop 16, (show (cs.drop 16).length = 1 by simp [hl17]) with
    | [v], _ => exact ⟨v, rfl⟩
  rw [hv] at f1
  obtain ⟨n, S, hS, hsl, hsr⟩ := op_slice_t .i64 Tryd.underlying24 1 (by kernel_rfl) 1 (by kernel_rfl) (by omega) f1
  obtain ⟨ad, c, rfl, hnc, hcm⟩ : ∃ ad c, v = .slice ad n c ∧ n ≤ c ∧ c ≤ 9223372036854775807 := by
    obtain ⟨_, ad, c, h1, h2, h3, _⟩ := hsl
    exact ⟨ad, c, h1, h2, by unfold maxLen at h3; exact h3⟩
  refine ⟨C, S, ad, n, c, ?_, ⟨hC, hnc, hcm, fun i hi => hr i (by omega), hsl, fun i hi => (wf_i64_iff _).1 (hsr i (by omega))⟩⟩
  rw [← List.take_append_drop 16 cs, hv]
  rw [List.drop_zero] at hcs
  rw [hcs]; rfl
end Go.Proofs.YtehbjhocgnfpmaaDoor

/- Two tables that came in; blocks that came in. -/
namespace Go.Proofs.YtehbjhocgnfpmaaDoor
open Go.ChangeShapes Go.WideShapes Go.ChangeAt Go.RowKit Go.Deep
set_option maxRecDepth 100000
set_option linter.unusedVariables false
theorem tabs_cells {H : Type} {enc : TypeId × Value → H} {W : World} {fuel : Nat} {cs : List Value} {x : DataW H × List MemPlace} (h : DataW.trod enc Tryd.prog W 0 (fun _ => true) true fuel 33 cs = some x) :
    ∃ (C1 S1 C2 S2 : List Int) (a1 a2 : Option Addr) (n1 k1 n2 k2 : Nat), cs = pcells [.ints C1, .val (.slice a1 n1 k1), .ints C2, .val (.slice a2 n2 k2)] ∧ TabIn W C1 S1 a1 n1 k1 ∧ TabIn W C2 S2 a2 n2 k2 := by
  obtain ⟨ys, m2, _, _, hl2, hy2, hg⟩ := DataW.trod_struct Tryd.underlying33 h
  have hl34 : cs.length = 34 := by rw [hl2]; kernel_rfl
  have c17 : Tryd.prog.cellsOf 31 = 17 := by kernel_rfl
  have hy2' : ys.length = 2 := hy2
  have g0 := hg 0 { name := "First", type := 31, offset := 0, embedded := false, tag := "", pkgPath := "", byteOffset := 0 } rfl
  have g1 := hg 1 { name := "Rest", type := 31, offset := 17, embedded := false, tag := "", pkgPath := "", byteOffset := 152 } rfl
  dsimp only at g0 g1
  rw [List.getElem?_eq_getElem (by omega), c17] at g0 g1
  obtain ⟨C1, S1, a1, n1, k1, t1, T1⟩ := tab_cells g0
  obtain ⟨C2, S2, a2, n2, k2, t2, T2⟩ := tab_cells g1
  refine ⟨C1, S1, C2, S2, a1, a2, n1, k1, n2, k2, ?_, T1, T2⟩
  rw [← List.take_append_drop 17 cs]
  rw [List.drop_zero] at t1
  rw [t1]
  have : (cs.drop 17) = (cs.drop 17).take 17 := by rw [List.take_of_length_le]; simp [hl34]
  rw [this, t2]
  simp [pcells, Part.cells]
theorem op_tabs {H : Type} {enc : TypeId × Value → H} {W : World} {v : Value} {d : DataW H} {p : List MemPlace} {base : Nat} (ho : Value.okWide Tryd.prog W .any base 33 v) (h : DataW.Trod enc Tryd.prog W 0 (fun _ => true) true 33 v d p) :
    ∃ (C1 S1 C2 S2 : List Int) (a1 a2 : Option Addr) (n1 k1 n2 k2 : Nat), v = .agg (pcells [.ints C1, .val (.slice a1 n1 k1), .ints C2, .val (.slice a2 n2 k2)]).toArray ∧ TabIn W C1 S1 a1 n1 k1 ∧ TabIn W C2 S2 a2 n2 k2 := by
  obtain ⟨cs, rfl⟩ := op_agg (by rw [Tryd.underlying33]) ho
  obtain ⟨fuel, h⟩ := h
  obtain ⟨C1, S1, C2, S2, a1, a2, n1, k1, n2, k2, h1, T1, T2⟩ := tabs_cells h
  refine ⟨C1, S1, C2, S2, a1, a2, n1, k1, n2, k2, ?_, T1, T2⟩
  have h3 : cs.toList = pcells [.ints C1, .val (.slice a1 n1 k1), .ints C2, .val (.slice a2 n2 k2)] := h1
  show Value.agg cs = Value.agg _
  rw [← h3]
theorem op_blocks {H : Type} {enc : TypeId × Value → H} {W : World} {v : Value} {d : DataW H} {p : List MemPlace} {base : Nat} (ho : Value.okWide Tryd.prog W .any base 22 v) (h : DataW.Trod enc Tryd.prog W 0 (fun _ => true) true 22 v d p) :
    ∃ (n : Nat) (l : List Int) (ad : Option Addr) (c : Nat), l.length = n * 64 ∧ v = .slice ad n c ∧ n ≤ c ∧ c ≤ 9223372036854775807 ∧ Sl W 64 (.slice ad n c) n (l.map (Value.int .i64)) := by
  obtain ⟨n, ns, hnl, hv, hw⟩ := op_slice .i64 Tryd.underlying22 2 (by kernel_rfl) 64 (by kernel_rfl) (by omega) ho h
  obtain ⟨ad, c, rfl, hnc, hcm⟩ : ∃ ad c, v = .slice ad n c ∧ n ≤ c ∧ c ≤ 9223372036854775807 := by
    obtain ⟨_, ad, c, h1, h2, h3, _⟩ := hv
    exact ⟨ad, c, h1, h2, by unfold maxLen at h3; exact h3⟩
  exact ⟨n, ns, ad, c, hnl, rfl, hnc, hcm, hv⟩
end Go.Proofs.YtehbjhocgnfpmaaDoor

/- The law SegPure: its walk, and the statement. -/
namespace Go.Proofs.YtehbjhocgnfpmaaDoor
open Go.ChangeShapes Go.WideShapes Go.ChangeAt Go.RowKit
set_option maxRecDepth 100000
set_option linter.unusedVariables false
/-- What was encoded is stuffed, and not long. -/
theorem segB_stf {C1 S1 C2 S2 l : List Int} {n : Nat} (hl : l.length = n * 64) (h : segE C1 S1 C2 S2 l n = 0) :
    ∃ cc : List Nat, (∀ x ∈ cc, x < 256) ∧ segB C1 S1 C2 S2 l n = stf (byI cc) ∧ (segB C1 S1 C2 S2 l n).length ≤ 300000 := by
  have ht : tbE C1 S1 C2 S2 = 0 := by
    unfold segE at h
    by_cases h1 : tbE C1 S1 C2 S2 = 0
    · exact h1
    · rw [if_neg h1] at h; exact absurd h h1
  have hb : blkE l n = 0 := by
    unfold segE at h
    rw [if_pos ht] at h
    by_cases h1 : blkE l n = 0
    · exact h1
    · rw [if_neg h1] at h; exact absurd h h1
  have ht1 : tabE C1 S1 = 0 := by
    unfold tbE at ht
    by_cases h1 : tabE C1 S1 = 0
    · exact h1
    · rw [if_neg h1] at ht; exact absurd ht h1
  have ht2 : tabE C2 S2 = 0 := by unfold tbE at ht; rw [if_pos ht1] at ht; exact ht
  have hlen := segBits_len ht1 ht2 hl (blkE_400 hb)
  have e : segB C1 S1 C2 S2 l n = stf (byI (bytesOf (segBits C1 S1 C2 S2 l n))) := by unfold segB; rw [if_pos h]
  refine ⟨_, bytesOf_lt _, e, ?_⟩
  rw [e, stf_len]
  have h1 := List.count_le_length (a := (255 : Int)) (l := byI (bytesOf (segBits C1 S1 C2 S2 l n)))
  have h2 : (byI (bytesOf (segBits C1 S1 C2 S2 l n))).length = ((segBits C1 S1 C2 S2 l n).length + 7) / 8 := by unfold byI; rw [List.length_map, bytesOf_len]
  omega
theorem segB_nil {C1 S1 C2 S2 l : List Int} {n : Nat} (h : segE C1 S1 C2 S2 l n ≠ 0) : segB C1 S1 C2 S2 l n = [] := by unfold segB; rw [if_neg h]
theorem stf_rng2 {l : List Nat} (h : ∀ x ∈ l, x < 256) : ∀ x ∈ stf (byI l), 0 ≤ x ∧ x < 256 := by
  intro x hx
  unfold stf rep1 at hx
  obtain ⟨y, hy, hx⟩ := List.mem_flatMap.1 hx
  split at hx
  · simp at hx
    rcases hx with rfl | rfl <;> omega
  · simp at hx
    subst hx
    obtain ⟨z, hz, rfl⟩ := List.mem_map.1 hy
    have := h z hz
    omega
set_option maxHeartbeats 8000000 in
theorem SegPure_walk {H : Type} {enc : TypeId × Value → H} {d0 d1 : DataW H} {p0 p1 : List MemPlace} {v0 v1 : Value} {base : Nat} (W : World)
    (o0 : Value.okWide Tryd.prog W .any base 33 v0) (h0 : DataW.Trod enc Tryd.prog W 0 (fun _ => true) true 33 v0 d0 p0) (lt0 : ∀ x ∈ p0, x.block < W.heap.size)
    (o1 : Value.okWide Tryd.prog W .any base 22 v1) (h1 : DataW.Trod enc Tryd.prog W 0 (fun _ => true) true 22 v1 d1 p1) (lt1 : ∀ x ∈ p1, x.block < W.heap.size)
    (hsh : W.ShapedOpen Tryd.prog) :
    Calls Tryd.prog 4 #[v0, v1] W fun e w' => e = .returned (.bool true) ∧ Ext W w' := by
  obtain ⟨C1, S1, C2, S2, a1, a2, n1, k1, n2, k2, rfl, T1, T2⟩ := op_tabs o0 h0
  obtain ⟨n, l, ad, c, hnl, rfl, hnc, hcm, hv⟩ := op_blocks o1 h1
  have hml : ∃ m, W.cell? ⟨0, 0, none⟩ = some (.int .i64 m) := Tryd.laysM185.s1_3 W hsh
  have hC1 := T1.len
  have hC2 := T2.len
  have hs1 := T1.sl
  have hs2 := T2.sl
  have hn1 : n1 ≤ 9223372036854775807 := Nat.le_trans T1.nc T1.cm
  have hn2 : n2 ≤ 9223372036854775807 := Nat.le_trans T2.nc T2.cm
  clear o0 h0 lt0 o1 h1 lt1 hsh T1 T2
  have HML := hid hml
  clear hml
  have hS := St.start W
  obtain ⟨E, hE⟩ : ∃ E, segE C1 S1 C2 S2 l n = E := ⟨_, rfl⟩
  obtain ⟨B, hB⟩ : ∃ B, segB C1 S1 C2 S2 l n = B := ⟨_, rfl⟩
  have HE := hid hE
  have HB := hid hB
  by_cases h0 : E = 0
  case neg =>
    have hb0 : B = [] := by rw [← hB]; exact segB_nil (by rw [hE]; exact h0)
    have HB0 := hid hb0
    clear hE hB hb0
    go_enter Tryd.func4, Tryd.ntmps4
    repeat' (first
      | ((with_reducible apply gt9 _ (.call ⟨.value (.func 15), _, _⟩)); refine wpl_call (f := 15) Tryd.call15 (by kernel_rfl) ?_; refine ⟨_, (blocked_any _), ?_⟩; rintro e w ⟨rfl, hE⟩; replace hS := hS.ext hE; clear hE; refine ⟨_, rfl, ?_⟩; refine put_move ?_; go_step) | ((with_reducible apply gt9 _ (.assign _)); (first | go_big_want | go_step); go_step) | ((with_reducible apply gt9 _ (.unOp .not _ _)); (refine wvv9 (V.not rfl) ?_; go_step)) | ((with_reducible apply gt9 (some 2) (.box 33 _)); (refine wpl (by kernel_rfl) ?_; apply wp_boxP (o := ⟨some 2, _, _, _, _, _⟩) hS 33 _ rfl _ rfl; clear hS; intro g2 w hS; refine put_move ?_; go_step)) | ((fail_if_success with_reducible apply ga9); go_step))
    all_goals (try (have hF : False := (by omega); cases hF))
    repeat' (first
      | ((with_reducible apply gt9 (some 17) _); refine wpl_call (f := 18) Tryd.call18 (by kernel_rfl) ?_; refine ⟨_, (segEncode_any _ C1 C2 S1 S2 a1 a2 n1 n2 k1 k2 hC1 hC2 (hs1.ext hS.1) (hs2.ext hS.1) hn1 hn2 ad n c l (by omega) (hv.ext hS.1)), ?_⟩; rintro e w ⟨ao, co, mo, hmo, rfl, hS2⟩; rw [HB.out, HB0.out] at hmo; obtain rfl : 0 = mo := hmo; rw [HE.out]; replace hS := hS.ext hS2.1; clear hS2; refine ⟨_, rfl, ?_⟩; refine put_move ?_; go_step) | ((with_reducible apply gt9 _ (.move _)); (first | go_big_want | go_step); go_step) | ((with_reducible apply gt9 _ (.assign _)); (first | go_big_want | go_step); go_step) | ((with_reducible apply gt9 _ (.extract _ _)); (refine wvv9 (V.extract rfl rfl) ?_; go_step)) | ((with_reducible apply gt9 _ (.binOp .neq 25 _ _ _)); (refine wvv9 (V.neq rfl rfl) ?_; go_step)) | ((with_reducible apply gt9 _ (.call ⟨.builtin .len, _, _⟩)); (refine wvv9 (V.len Tryd.underlying34 rfl) ?_; go_step)) | ((with_reducible apply gt9 _ (.binOp .eql 3 _ _ _)); (refine wvv9 (V.eql rfl rfl) ?_; go_step)) | ((with_reducible apply gt9 _ (.load 33 _)); (refine wpl (by kernel_rfl) ?_; apply wp_loadPP hS 33 _ rfl _ _ rfl 34 (row_of rfl) _; (case hp => exact pl9); (case hi => (repeat (first | (apply AtP.head; (repeat (first | exact Pre.nil | (apply Pre.ints; (case hn => (first | (with_reducible assumption) | exact Len.rep | exact Len.set (by with_reducible assumption) | exact Len.set Len.rep | exact Len.set (Len.set Len.rep))); (case h => omega); (case hm => rfl)) | apply Pre.val))) | (apply AtP.skipI; (case hn => (first | (with_reducible assumption) | exact Len.rep | exact Len.set (by with_reducible assumption) | exact Len.set Len.rep | exact Len.set (Len.set Len.rep))); (case h => omega); (case ho => rfl)) | apply AtP.skipV))); refine put_move ?_; go_step)) | ((fail_if_success with_reducible apply ga9); go_step))
    all_goals (try (have hF : False := (by omega); cases hF))
    all_goals (go_ret; exact ⟨rfl, hS.1⟩)
  subst h0
  obtain ⟨cc, hcc, hst, hlen⟩ := segB_stf hnl hE
  rw [hB] at hst hlen
  have hspf := spf_stf (byI cc) [] [] []
  rw [← hst] at hspf
  have hrng := stf_rng2 hcc
  rw [← hst] at hrng
  obtain ⟨mB, hmB⟩ : ∃ m, B.length = m := ⟨_, rfl⟩
  rw [hmB] at hlen
  have HR := hid hrng
  have HM := hid hmB
  have HST := hid hst
  have HSPF := hid (show spf B [] [] [] = some ([B], []) by simpa using hspf)
  clear hE hB hst hspf hrng hmB hcc hnl
  go_enter Tryd.func4, Tryd.ntmps4
  repeat' (first
    | ((with_reducible apply gt9 _ (.call ⟨.value (.func 15), _, _⟩)); refine wpl_call (f := 15) Tryd.call15 (by kernel_rfl) ?_; refine ⟨_, (blocked_any _), ?_⟩; rintro e w ⟨rfl, hE⟩; replace hS := hS.ext hE; clear hE; refine ⟨_, rfl, ?_⟩; refine put_move ?_; go_step) | ((with_reducible apply gt9 _ (.assign _)); (first | go_big_want | go_step); go_step) | ((with_reducible apply gt9 _ (.unOp .not _ _)); (refine wvv9 (V.not rfl) ?_; go_step)) | ((with_reducible apply gt9 (some 2) (.box 33 _)); (refine wpl (by kernel_rfl) ?_; apply wp_boxP (o := ⟨some 2, _, _, _, _, _⟩) hS 33 _ rfl _ rfl; clear hS; intro g2 w hS; refine put_move ?_; go_step)) | ((fail_if_success with_reducible apply ga9); go_step))
  all_goals (try (have hF : False := (by omega); cases hF))
  repeat' (first
    | ((with_reducible apply gt9 (some 17) _); refine wpl_call (f := 18) Tryd.call18 (by kernel_rfl) ?_; refine ⟨_, (segEncode_any _ C1 C2 S1 S2 a1 a2 n1 n2 k1 k2 hC1 hC2 (hs1.ext hS.1) (hs2.ext hS.1) hn1 hn2 ad n c l (by omega) (hv.ext hS.1)), ?_⟩; rintro e w ⟨ao, co, mo, hmo, rfl, hS2⟩; rw [HB.out] at hS2; rw [HB.out, HM.out] at hmo; subst hmo; rw [HE.out]; replace hS := hS.call1 hS2; clear hS2; refine ⟨_, rfl, ?_⟩; refine put_move ?_; go_step) | ((with_reducible apply gt9 _ (.move _)); (first | go_big_want | go_step); go_step) | ((with_reducible apply gt9 _ (.assign _)); (first | go_big_want | go_step); go_step) | ((with_reducible apply gt9 _ (.extract _ _)); (refine wvv9 (V.extract rfl rfl) ?_; go_step)) | ((with_reducible apply gt9 _ (.binOp .neq 25 _ _ _)); (refine wvv9 (V.neq rfl rfl) ?_; go_step)) | ((with_reducible apply gt9 _ (.load 33 _)); (refine wpl (by kernel_rfl) ?_; apply wp_loadPP hS 33 _ rfl _ _ rfl 34 (row_of rfl) _; (case hp => exact pl9); (case hi => (repeat (first | (apply AtP.head; (repeat (first | exact Pre.nil | (apply Pre.ints; (case hn => (first | (with_reducible assumption) | exact Len.rep | exact Len.set (by with_reducible assumption) | exact Len.set Len.rep | exact Len.set (Len.set Len.rep))); (case h => omega); (case hm => rfl)) | apply Pre.val))) | (apply AtP.skipI; (case hn => (first | (with_reducible assumption) | exact Len.rep | exact Len.set (by with_reducible assumption) | exact Len.set Len.rep | exact Len.set (Len.set Len.rep))); (case h => omega); (case ho => rfl)) | apply AtP.skipV))); refine put_move ?_; go_step)) | ((fail_if_success with_reducible apply ga9); go_step))
  all_goals (try (have hF : False := (by omega); cases hF))
  have hnil := own_nil hS .head
  have HNI := hid hnil
  clear hnil
  repeat' (first
    | ((with_reducible apply gt9 (some 27) _); refine wpl_call (f := 19) Tryd.call19 (by kernel_rfl) ?_; refine ⟨_, (split_any _ _ mB _ B (hS.sl pl9) HR.out (by omega)), ?_⟩; rintro e w ⟨_, hq⟩; obtain ⟨pcs, ap, am, cp, cm, lo, lm, hlo, hlm, hpc, rfl, hS2⟩ := hq _ _ HSPF.out; clear hq hpc; obtain rfl : lm = 0 := hlm; replace hS := hS.call hS2; dsimp only [List.cons_append, List.nil_append] at hS; clear hS2; refine ⟨_, rfl, ?_⟩; refine put_move ?_; go_step) | ((with_reducible apply gt9 (some 33) _); refine wpl_call (f := 20) Tryd.call20 (by kernel_rfl) ?_; refine ⟨_, (plain_any _ _ mB _ B (hS.sl pl9) HNI.out HR.out (by omega) (HML.out.imp fun m h => hS.1.cell h)), ?_⟩; rintro e w ⟨hq, _⟩; obtain ⟨aq, cq, rfl, hS2⟩ := hq _ HST.out; clear hq; replace hS := hS.call1 hS2; clear hS2; refine ⟨_, rfl, ?_⟩; refine put_move ?_; go_step) | ((with_reducible apply gt9 _ (.move _)); (first | go_big_want | go_step); go_step) | ((with_reducible apply gt9 _ (.assign _)); (first | go_big_want | go_step); go_step) | ((with_reducible apply gt9 _ (.extract _ _)); (refine wvv9 (V.extract rfl rfl) ?_; go_step)) | ((fail_if_success with_reducible apply ga9); go_step))
  repeat' (first
    | ((with_reducible apply gt9 _ (.move _)); (first | go_big_want | go_step); go_step) | ((with_reducible apply gt9 _ (.assign _)); (first | go_big_want | go_step); go_step) | ((with_reducible apply gt9 _ (.pick _ _ _)); (refine wplPickT rfl (by kernel_rfl) ?_; go_step)) | ((with_reducible apply gt9 (some 37) (.binOp .eql 25 _ _ _)); (refine wplD _ (V.eql rfl rfl) (by kernel_rfl) (fun hB => ?_) (fun hB => ?_) <;> (try (have hF : False := (by omega); cases hF)) <;> go_step)) | ((with_reducible apply gt9 (some 41) (.binOp .eql 3 _ _ _)); (refine wplD _ (V.eql rfl rfl) (by kernel_rfl) (fun hB => ?_) (fun hB => ?_) <;> (try (have hF : False := (by omega); cases hF)) <;> go_step)) | ((with_reducible apply gt9 _ (.call ⟨.builtin .len, _, _⟩)); (refine wvv9 (V.len Tryd.underlying24 rfl) ?_; go_step)) | ((with_reducible apply gt9 _ (.binOp .eql 25 _ _ _)); (refine wvv9 (V.eql rfl rfl) ?_; go_step)) | ((fail_if_success with_reducible apply ga9); go_step))
  all_goals (try (have hF : False := (by omega); cases hF))
  all_goals (go_ret; exact ⟨rfl, hS.1⟩)
end Go.Proofs.YtehbjhocgnfpmaaDoor

/- The law SegPure: the frame round its walk, and the statement. -/
namespace Go.Proofs.YtehbjhocgnfpmaaDoor
open Go.ChangeShapes Go.WideShapes Go.ChangeAt Go.RowKit
set_option linter.unusedVariables false
def SegPure_args : Array Value := #[.agg #[.int .i64 0, .int .i64 0, .int .i64 0, .int .i64 0, .int .i64 0, .int .i64 0, .int .i64 0, .int .i64 0, .int .i64 0, .int .i64 0, .int .i64 0, .int .i64 0, .int .i64 0, .int .i64 0, .int .i64 0, .int .i64 0, .slice none 0 0, .int .i64 0, .int .i64 0, .int .i64 0, .int .i64 0, .int .i64 0, .int .i64 0, .int .i64 0, .int .i64 0, .int .i64 0, .int .i64 0, .int .i64 0, .int .i64 0, .int .i64 0, .int .i64 0, .int .i64 0, .int .i64 0, .slice none 0 0], .slice none 0 0]
theorem SegPure_own : ownKnob Tryd.prog.godebug = none := by kernel_rfl
theorem SegPure_laidOut : laidOutB Tryd.prog = true := by kernel_rfl
theorem SegPure_met (os : Os) (args : Array Value) : laidMetH Tryd.prog Rows.segPureRow.laid ((World.laidAll Tryd.prog os Rows.segPureRow.laid).forCall (fun _ _ => 0) ⟨#[], args, []⟩).memory := by
  rw [MakeChecks.laidMetH_plain _ _ _ (by kernel_rfl)]; exact laidMet_laidAll _ (by kernel_rfl) (by kernel_rfl)
theorem SegPure_reads (os : Os) {H : Type} (enc : TypeId × Value → H) : ∃ places, DataW.whole enc Tryd.prog ((World.laidAll Tryd.prog os Rows.segPureRow.laid).forCall (fun _ _ => 0) ⟨#[], SegPure_args, []⟩).memory Tryd.f4.params.toList Rows.segPureSpec.vars false (SegPure_args : Array Value).toList 8 = some ([.agg [.agg [.agg [.lit (.int .i64 0), .lit (.int .i64 0), .lit (.int .i64 0), .lit (.int .i64 0), .lit (.int .i64 0), .lit (.int .i64 0), .lit (.int .i64 0), .lit (.int .i64 0), .lit (.int .i64 0), .lit (.int .i64 0), .lit (.int .i64 0), .lit (.int .i64 0), .lit (.int .i64 0), .lit (.int .i64 0), .lit (.int .i64 0), .lit (.int .i64 0)], .nil], .agg [.agg [.lit (.int .i64 0), .lit (.int .i64 0), .lit (.int .i64 0), .lit (.int .i64 0), .lit (.int .i64 0), .lit (.int .i64 0), .lit (.int .i64 0), .lit (.int .i64 0), .lit (.int .i64 0), .lit (.int .i64 0), .lit (.int .i64 0), .lit (.int .i64 0), .lit (.int .i64 0), .lit (.int .i64 0), .lit (.int .i64 0), .lit (.int .i64 0)], .nil]], .nil], [], places) :=
  ⟨[], by kernel_rfl⟩
set_option maxRecDepth 100000 in
theorem SegPure_lifted (os : Os) (started : os.Started) (H : Type) (enc : TypeId × Value → H) (F : Stop.Interp) :
    ReturnsInHanded {} Tryd.checked os 4 .any ((OpenSpec.ofChange Rows.segPureSpec).preRow enc Tryd.prog Tryd.f4 Rows.segPureRow.domain false Rows.segPureRow.laid) (((OpenSpec.ofChange Rows.segPureSpec).at F).post enc Tryd.prog Tryd.f4 false true false false) := by
  obtain ⟨places, hx⟩ := SegPure_reads os enc
  have hok : Input.okWideB Tryd.prog ((World.laidAll Tryd.prog os Rows.segPureRow.laid).forCall (fun _ _ => 0) ⟨#[], SegPure_args, []⟩) 4 ⟨#[], SegPure_args, []⟩ = true := by kernel_rfl
  refine returnsInHanded_of_row (C := Tryd.checked) (s := OpenSpec.ofChange Rows.segPureSpec) SegPure_own started (by kernel_rfl) Tryd.func4
    ⟨(World.laidAll Tryd.prog os Rows.segPureRow.laid), fun _ _ => 0, ⟨#[], SegPure_args, []⟩, World.laidAll_os _ _ _, World.shaped_of_ZipB (by kernel_rfl) (by kernel_rfl), (Input.okWide_of_okWideB (base := 0) hok).1, (Input.okWide_of_okWideB hok).2,
      OpenSpec.preRow_of_cond 8 hx (by kernel_rfl) (fun k hk => by cases hk) (by kernel_rfl) (SegPure_met os _), by
      simp only [Assume.holds]
      exact ⟨by simp, by simp, by simp, by simp, by simp⟩⟩ ?_
  intro W base args ds gs before hval0 hW _ hk _ hL hsh _
  have hval : ∀ (j : Nat) t v, Tryd.f4.params[j]? = some t → args[j]? = some v → Value.okWide Tryd.prog W .any base t v := hval0
  have hW' := hW
  obtain ⟨p, q, hA0, hV, rfl, hfz, hnd⟩ := hW
  have hA : DataW.TrodAll enc Tryd.prog W 0 (fun _ => true) true Tryd.f4.params.toList args.toList ds p := hA0
  rw [Tryd.params4] at hA hval
  obtain ⟨v0, vs0, d0, ds0, p0, q0, hargs, rfl, rfl, h0, r0⟩ := trodAll_cons hA
  obtain ⟨v1, vs1, d1, ds1, p1, q1, rfl, rfl, rfl, h1, r1⟩ := trodAll_cons r0
  obtain ⟨rfl, rfl, rfl⟩ := trodAll_nil r1
  obtain rfl : args = #[v0, v1] := by cases args; simp_all
  obtain ⟨rfl, rfl⟩ := trodVars_none hV
  have lt0 : ∀ x ∈ p0, x.block < W.heap.size := by obtain ⟨m, hm⟩ := h0; exact DataW.trod_lt m _ _ _ hm
  have lt1 : ∀ x ∈ p1, x.block < W.heap.size := by obtain ⟨m, hm⟩ := h1; exact DataW.trod_lt m _ _ _ hm
  refine (SegPure_walk W (hval 0 33 v0 rfl rfl) h0 lt0 (hval 1 22 v1 rfl rfl) h1 lt1 hsh).mono fun e W' ⟨he, bel⟩ => ?_
  subst he
  exact ⟨_, rfl, _, _, _, [], _, [], hW', trodAll_mk1 (shut_bool Tryd.underlying4 _), (trodAll_cons_mk (Below.trod SegPure_laidOut (by kernel_rfl) (of_decide_eq_true (by kernel_rfl)) h0 bel lt0) (trodAll_cons_mk (Below.trod SegPure_laidOut (by kernel_rfl) (of_decide_eq_true (by kernel_rfl)) h1 bel lt1) trodAll_mk0)), rfl, bel.frame _, fun h => by cases h⟩
/-- The row. -/
theorem SegPure_said : Rows.SegPureSaid :=
  OpenClaim.holds_of_cond 4 Tryd.f4 rfl rfl rfl rfl rfl rfl rfl ⟨rfl, rfl, rfl, rfl, rfl⟩ rfl rfl rfl rfl rfl (by kernel_rfl) Tryd.func4 (by kernel_rfl)
    (of_decide_eq_true (by kernel_rfl)) (by unfold Func.isWrapper; rw [if_neg (by decide +kernel)]; exact ⟨rfl, rfl⟩)
    (fun os started H enc _ F => by rw [OpenClaim.pre_eq_preRow]; exact SegPure_lifted os started H enc F)
theorem SegPure_plainly (f : FuncId) (fn : Func) (hf : Tryd.pinned.checked.prog.funcNamed "mezzotint/mezzotintkeep.SegPure" = some f) (hfn : Tryd.pinned.checked.prog.funcs[f]? = some fn) :
    false = Tryd.pinned.checked.prog.looks [] ∧ ∀ (j : Nat) t, fn.params[j]? = some t → Tryd.pinned.checked.prog.wantsStandIn t = false := by
  obtain rfl : f = 4 := Option.some.inj ((show Tryd.prog.funcNamed "mezzotint/mezzotintkeep.SegPure" = some 4 by kernel_rfl).symm.trans hf) |>.symm
  obtain rfl : fn = Tryd.f4 := (Option.some.inj (Tryd.func4.symm.trans hfn)).symm
  refine ⟨by kernel_rfl, fun j t ht => ?_⟩
  rw [Tryd.params4] at ht
  have hm : t ∈ ([33, 22] : List Nat) := by simpa using Array.mem_of_getElem? ht
  have hall : (([33, 22] : List Nat).all fun u => !Tryd.prog.wantsStandIn u) = true := by kernel_rfl
  exact (show Tryd.prog.wantsStandIn t = false by simpa using List.all_eq_true.1 hall t hm)
/-- The card. -/
theorem SegPure_proved : Rows.SegPureCardSaid :=
  Claim7.holds_tied_plain_at .later [] _ _ _ _ SegPure_said (fun _ h => by cases h) (by kernel_rfl) (fun _ h => by cases h) segPure_row_tie rfl ⟨rfl, rfl⟩ (by kernel_rfl) rfl SegPure_plainly (by kernel_rfl)
end Go.Proofs.YtehbjhocgnfpmaaDoor
