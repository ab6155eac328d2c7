/- The law ScanOne: what its proof needs, part 6. -/
import Derived.Test.YtehbjhocgnfpmaaDoorScanOneZ5
import Derived.Test.YtehbjhocgnfpmaaDoorProg
import Derived.ProofKit
import Derived.OpenShut
import Derived.ChangeOld
import Derived.Deep.Slices
import Derived.Test.YtehbjhocgnfpmaaDoorRows
import Derived.Test.YtehbjhocgnfpmaaDoorCards
import Derived.Test.YtehbjhocgnfpmaaDoorTie
import Derived.Deep.DeepHandedRow
import Derived.Lay
import Derived.SevenTiedAt
/- The closed fact on segments. -/
namespace Go.Proofs.YtehbjhocgnfpmaaDoor
open Go.RowKit
set_option maxRecDepth 100000
set_option linter.unusedVariables false
theorem cnt_one (a : Nat) (f : Nat → Int) : ∀ n, isum (fun s => (if s = a then 1 else 0) * f s) (List.range n) = if a < n then f a else 0
 | 0 => by simp [isum]
 | n + 1 => by
  have ih := cnt_one a f n
  unfold isum at ih ⊢
  rw [List.range_succ, List.map_append, List.sum_append, ih]
  simp only [List.map_cons, List.map_nil, List.sum_cons, List.sum_nil]
  by_cases h : n = a
  · subst h; simp
  · rw [if_neg h]
    by_cases h2 : a < n
    · rw [if_pos h2, if_pos (by omega)]; simp
    · rw [if_neg h2, if_neg (by omega)]; simp
theorem one_cost (a : Nat) (ha : a < 256) (f : Int → Nat) : costL (cnt [(a : Int)]) 256 f = f (a : Int) := by
 have h := cnt_one a (fun s => ((f (s : Int) : Nat) : Int)) 256
 rw [if_pos ha] at h
 rw [← h]
 unfold costL isum
 congr 1
 refine List.map_congr_left fun s hs => ?_
 rw [cnt_nth _ (List.mem_range.1 hs), List.count_singleton]
 by_cases e : s = a
 · subst e; simp
 · rw [if_neg e, if_neg (by simp; omega)]; simp
theorem one_pos (a : Nat) (ha : a < 256) (s : Int) : s ∈ posL (cnt [(a : Int)]) 256 ↔ s = a := by
 rw [posL_mem]
 constructor
 · rintro ⟨h1, h2, h3⟩
   rw [cnt_nth _ (by omega), List.count_singleton] at h3
   by_cases e : (((s.toNat : Nat) : Int)) = (a : Int)
   · omega
   · rw [if_neg (by simp; omega)] at h3; simp at h3
 · rintro rfl
   refine ⟨by omega, by omega, ?_⟩
   rw [cnt_nth _ (by omega), List.count_singleton]
   simp
theorem one_posL (a : Nat) (ha : a < 256) : posL (cnt [(a : Int)]) 256 = [(a : Int)] := by
 have h1 := one_pos a ha
 have h2 : (posL (cnt [(a : Int)]) 256).Nodup := by
  unfold posL
  exact List.Pairwise.map (R := fun a b => a ≠ b) _ (fun x y h e => h (by omega)) (List.Pairwise.filter _ List.nodup_range)
 generalize posL (cnt [(a : Int)]) 256 = P at h1 h2
 match P, h1, h2 with
 | [], h1, _ => exact absurd ((h1 a).2 rfl) (by simp)
 | [x], h1, _ => rw [(h1 x).1 (by simp)]
 | x :: y :: r, h1, h2 =>
  have e1 := (h1 x).1 (by simp)
  have e2 := (h1 y).1 (by simp)
  rw [e1, e2] at h2
  simp at h2
theorem one_word {a : Nat} (ha : a < 256) {C S : List Int} (h : Mk (cnt [(a : Int)]) 256 C S) : symW (wds C S) (a : Int) = some (1, 0) := by
 have hp := one_posL a ha
 have hb := h.best (fun _ => 1) ⟨by rw [hp]; intro s hs; exact ⟨Nat.le_refl _, by decide⟩, by rw [hp]; simp [nsum]⟩
 rw [one_cost a ha, one_cost a ha] at hb
 have ht := h.lens.top a (by rw [hp]; simp)
 have hG := wds_good h.ok
 unfold lw at hb ht
 cases hs : symW (wds C S) (a : Int) with
 | none => rw [hs] at ht; simp at ht
 | some y =>
  obtain ⟨m, cd⟩ := y
  rw [hs] at hb ht
  dsimp only at hb ht
  obtain rfl : m = 1 := by omega
  have := hG.long _ (symW_mem hs)
  dsimp only at this
  obtain rfl : cd = 0 := by omega
  rfl
def blk3 : List Int := (List.replicate 64 0).set 0 3
theorem blk3_len : blk3.length = 64 := by unfold blk3; rw [List.length_set, List.length_replicate]
theorem blk3_fr : frF blk3 (pts 1 0) = [2] ∧ frR blk3 (pts 1 0) = [0] := by decide +kernel
theorem blk3_ok : blkE blk3 1 = 0 := by decide +kernel
theorem blk3_tk : tfl blk3 0 1 = [((2, 2, 3), true), ((0, 0, 0), false)] := by decide +kernel
theorem blk3_b : bE (cnt [2]) = 0 ∧ bE (cnt [0]) = 0 := by decide +kernel
theorem blk3_enc {C1 S1 C2 S2 : List Int} (h1 : Mk (cnt [2]) 256 C1 S1) (h2 : Mk (cnt [0]) 256 C2 S2) : segE C1 S1 C2 S2 blk3 1 = 0 ∧ (segB C1 S1 C2 S2 blk3 1).length = 1 := by
 have w1 := one_word (a := 2) (by decide) h1
 have w2 := one_word (a := 0) (by decide) h2
 have hw : words (wds C1 S1) (wds C2 S2) (tfl blk3 0 1) := by
  rw [blk3_tk]
  intro x hx
  simp only [List.mem_cons, List.not_mem_nil, or_false] at hx
  rcases hx with rfl | rfl
  · show (symW (wds C1 S1) 2).isSome = true
    rw [show (2 : Int) = ((2 : Nat) : Int) from rfl, w1]; rfl
  · show (symW (wds C2 S2) 0).isSome = true
    rw [show (0 : Int) = ((0 : Nat) : Int) from rfl, w2]; rfl
 have he := enc_all (wds C1 S1) (wds C2 S2) (tfl blk3 0 1) [] hw
 have hbits : (tfl blk3 0 1).flatMap (tkBits (wds C1 S1) (wds C2 S2)) = [false, true, true, false] := by
  rw [blk3_tk]
  simp only [List.flatMap_cons, List.flatMap_nil]
  have e1 : wb (wds C1 S1) 2 = [false] := by unfold wb; rw [show (2 : Int) = ((2 : Nat) : Int) from rfl, w1]; rfl
  have e2 : wb (wds C2 S2) 0 = [false] := by unfold wb; rw [show (0 : Int) = ((0 : Nat) : Int) from rfl, w2]; rfl
  unfold tkBits
  dsimp only
  rw [if_pos rfl, if_neg (by decide), e1, e2]
  rfl
 have ht : tbE C1 S1 C2 S2 = 0 := by unfold tbE; rw [if_pos h1.ok]; exact h2.ok
 have h0 : segE C1 S1 C2 S2 blk3 1 = 0 := by unfold segE; rw [if_pos ht, if_pos blk3_ok, he]
 refine ⟨h0, ?_⟩
 unfold segB segBits
 rw [if_pos h0, he, hbits]
 rfl
set_option maxHeartbeats 8000000 in
theorem blocked_any (w0 : World) : Calls Tryd.prog 15 #[] w0 fun e w => e = .returned (.bool true) ∧ Ext w0 w := by
 have hS := St.start w0
 have HL := hid blk3_len
 go_enter Tryd.func15, Tryd.ntmps15
 repeat' (first
  | ((with_reducible refine gs9 7 ?_); refine wl9 ?_; refine wp_buildSlice1 (o := ⟨some 7, _, _, _, _, _⟩) hS 22 1 _ rfl 52 64 512 el22 _ _ (Parts.agg (l := blk3.map (Value.int .i64)) rfl (by rw [List.length_map]; exact HL.out) Parts.nil) rfl (by decide) (by decide) ?_; clear hS; intro g7 w hS; rw [List.append_nil] at hS; have hsl7 := hS.slBlk (n := 1) (s := 64) Pull.head (by rw [List.length_map]; exact HL.out) (by decide); refine put_move ?_; go_step) | ((with_reducible refine gs9 10 ?_); refine wpl_call (f := 22) Tryd.call22 kr9 ?_; refine ⟨_, (fitting_any _ (some ⟨g7, 0, none⟩) 1 1 blk3 0 (by decide) (by decide) hsl7), ?_⟩; rintro e w ⟨C1, S1, C2, S2, a1, a2, m1, k1, m2, k2, b, hC1, hC2, hm1, hm2, hb1, hb2, ht1, ht2, hM1, hM2, hb, rfl, hS2⟩; rw [blk3_fr.1] at hM1 hb; rw [blk3_fr.2] at hM2 hb; obtain rfl : b = true := hb.2 blk3_b; have HK := hid (blk3_enc (hM1 blk3_b.1) (hM2 blk3_b.2)); replace hS := call_two hS hS2; clear hS2 hM1 hM2 hb ht1 ht2; refine ⟨_, rfl, ?_⟩; refine put_move ?_; go_step) | ((with_reducible refine gs9 16 ?_); refine wpl_call (f := 18) Tryd.call18 kr9 ?_; refine ⟨_, (segEncode_any _ C1 C2 S1 S2 a1 a2 m1 m2 k1 k2 hC1 hC2 (hS.sl pl9) (hS.sl pl9) (by omega) (by omega) (some ⟨g7, 0, none⟩) 1 1 blk3 (by decide) (by have hx := hS.slBlk (n := 1) (s := 64) (cs := blk3.map (Value.int .i64)) pl9 (by rw [List.length_map]; exact HL.out) (by decide); exact hx)), ?_⟩; rintro e w ⟨ao, co, mo, hmo, rfl, hS2⟩; rw [HK.out.1]; rw [HK.out.2] at hmo; subst hmo; replace hS := hS.call1 hS2; clear hS2; refine ⟨_, rfl, ?_⟩; refine put_move ?_; go_step) | (refine y91 ?_) | ((with_reducible refine gs9 6 ?_); (refine wvv9 (V.build (vs := [(0, _)]) rfl (bl52_0 _)) ?_; go_step)) | (refine y9105 ?_) | ((with_reducible refine gs9 2 ?_); (refine wl9 ?_; apply wp_allocP (o := ⟨some 2, _, _, _, _, _⟩) hS 33 rfl _ zp33; clear hS; intro g2 w hS; refine put_move ?_; go_step)) | ((with_reducible refine gt9 _ (.store 33 _ _) ?_); (refine wl9 ?_; apply wp_storePP hS 33 _ _ rfl _ rfl 34 (row_of rfl) _ _; (case hp => exact pl9); (case hy => rfl); (case hn => (repeat (first | exact Pre.nil | (apply Pre.ints; (case hn => (first | (with_reducible assumption) | exact Len.rep | exact Len.set (by with_reducible assumption) | exact Len.set Len.rep | exact Len.set (Len.set Len.rep))); (case h => omega); (case hm => rfl)) | apply Pre.val))); (case hn' => (repeat (first | exact Pre.nil | (apply Pre.ints; (case hn => (first | (with_reducible assumption) | exact Len.rep | exact Len.set (by with_reducible assumption) | exact Len.set Len.rep | exact Len.set (Len.set Len.rep))); (case h => omega); (case hm => rfl)) | apply Pre.val))); (case hv => rfl); (case hd => exact rfl); clear hS; intro w hS)) | (refine y9127 ?_) | ((fail_if_success with_reducible refine ga9 ?_); go_step))
 repeat' (first
  | (refine y91 ?_) | (refine y9140 ?_) | ((with_reducible refine gs9 22 ?_); (refine wplD _ (V.eql rfl rfl) kr9 (fun hB => ?_) (fun hB => ?_) <;> (try (have hF : False := (by omega); cases hF)) <;> go_step)) | (refine y9101 ?_) | (refine y986 ?_) | ((fail_if_success with_reducible refine ga9 ?_); go_step))
 all_goals (try (have hF : False := (by omega); cases hF))
 all_goals (go_ret; exact ⟨rfl, hS.1⟩)

def BSl (w : World) (v : Value) (xs : List Int) : Prop := Sl w 1 v xs.length (xs.map (Value.int .u8))
theorem BSl.open {w : World} {v : Value} {xs : List Int} (h : BSl w v xs) : ∃ a c, v = .slice a xs.length c ∧ xs.length ≤ c ∧ c ≤ 9223372036854775807 ∧
 (∀ i, i < xs.length → ∃ b off, a = some ⟨b, off, none⟩ ∧ ∀ k, k < xs.length → w.cell? ⟨b, off + k, none⟩ = some (.int .u8 (nth xs k))) := by
 obtain ⟨_, a, c, hv, h1, h2, h3⟩ := h
 refine ⟨a, c, hv, h1, by unfold maxLen at h2; exact h2, fun i hi => ?_⟩
 rcases h3 with h3 | ⟨b, off, ha, hc⟩
 · omega
 · refine ⟨b, off, ha, fun k hk => ?_⟩
   rw [hc k (by omega), List.getElem?_map, List.getElem?_eq_getElem hk]
   simp [nth, List.getD, List.getElem?_eq_getElem hk]
set_option maxHeartbeats 1000000 in
theorem eqByte_any (w : World) (va vb : Value) (xs ys : List Int) (ha : BSl w va xs) (hb : BSl w vb ys) :
 Calls Tryd.prog 26 #[va, vb] w fun e w' => e = .returned (.bool (decide (xs = ys))) ∧ w = w' := by
 obtain ⟨a, c, rfl, hc1, hc2, ha⟩ := ha.open
 obtain ⟨b, d, rfl, hd1, hd2, hb⟩ := hb.open
 by_cases hl : xs.length = ys.length
 · have hl' : ((xs.length : Int) != (ys.length : Int)) = false := by simp [hl]
   have HL := hid hl
   clear hl
   go_enter Tryd.func26, Tryd.ntmps26
   go_wp2_with fail
   go_loopg [14] xs.length (fun gk xv wr => ∃ (i : Nat), gk + i = xs.length ∧ xv = .int .i64 i ∧ xs.take i = ys.take i ∧ wr = w)
   case atStart => exact ⟨0, rfl, rfl, rfl, rfl⟩
   case round =>
    obtain ⟨i, hi, rfl, hpre, rfl⟩ := hrel
    have hi' : i ≤ xs.length := by omega
    have HI := hid hi
    have HP := hid hpre
    clear hi hpre
    by_cases hlt : i < xs.length
    · obtain ⟨ba, oa, rfl, hca⟩ := ha i hlt
      have hlt2 : i < ys.length := by have := HL.out; omega
      obtain ⟨bb, ob, rfl, hcb⟩ := hb i hlt2
      have h1 := hca i hlt
      have h2 := hcb i hlt2
      clear ha hb hca hcb
      by_cases he : nth xs i = nth ys i
      · have h3 : (nth xs i != nth ys i) = false := by simp [he]
        have HT := hid (take_eq_succ xs ys i hlt hlt2 HP.out he)
        clear he
        have HM : Hid (gk - 1 + (i + 1) = xs.length) := by have := HI.out; unfold Hid; omega
        have HG : Hid (gk - 1 < gk) := by have := HI.out; unfold Hid; omega
        go_wp2_with fail
        go_roundg (gk - 1)
        case measure => exact HG.out
        case rel => exact ⟨i + 1, HM.out, by go_num, HT.out, rfl⟩
      · have h3 : (nth xs i != nth ys i) = true := by simp [he]
        have HN : Hid (decide (xs = ys) = false) := by
         unfold Hid; rw [decide_eq_false_iff_not]; intro h; exact he (by rw [h])
        clear he
        go_wp2_with fail
        go_ret
        exact ⟨ret_bool HN.out.symm, rfl⟩
    · have HN : Hid (decide (xs = ys) = true) := by
       unfold Hid
       have h1 := HP.out
       have h2 := HL.out
       rw [List.take_of_length_le (by omega), List.take_of_length_le (by omega)] at h1
       simp [h1]
      clear ha hb
      go_wp2_with fail
      go_ret
      exact ⟨ret_bool HN.out.symm, rfl⟩
 · have hl' : ((xs.length : Int) != (ys.length : Int)) = true := by simp; omega
   have HN : Hid (decide (xs = ys) = false) := by
    unfold Hid; rw [decide_eq_false_iff_not]; intro h; exact hl (by rw [h])
   clear hl ha hb
   go_enter Tryd.func26, Tryd.ntmps26
   go_wp2_with fail
   go_ret
   exact ⟨ret_bool HN.out.symm, rfl⟩

end Go.Proofs.YtehbjhocgnfpmaaDoor
/- Opening the arguments of a law: what their readings say of the values and of memory. -/
namespace Go.Proofs.YtehbjhocgnfpmaaDoor
open Go.ChangeShapes Go.WideShapes Go.ChangeAt Go.RowKit
theorem op_int {H : Type} {enc : TypeId × Value → H} {P : Program} {W : World} {base : Nat} {t : TypeId} {v : Value} {d : DataW H} {p : List MemPlace} (ht : P.underlying t = some (.int .i64))
 (ho : Value.okWide P W .any base t v) (h : DataW.Trod enc P W 0 (fun _ => true) true t v d p) : ∃ n : Int, v = .int .i64 n ∧ -9223372036854775808 ≤ n ∧ n ≤ 9223372036854775807 := by
 obtain ⟨n, rfl, rfl, rfl, wn⟩ := open_int ht ho h
 refine ⟨n, rfl, ?_⟩
 have h := wn
 simp only [Lit.wf, Bool.and_eq_true, decide_eq_true_eq] at h
 have h1 : IntKind.i64.min = -9223372036854775808 := rfl
 have h2 : IntKind.i64.max = 9223372036854775807 := rfl
 omega

end Go.Proofs.YtehbjhocgnfpmaaDoor
/- Opening slices of whatever is made of integers alone: numbers, arrays of them, structs of them. -/
namespace Go.Proofs.YtehbjhocgnfpmaaDoor
open Go.ChangeShapes Go.WideShapes Go.ChangeAt Go.RowKit Go.Deep
def allInts (P : Program) (k : IntKind) : Nat → TypeId → Bool
 | 0, _ => false
 | d + 1, t => match P.underlying t with
  | some (.int k') => decide (k' = k) && P.cellsOf t == 1
  | some (.array n e) => allInts P k d e && P.cellsOf t == n * P.cellsOf e
  | some (.struct fs) => fs.toList.all (fun f => allInts P k d f.type) && (List.range (P.cellsOf t)).all fun j => fs.toList.any fun f => decide (f.offset ≤ j) && decide (j < f.offset + P.cellsOf f.type)
  | _ => false
theorem trod_ints {H : Type} {enc : TypeId × Value → H} {P : Program} {W : World} {base : Nat} {sp : Nat → Bool} {held : Bool} (k : IntKind) : ∀ (d : Nat) (t : TypeId), allInts P k d t = true → ∀ (fuel : Nat) (cs : List Value) (x : DataW H × List MemPlace),
 DataW.trod enc P W base sp held fuel t cs = some x → cs.length = P.cellsOf t ∧ ∀ j, j < cs.length → ∃ n, cs[j]? = some (.int k n) ∧ (Lit.int k n).wf = true := by
 intro d
 induction d with
 | zero => intro t h; simp [allInts] at h
 | succ d ih =>
  intro t ht fuel cs x h
  unfold allInts at ht
  split at ht
  · rename_i k' hu
    simp only [Bool.and_eq_true, decide_eq_true_eq, beq_iff_eq] at ht
    obtain ⟨rfl, hc⟩ := ht
    obtain ⟨n, rfl, _, hw⟩ := DataW.trod_int hu h
    refine ⟨by simp [hc], fun j hj => ?_⟩
    obtain rfl : j = 0 := by simp at hj; omega
    exact ⟨n, rfl, hw⟩
  · rename_i n e hu
    simp only [Bool.and_eq_true, beq_iff_eq] at ht
    obtain ⟨he, hc⟩ := ht
    obtain ⟨xs, m, _, _, hl, hxl, hf⟩ := DataW.trod_array hu h
    refine ⟨hl, fun j hj => ?_⟩
    rw [hl, hc] at hj
    have hcp : 0 < P.cellsOf e := by
     rcases Nat.eq_zero_or_pos (P.cellsOf e) with h0 | h0
     · rw [h0] at hj; simp at hj
     · exact h0
    have hjn : j / P.cellsOf e < n := by rw [Nat.div_lt_iff_lt_mul hcp]; exact hj
    have hfe := hf (j / P.cellsOf e) hjn
    rw [List.getElem?_eq_getElem (by omega)] at hfe
    obtain ⟨hl2, hv⟩ := ih e he m _ _ hfe
    have hm := Nat.mod_lt j hcp
    obtain ⟨v, hv1, hv2⟩ := hv (j % P.cellsOf e) (by rw [hl2]; exact hm)
    refine ⟨v, ?_, hv2⟩
    rw [List.getElem?_take, if_pos hm, List.getElem?_drop] at hv1
    rwa [show j / P.cellsOf e * P.cellsOf e + j % P.cellsOf e = j by rw [Nat.mul_comm]; exact Nat.div_add_mod j _] at hv1
  · rename_i fs hu
    simp only [Bool.and_eq_true] at ht
    obtain ⟨he, hc⟩ := ht
    obtain ⟨xs, m, _, _, hl, hxl, hf⟩ := DataW.trod_struct hu h
    refine ⟨hl, fun j hj => ?_⟩
    rw [List.all_eq_true] at he hc
    have h1 := hc j (List.mem_range.2 (by omega))
    rw [List.any_eq_true] at h1
    obtain ⟨f, hfm, h1⟩ := h1
    simp only [Bool.and_eq_true, decide_eq_true_eq] at h1
    obtain ⟨i, hi, hfi⟩ := List.getElem_of_mem hfm
    have hi' : i < fs.size := by simpa using hi
    have hfe := hf i f (by rw [Array.getElem?_eq_getElem hi']; simpa using hfi)
    rw [List.getElem?_eq_getElem (by omega)] at hfe
    obtain ⟨hl2, hv⟩ := ih f.type (he f hfm) m _ _ hfe
    obtain ⟨v, hv1, hv2⟩ := hv (j - f.offset) (by rw [hl2]; omega)
    refine ⟨v, ?_, hv2⟩
    rw [List.getElem?_take, if_pos (by omega), List.getElem?_drop, show f.offset + (j - f.offset) = j by omega] at hv1
    exact hv1
  · cases ht
theorem op_slice_t {H : Type} {enc : TypeId × Value → H} {P : Program} {W : World} {t e : TypeId} {v : Value} {x : DataW H × List MemPlace} {fuel : Nat} (k : IntKind) (ht : P.underlying t = some (.slice e)) (dp : Nat) (he : allInts P k dp e = true)
 (s : Nat) (hs : P.cellsOf e = s) (hs0 : 0 < s) (h : DataW.trod enc P W 0 (fun _ => true) true fuel t [v] = some x) :
 ∃ (n : Nat) (ns : List Int), ns.length = n * s ∧ Sl W s v n (ns.map (Value.int k)) ∧ ∀ i, i < ns.length → (Lit.int k (nth ns i)).wf = true := by
 rcases open_slice ht h with ⟨h0, _⟩ | ⟨a, len, cap, m, n, D, Pl, hcs, hb, hl, hm, hmm, _, hx⟩
 · obtain rfl : v = .slice none 0 0 := by simpa using h0
   exact ⟨0, [], by simp, Sl.nil W s, fun i hi => by simp at hi⟩
 · obtain rfl : v = .slice (some a) len cap := by simpa using hcs
   have hmc : m = cap := by simpa using hmm
   subst hmc
   have each : ∀ i, i < len * s → ∃ q : Int, W.cell? (a.add i) = some (.int k q) ∧ (Lit.int k q).wf = true := by
    intro i hi
    have hsp : 0 < s := by
     rcases Nat.eq_zero_or_pos s with h0 | h0
     · rw [h0] at hi; simp at hi
     · exact h0
    have hil : i / s < len := by rw [Nat.div_lt_iff_lt_mul hsp]; exact hi
    obtain ⟨cs', h1, h2⟩ := hx (i / s) (by omega)
    rw [hs] at h1
    obtain ⟨hl3, hv3⟩ := trod_ints k dp e he _ _ _ h2
    obtain ⟨_, hl4, hc4⟩ := World.cells?_some h1
    have hm3 := Nat.mod_lt i hsp
    obtain ⟨q, hq1, hq2⟩ := hv3 (i % s) (by rw [hl4]; exact hm3)
    refine ⟨q, ?_, hq2⟩
    rw [← hq1, ← hc4 (i % s) hm3, Go.Deep.add_add, show i / s * s + i % s = i by rw [Nat.mul_comm]; exact Nat.div_add_mod i _]
   obtain ⟨f, hf⟩ := choose_lt each
   refine ⟨len, (List.range (len * s)).map f, by simp, ⟨by simp, some a, m, rfl, hl, hm, ?_⟩, ?_⟩
   · rcases Nat.eq_zero_or_pos (len * s) with h0 | h0
     · rcases Nat.eq_zero_or_pos len with h1 | h1
       · exact .inl h1
       · exact absurd h0 (by have := Nat.mul_pos h1 hs0; omega)
     · refine .inr ?_
       have hc0 := (hf 0 h0).1
       have hspot : a.spot = none := by
        rw [show a.add 0 = a from rfl] at hc0
        unfold World.cell? at hc0
        split at hc0
        · split at hc0
          · cases hc0
          · rename_i hh; simpa using hh
        · cases hc0
       refine ⟨a.block, a.off, by cases a; simp at hspot; simp [hspot], fun i hi => ?_⟩
       have hci := (hf i hi).1
       have haddr : a.add i = ⟨a.block, a.off + i, none⟩ := by
        unfold Addr.add
        split
        · rename_i h0; subst h0; cases a; simp at hspot; simp [hspot]
        · rfl
       rw [haddr] at hci
       rw [hci]
       simp [hi]
   · intro i hi
     have hi' : i < len * s := by simpa using hi
     have := (hf i hi').2
     simpa [nth, List.getD, hi'] using this
theorem op_slice {H : Type} {enc : TypeId × Value → H} {P : Program} {W : World} {t e : TypeId} {v : Value} {d : DataW H} {p : List MemPlace} (k : IntKind) (ht : P.underlying t = some (.slice e)) (dp : Nat) (he : allInts P k dp e = true)
 (s : Nat) (hs : P.cellsOf e = s) (hs0 : 0 < s) {base : Nat} (ho : Value.okWide P W .any base t v) (h : DataW.Trod enc P W 0 (fun _ => true) true t v d p) :
 ∃ (n : Nat) (ns : List Int), ns.length = n * s ∧ Sl W s v n (ns.map (Value.int k)) ∧ ∀ i, i < ns.length → (Lit.int k (nth ns i)).wf = true := by
 obtain ⟨fuel, h⟩ := h
 have hvc : v.cells.toList = [v] := by
  unfold Value.okWide at ho
  rw [ht] at ho
  dsimp only at ho
  unfold Cell.okWide at ho
  rw [ht] at ho
  dsimp only at ho
  unfold Cell.ok at ho
  rw [ht] at ho
  cases v <;> first | rfl | exact absurd ho (by simp)
 rw [hvc] at h
 exact op_slice_t k ht dp he s hs hs0 h

end Go.Proofs.YtehbjhocgnfpmaaDoor
/- Tables that came in. -/
namespace Go.Proofs.YtehbjhocgnfpmaaDoor
set_option maxRecDepth 100000
open Go.ChangeShapes Go.WideShapes Go.ChangeAt Go.RowKit Go.Deep
set_option linter.unusedVariables false

end Go.Proofs.YtehbjhocgnfpmaaDoor
/- Two tables that came in; blocks that came in. -/
namespace Go.Proofs.YtehbjhocgnfpmaaDoor
open Go.ChangeShapes Go.WideShapes Go.ChangeAt Go.RowKit Go.Deep
set_option maxRecDepth 100000
set_option linter.unusedVariables false
theorem op_blocks {H : Type} {enc : TypeId × Value → H} {W : World} {v : Value} {d : DataW H} {p : List MemPlace} {base : Nat} (ho : Value.okWide Tryd.prog W .any base 22 v) (h : DataW.Trod enc Tryd.prog W 0 (fun _ => true) true 22 v d p) :
 ∃ (n : Nat) (l : List Int) (ad : Option Addr) (c : Nat), l.length = n * 64 ∧ v = .slice ad n c ∧ n ≤ c ∧ c ≤ 9223372036854775807 ∧ Sl W 64 (.slice ad n c) n (l.map (Value.int .i64)) := by
 obtain ⟨n, ns, hnl, hv, hw⟩ := op_slice .i64 Tryd.underlying22 2 kr9 64 kr9 (by omega) ho h
 obtain ⟨ad, c, rfl, hnc, hcm⟩ : ∃ ad c, v = .slice ad n c ∧ n ≤ c ∧ c ≤ 9223372036854775807 := by
  obtain ⟨_, ad, c, h1, h2, h3, _⟩ := hv
  exact ⟨ad, c, h1, h2, by unfold maxLen at h3; exact h3⟩
 exact ⟨n, ns, ad, c, hnl, rfl, hnc, hcm, hv⟩

end Go.Proofs.YtehbjhocgnfpmaaDoor
/- The law ScanOne: its walk, and the statement. -/
namespace Go.Proofs.YtehbjhocgnfpmaaDoor
open Go.ChangeShapes Go.WideShapes Go.ChangeAt Go.RowKit
set_option maxRecDepth 100000
set_option linter.unusedVariables false
theorem one_seg {C1 S1 C2 S2 l : List Int} {n ev : Nat} (hl : l.length = n * 64) (hn : 0 < n) (hb : blkE l n = 0) (h1 : Mk (cnt (syF l n)) 256 C1 S1) (h2 : Mk (cnt (syR l n)) 256 C2 S2) (he : n ≤ ev ∧ ev ≤ 100) :
 ∃ B, segE C1 S1 C2 S2 l n = 0 ∧ segB C1 S1 C2 S2 l n = B ∧ scEn C1 S1 C2 S2 l n 0 = (0, B) ∧ scEn C1 S1 C2 S2 l n ev = (0, B) ∧ 0 < B.length ∧ B.length ≤ 300000 ∧ (∀ x ∈ B, 0 ≤ x ∧ x < 256) ∧ ∀ q, q < B.length → (scD C1 S1 C2 S2 (B.take q) n ev).1 ≠ 0 := by
 have hw := mk_words hl h1 h2
 have ht : tbE C1 S1 C2 S2 = 0 := by unfold tbE; rw [if_pos h1.ok]; exact h2.ok
 have h0 : segE C1 S1 C2 S2 l n = 0 := by unfold segE; rw [if_pos ht, if_pos hb, enc_all _ _ _ [] hw]
 obtain ⟨cc, hcc, e1, e2⟩ := segB_st2 hl h0
 refine ⟨_, h0, rfl, scEn_one (every := 0) hl (.inl rfl) (by omega) hn ht hb h0, scEn_one hl (.inr he.1) he.2 hn ht hb h0, segB_pos hl hn h0 ht hb hw, e2, by rw [e1]; exact stf_rn2 hcc, fun q hq => scD_one (.inr he.1) hn (cut_not hl h0 hq)⟩
theorem one_cut {w : World} {a : Option Addr} {m c q : Nat} {B : List Int} (h : Sl w 1 (.slice a m c) m (B.map (Value.int .u8))) (hq : q ≤ m) : Sl w 1 (.slice (cutAt a c 0 1) (q - 0) (c - 0)) (q - 0) ((B.take q).map (Value.int .u8)) := by
 have h9 := h.cutAt 0 q (by omega) hq
 have e : ((B.map (Value.int .u8)).drop (0 * 1)).take ((q - 0) * 1) = (B.take q).map (Value.int .u8) := by rw [Nat.zero_mul, List.drop_zero, Nat.sub_zero, Nat.mul_one, List.map_take]
 rw [e] at h9
 exact h9
set_option maxHeartbeats 8000000 in
theorem ScanOne_walk {H : Type} {enc : TypeId × Value → H} {d0 d1 d2 : DataW H} {p0 p1 p2 : List MemPlace} {v0 v1 v2 : Value} {base : Nat} (W : World)
 (o0 : Value.okWide Tryd.prog W .any base 22 v0) (h0 : DataW.Trod enc Tryd.prog W 0 (fun _ => true) true 22 v0 d0 p0) (lt0 : ∀ x ∈ p0, x.block < W.heap.size)
 (o1 : Value.okWide Tryd.prog W .any base 3 v1) (h1 : DataW.Trod enc Tryd.prog W 0 (fun _ => true) true 3 v1 d1 p1) (lt1 : ∀ x ∈ p1, x.block < W.heap.size)
 (o2 : Value.okWide Tryd.prog W .any base 3 v2) (h2 : DataW.Trod enc Tryd.prog W 0 (fun _ => true) true 3 v2 d2 p2) (lt2 : ∀ x ∈ p2, x.block < W.heap.size)
 (hsh : W.ShapedOpen Tryd.prog) :
 Calls Tryd.prog 13 #[v0, v1, v2] W fun e w' => e = .returned (.bool true) ∧ Ext W w' := by
 obtain ⟨n, l, ad, c, hnl, rfl, hnc, hcm, hv⟩ := op_blocks o0 h0
 obtain ⟨z, rfl, hz1, hz2⟩ := op_int Tryd.underlying3 o1 h1
 obtain ⟨z2, rfl, hy1, hy2⟩ := op_int Tryd.underlying3 o2 h2
 have hml : ∃ m, W.cell? ⟨0, 0, none⟩ = some (.int .i64 m) := Tryd.laysM185.s1_3 W hsh
 have HML := hid hml
 clear o0 h0 lt0 o1 h1 lt1 o2 h2 lt2 hsh hml
 have hS := St.start W
 by_cases hE : blkE l n = 0
 case neg =>
  have HE := hid hE
  clear hE
  go_enter Tryd.func13, Tryd.ntmps13
  repeat' (first
   | ((with_reducible refine gt9 _ (.call ⟨.value (.func 15), _, _⟩) ?_); refine wpl_call (f := 15) Tryd.call15 kr9 ?_; refine ⟨_, (blocked_any _), ?_⟩; rintro e w ⟨rfl, hE⟩; replace hS := hS.ext hE; clear hE; refine ⟨_, rfl, ?_⟩; refine put_move ?_; go_step) | (refine y91 ?_) | (refine y9145 ?_) | ((fail_if_success with_reducible refine ga9 ?_); go_step))
  all_goals (try (have hF : False := (by omega); cases hF))
  repeat' (first
   | ((with_reducible refine gs9 20 ?_); refine wpl_call (f := 17) Tryd.call17 kr9 ?_; refine ⟨_, (may_any _ ad n c l (by omega) (hv.ext hS.1)), ?_⟩; rintro e w ⟨rfl, hE2⟩; rw [decide_eq_false HE.out]; replace hS := hS.ext hE2; clear hE2; refine ⟨_, rfl, ?_⟩; refine put_move ?_; go_step) | go_skip | (refine y91 ?_) | (refine y9140 ?_) | ((with_reducible refine gs9 21 ?_); (refine wplB _ (V.not rfl) kr9 (fun hB => ?_) (fun hB => ?_) <;> (try (have hF : False := (absurd hB (by decide)); cases hF)) <;> go_step)) | ((fail_if_success with_reducible refine ga9 ?_); go_step))
  all_goals (try (have hF : False := (by omega); cases hF))
  all_goals (go_ret; exact ⟨rfl, hS.1⟩)
 have HE := hid hE
 by_cases hn : 0 < n ∧ n ≤ 100
 case neg =>
  have hn2 : n = 0 ∨ 100 < n := by omega
  clear hE hn
  rcases hn2 with h | h
  all_goals
   go_enter Tryd.func13, Tryd.ntmps13
   repeat' (first
    | ((with_reducible refine gt9 _ (.call ⟨.value (.func 15), _, _⟩) ?_); refine wpl_call (f := 15) Tryd.call15 kr9 ?_; refine ⟨_, (blocked_any _), ?_⟩; rintro e w ⟨rfl, hE⟩; replace hS := hS.ext hE; clear hE; refine ⟨_, rfl, ?_⟩; refine put_move ?_; go_step) | (refine y91 ?_) | (refine y9145 ?_) | ((fail_if_success with_reducible refine ga9 ?_); go_step))
   all_goals (try (have hF : False := (by omega); cases hF))
   repeat' (first
    | ((with_reducible refine gs9 20 ?_); refine wpl_call (f := 17) Tryd.call17 kr9 ?_; refine ⟨_, (may_any _ ad n c l (by omega) (hv.ext hS.1)), ?_⟩; rintro e w ⟨rfl, hE2⟩; rw [decide_eq_true HE.out]; replace hS := hS.ext hE2; clear hE2; refine ⟨_, rfl, ?_⟩; refine put_move ?_; go_step) | go_skip | (refine y91 ?_) | (refine y9141 ?_) | ((with_reducible refine gs9 21 ?_); (refine wplB _ (V.not rfl) kr9 (fun hB => ?_) (fun hB => ?_) <;> (try (have hF : False := (absurd hB (by decide)); cases hF)) <;> go_step)) | ((with_reducible refine gs9 25 ?_); (refine wplD _ (V.eql rfl rfl) kr9 (fun hB => ?_) (fun hB => ?_) <;> (try (have hF : False := (by omega); cases hF)) <;> go_step)) | (refine y999 ?_) | (refine y988 ?_) | ((fail_if_success with_reducible refine ga9 ?_); go_step))
   all_goals (try (have hF : False := (by omega); cases hF))
   all_goals (go_ret; exact ⟨rfl, hS.1⟩)
 obtain ⟨hn0, hn1⟩ := hn
 have HL := hid hnl
 obtain ⟨r, hr⟩ : ∃ r : Nat, z % (101 - (n : Int)) = (r : Int) := ⟨(z % (101 - (n : Int))).toNat, by have := Int.emod_nonneg z (show 101 - (n : Int) ≠ 0 by omega); omega⟩
 have hr2 : (r : Int) < 101 - n := by rw [← hr]; exact Int.emod_lt_of_pos z (by omega)
 have HR := hid hr
 obtain ⟨ev, hev⟩ : ∃ ev, n + r = ev := ⟨_, rfl⟩
 have hev2 : n ≤ ev ∧ ev ≤ 100 := by omega
 have hsy := sy_len hnl n (Nat.le_refl _)
 have HB1 := hid (cnt_small (L := syF l n) (by omega))
 have HB2 := hid (cnt_small (L := syR l n) (by omega))
 have HFR := hid (fr_one l n)
 clear hE hr hsy hnl
 go_enter Tryd.func13, Tryd.ntmps13
 repeat' (first
  | ((with_reducible refine gt9 _ (.call ⟨.value (.func 15), _, _⟩) ?_); refine wpl_call (f := 15) Tryd.call15 kr9 ?_; refine ⟨_, (blocked_any _), ?_⟩; rintro e w ⟨rfl, hE⟩; replace hS := hS.ext hE; clear hE; refine ⟨_, rfl, ?_⟩; refine put_move ?_; go_step) | (refine y91 ?_) | (refine y9145 ?_) | ((fail_if_success with_reducible refine ga9 ?_); go_step))
 all_goals (try (have hF : False := (by omega); cases hF))
 repeat' (first
  | ((with_reducible refine gs9 20 ?_); refine wpl_call (f := 17) Tryd.call17 kr9 ?_; refine ⟨_, (may_any _ ad n c l (by omega) (hv.ext hS.1)), ?_⟩; rintro e w ⟨rfl, hE2⟩; rw [decide_eq_true HE.out]; replace hS := hS.ext hE2; clear hE2; refine ⟨_, rfl, ?_⟩; refine put_move ?_; go_step) | (refine y9146 ?_) | (refine y9139 ?_) | ((with_reducible refine gs9 21 ?_); (refine wplB _ (V.not rfl) kr9 (fun hB => ?_) (fun hB => ?_) <;> (try (have hF : False := (absurd hB (by decide)); cases hF)) <;> go_step)) | ((with_reducible refine gs9 25 ?_); (refine wplD _ (V.eql rfl rfl) kr9 (fun hB => ?_) (fun hB => ?_) <;> (try (have hF : False := (by omega); cases hF)) <;> go_step)) | (refine y999 ?_) | (refine y988 ?_) | ((fail_if_success with_reducible refine ga9 ?_); go_step))
 all_goals (try (have hF : False := (by omega); cases hF))
 repeat' (first
  | ((with_reducible refine gs9 38 ?_); refine wpl_call (f := 32) Tryd.call32 kr9 ?_; refine ⟨_, (rest_any z (101 - (n : Int)) _ (by omega) (by omega)), ?_⟩; rintro e w' ⟨rfl, rfl⟩; rw [HR.out]; refine ⟨_, rfl, ?_⟩; refine put_move ?_; go_step) | ((with_reducible refine gs9 39 ?_); (refine wplV (.int _ (((ev : Nat) : Int))) (V.as (V.addI rfl rfl (by omega)) (by omega)) rfl ?_; go_step)) | ((with_reducible refine gs9 42 ?_); refine wpl_call (f := 22) Tryd.call22 kr9 ?_; refine ⟨_, (fitting_any _ ad n c l 0 (by omega) (by omega) (hv.ext hS.1)), ?_⟩; rintro e w ⟨C1, S1, C2, S2, a1, a2, m1, k1, m2, k2, b, hC1, hC2, hm1, hm2, hb1, hb2, ht1, ht2, hM1, hM2, hb, rfl, hS2⟩; rw [HFR.out.1] at hM1 hb; rw [HFR.out.2] at hM2 hb; obtain rfl : b = true := hb.2 ⟨HB1.out, HB2.out⟩; have HA := hid (one_seg HL.out hn0 HE.out (hM1 HB1.out) (hM2 HB2.out) hev2); replace hS := call_two hS hS2; clear hS2 hM1 hM2 hb ht1 ht2; refine ⟨_, rfl, ?_⟩; refine put_move ?_; go_step) | (refine y91 ?_) | (refine y995 ?_) | (refine y9105 ?_) | ((with_reducible refine gs9 7 ?_); (refine wl9 ?_; apply wp_allocP (o := ⟨some 7, _, _, _, _, _⟩) hS 33 rfl _ zp33; clear hS; intro g7 w hS; refine put_move ?_; go_step)) | ((with_reducible refine gt9 _ (.store 33 _ _) ?_); (refine wl9 ?_; apply wp_storePP hS 33 _ _ rfl _ rfl 34 (row_of rfl) _ _; (case hp => exact pl9); (case hy => rfl); (case hn => (repeat (first | exact Pre.nil | (apply Pre.ints; (case hn => (first | (with_reducible assumption) | exact Len.rep | exact Len.set (by with_reducible assumption) | exact Len.set Len.rep | exact Len.set (Len.set Len.rep))); (case h => omega); (case hm => rfl)) | apply Pre.val))); (case hn' => (repeat (first | exact Pre.nil | (apply Pre.ints; (case hn => (first | (with_reducible assumption) | exact Len.rep | exact Len.set (by with_reducible assumption) | exact Len.set Len.rep | exact Len.set (Len.set Len.rep))); (case h => omega); (case hm => rfl)) | apply Pre.val))); (case hv => rfl); (case hd => exact rfl); clear hS; intro w hS)) | ((fail_if_success with_reducible refine ga9 ?_); go_step))
 all_goals (try (have hF : False := (by omega); cases hF))
 obtain ⟨B, b0, b1, b2, b3, b4, b5, b6, b7⟩ := HA.out
 obtain ⟨mB, hmB⟩ : ∃ x, B.length = x := ⟨_, rfl⟩
 rw [hmB] at b4 b5
 have X0 := hid b0
 have X1 := hid b1
 have X2 := hid b2
 have X3 := hid b3
 have X6 := hid b6
 have X7 := hid b7
 have XM := hid hmB
 clear HA b0 b1 b2 b3 b6 b7 hmB
 repeat' (first
  | ((with_reducible refine gs9 48 ?_); refine wpl_call (f := 28) Tryd.call28 kr9 ?_; refine ⟨_, (scanEncode_any _ C1 C2 S1 S2 a1 a2 m1 m2 k1 k2 hC1 hC2 (hS.sl pl9) (hS.sl pl9) (by omega) (by omega) ad n c l (by omega) (hv.ext hS.1) 0), ?_⟩; rw [X2.out]; rintro e w ⟨a5, c5, m5, hm5, rfl, hS2⟩; obtain rfl : mB = m5 := (by have h9 : B.length = m5 := hm5; rw [← h9]; exact XM.out.symm); dsimp only at hS2 ⊢; replace hS := hS.call1 hS2; clear hS2 hm5; refine ⟨_, rfl, ?_⟩; refine put_move ?_; go_step) | ((with_reducible refine gs9 55 ?_); refine wpl_call (f := 28) Tryd.call28 kr9 ?_; refine ⟨_, (scanEncode_any _ C1 C2 S1 S2 a1 a2 m1 m2 k1 k2 hC1 hC2 (hS.sl pl9) (hS.sl pl9) (by omega) (by omega) ad n c l (by omega) (hv.ext hS.1) (ev : Int)), ?_⟩; rw [X3.out]; rintro e w ⟨a6, c6, m6, hm6, rfl, hS2⟩; obtain rfl : mB = m6 := (by have h9 : B.length = m6 := hm6; rw [← h9]; exact XM.out.symm); dsimp only at hS2 ⊢; replace hS := hS.call1 hS2; clear hS2 hm6; refine ⟨_, rfl, ?_⟩; refine put_move ?_; go_step) | ((with_reducible refine gs9 61 ?_); refine wpl_call (f := 18) Tryd.call18 kr9 ?_; refine ⟨_, (segEncode_any _ C1 C2 S1 S2 a1 a2 m1 m2 k1 k2 hC1 hC2 (hS.sl pl9) (hS.sl pl9) (by omega) (by omega) ad n c l (by omega) (hv.ext hS.1)), ?_⟩; rw [X0.out, X1.out]; rintro e w ⟨a7, c7, m7, hm7, rfl, hS2⟩; obtain rfl : mB = m7 := (by rw [← hm7]; exact XM.out.symm); replace hS := hS.call1 hS2; clear hS2 hm7; refine ⟨_, rfl, ?_⟩; refine put_move ?_; go_step) | (refine y91 ?_) | (refine y9105 ?_) | (refine y9127 ?_) | ((fail_if_success with_reducible refine ga9 ?_); go_step))
 have E1 : BSl w (.slice a5 mB c5) B := by have := hS.sl (show Pull (own 5 1 a5 mB c5 (B.map (Value.int .u8))) _ _ from pl9); unfold BSl; rw [XM.out]; exact this
 have E2 : BSl w (.slice a6 mB c6) B := by have := hS.sl (show Pull (own 5 1 a6 mB c6 (B.map (Value.int .u8))) _ _ from pl9); unfold BSl; rw [XM.out]; exact this
 have E3 : BSl w (.slice a7 mB c7) B := by have := hS.sl (show Pull (own 5 1 a7 mB c7 (B.map (Value.int .u8))) _ _ from pl9); unfold BSl; rw [XM.out]; exact this
 have H1 := hid (eqByte_any w _ _ _ _ E1 E2)
 have H2 := hid (eqByte_any w _ _ _ _ E1 E3)
 clear E1 E2 E3
 repeat' (first
  | ((with_reducible refine gs9 81 ?_); refine wpl_call (f := 26) Tryd.call26 kr9 ?_; refine ⟨_, (H1.out), ?_⟩; rintro e w ⟨rfl, rfl⟩; rw [decide_eq_true rfl]; refine ⟨_, rfl, ?_⟩; refine put_move ?_; go_step) | ((with_reducible refine gs9 87 ?_); refine wpl_call (f := 26) Tryd.call26 kr9 ?_; refine ⟨_, (H2.out), ?_⟩; rintro e w ⟨rfl, rfl⟩; rw [decide_eq_true rfl]; refine ⟨_, rfl, ?_⟩; refine put_move ?_; go_step) | (refine y9146 ?_) | (refine y9139 ?_) | ((with_reducible refine gs9 65 ?_); (refine wplB _ (V.not rfl) kr9 (fun hB => ?_) (fun hB => ?_) <;> (try (have hF : False := (absurd hB (by decide)); cases hF)) <;> go_step)) | ((with_reducible refine gs9 68 ?_); (refine wplD _ (V.neq rfl rfl) kr9 (fun hB => ?_) (fun hB => ?_) <;> (try (have hF : False := (by omega); cases hF)) <;> go_step)) | ((with_reducible refine gs9 72 ?_); (refine wplD _ (V.neq rfl rfl) kr9 (fun hB => ?_) (fun hB => ?_) <;> (try (have hF : False := (by omega); cases hF)) <;> go_step)) | ((with_reducible refine gs9 76 ?_); (refine wplD _ (V.neq rfl rfl) kr9 (fun hB => ?_) (fun hB => ?_) <;> (try (have hF : False := (by omega); cases hF)) <;> go_step)) | ((with_reducible refine gs9 82 ?_); (refine wplB _ (V.not rfl) kr9 (fun hB => ?_) (fun hB => ?_) <;> (try (have hF : False := (absurd hB (by decide)); cases hF)) <;> go_step)) | (refine y9145 ?_) | ((fail_if_success with_reducible refine ga9 ?_); go_step))
 all_goals (try (have hF : False := (by omega); cases hF))
 obtain ⟨q, hq⟩ : ∃ q : Nat, z2 % (mB : Int) = (q : Int) := ⟨(z2 % (mB : Int)).toNat, by have := Int.emod_nonneg z2 (show (mB : Int) ≠ 0 by omega); omega⟩
 have hq2 : (q : Int) < mB := by rw [← hq]; exact Int.emod_lt_of_pos z2 (by omega)
 have HQ := hid hq
 have hE9 := X7.out q (by rw [XM.out]; omega)
 have HTK := hid (show ∀ x ∈ B.take q, 0 ≤ x ∧ x < 256 from fun x hx => X6.out x (List.mem_of_mem_take hx))
 obtain ⟨⟨E, L⟩, hD⟩ : ∃ D, scD C1 S1 C2 S2 (B.take q) n ev = D := ⟨_, rfl⟩
 rw [hD] at hE9
 have HD := hid hD
 clear hq hD
 dsimp only at hE9
 have hcap5 : mB ≤ c5 := by
  have h9 := hS.sl (show Pull (own 5 1 a5 mB c5 (B.map (Value.int .u8))) _ _ from pl9)
  obtain ⟨_, _, _, e9, h8, _⟩ := h9
  cases e9
  exact h8
 refine drawn_lit [10] (fun w => St W w [prt g7 [.ints C1, .val (.slice a1 m1 k1), .ints C2, .val (.slice a2 m2 k2)]]) kr9 ?_
 replace hS := hS.drew
 focus
  apply takeS 0 al9 kr9 kr9 kr9 hq9 [10, 11, 12, 13, 14, 15] kr9 (hS.sub sb9)
  case hfr => intro w hS; ((refine wl9 ?_; apply wp_loadPP hS 33 _ rfl _ _ rfl 34 (row_of rfl) _; (case hp => exact pl9); (case hi => (repeat (first | (apply AtP.head; (repeat (first | exact Pre.nil | (apply Pre.ints; (case hn => (first | (with_reducible assumption) | exact Len.rep | exact Len.set (by with_reducible assumption) | exact Len.set Len.rep | exact Len.set (Len.set Len.rep))); (case h => omega); (case hm => rfl)) | apply Pre.val))) | (apply AtP.skipI; (case hn => (first | (with_reducible assumption) | exact Len.rep | exact Len.set (by with_reducible assumption) | exact Len.set Len.rep | exact Len.set (Len.set Len.rep))); (case h => omega); (case ho => rfl)) | apply AtP.skipV))); refine put_move ?_; go_step)); refine wpList_nil ?_; exact ⟨rfl, rfl⟩
  case hd => rfl
  refine takeM 1 _ al9 kr9 kr9 kr9 hq9 rfl ?_
  go_step
  refine takeM 2 _ al9 kr9 kr9 kr9 hq9 rfl ?_
  go_step
  refine takeM 3 _ al9 kr9 kr9 kr9 hq9 rfl ?_
  go_step
  (refine takeV 4 _ al9 kr9 kr9 kr9 hq9 (V.len Tryd.underlying34 rfl) rfl ?_)
  go_step
  refine takeM 7 _ al9 kr9 kr9 kr9 hq9 rfl ?_
  go_step
  (refine takeV 8 _ al9 kr9 kr9 kr9 hq9 (V.len Tryd.underlying22 rfl) rfl ?_)
  go_step
  refine takeM 9 _ al9 kr9 kr9 kr9 hq9 rfl ?_
  go_step
  refine branch1 5 al9 rfl kr9 ?_
  refine wp_callF (f := 32) rfl Tryd.call32 (rest_any z2 (mB : Int) _ (by omega) (by omega)) ?_; rintro e w' ⟨rfl, rfl⟩; rw [HQ.out]; refine ⟨_, rfl, ?_⟩
  refine ⟨fun _ _ => hS.sub sb9, ?_⟩
  refine drawn_move ?_
  go_step
  (refine takeV 6 _ al9 kr9 kr9 kr9 hq9 (V.slice Tryd.underlying34 isz5 rfl (by (first | exact Lo.none | exact Lo.some rfl isn9)) (by (first | exact Up.none | exact Up.some rfl isn9)) (by omega) (by omega)) rfl ?_)
  go_step
  refine branch1 10 al9 rfl kr9 ?_
  refine wp_callF (f := 30) rfl Tryd.call30 (scanDecode_any _ C1 C2 S1 S2 a1 a2 m1 m2 k1 k2 hC1 hC2 (hS.sl pl9) (hS.sl pl9) (by omega) (by omega) (cutAt a5 c5 0 1) (q - 0) (c5 - 0) (B.take q) (n : Int) (ev : Int) (by omega) (one_cut (hS.sl (show Pull (own 5 1 a5 mB c5 (B.map (Value.int .u8))) _ _ from pl9)) (by omega)) HTK.out (HML.out.imp fun m h => hS.1.cell h)) ?_; rw [HD.out]; rintro e w ⟨a8, c8, m8, hm8, rfl, hS2⟩; dsimp only; replace hS := hS.ext hS2.1; clear hS2 hm8; refine ⟨_, rfl, ?_⟩
  refine ⟨fun h => absurd (by decide) h, ?_⟩
  refine drawn_move ?_
  go_step
  refine takeM 11 _ al9 kr9 kr9 kr9 hq9 rfl ?_
  go_step
  (refine takeV 12 _ al9 kr9 kr9 kr9 hq9 (V.extract rfl rfl) rfl ?_)
  go_step
  (refine takeV 13 _ al9 kr9 kr9 kr9 hq9 (V.extract rfl rfl) rfl ?_)
  go_step
  refine takeA 14 _ al9 kr9 kr9 kr9 hq9 rfl ?_
  go_step
  refine takeA 15 _ al9 kr9 kr9 kr9 hq9 rfl ?_
  go_step
  refine drawn_done kr9 ?_ _
 all_goals
  repeat' ((fail_if_success with_reducible refine ga9 ?_); go_step)
  repeat' (first
   | (refine y91 ?_) | (refine y991 ?_) | ((fail_if_success with_reducible refine ga9 ?_); go_step))
  go_ret
  first | exact ⟨ret_bool (decide_eq_true hE9), hS.1⟩ | exact ⟨rfl, hS.1⟩

end Go.Proofs.YtehbjhocgnfpmaaDoor
/- The law ScanOne: the frame round its walk, and the statement. -/
namespace Go.Proofs.YtehbjhocgnfpmaaDoor
open Go.ChangeShapes Go.WideShapes Go.ChangeAt Go.RowKit
set_option linter.unusedVariables false
def ScanOne_args : Array Value := #[.slice none 0 0, .int .i64 0, .int .i64 0]
theorem ScanOne_own : ownKnob Tryd.prog.godebug = none := by kernel_rfl
theorem ScanOne_laidOut : laidOutB Tryd.prog = true := by kernel_rfl
theorem ScanOne_met (os : Os) (args : Array Value) : laidMetH Tryd.prog Rows.scanOneRow.laid ((World.laidAll Tryd.prog os Rows.scanOneRow.laid).forCall (fun _ _ => 0) ⟨#[], args, []⟩).memory := by
 rw [MakeChecks.laidMetH_plain _ _ _ kr9]; exact laidMet_laidAll _ kr9 kr9
theorem ScanOne_reads (os : Os) {H : Type} (enc : TypeId × Value → H) : ∃ places, DataW.whole enc Tryd.prog ((World.laidAll Tryd.prog os Rows.scanOneRow.laid).forCall (fun _ _ => 0) ⟨#[], ScanOne_args, []⟩).memory Tryd.f13.params.toList Rows.scanOneSpec.vars false (ScanOne_args : Array Value).toList 8 = some ([.nil, .lit (.int .i64 0), .lit (.int .i64 0)], [], places) :=
 ⟨[], by kernel_rfl⟩
set_option maxRecDepth 100000 in
theorem ScanOne_lifted (os : Os) (started : os.Started) (H : Type) (enc : TypeId × Value → H) (F : Stop.Interp) :
 ReturnsInHanded {} Tryd.checked os 13 .any ((OpenSpec.ofChange Rows.scanOneSpec).preRow enc Tryd.prog Tryd.f13 Rows.scanOneRow.domain false Rows.scanOneRow.laid) (((OpenSpec.ofChange Rows.scanOneSpec).at F).post enc Tryd.prog Tryd.f13 false true false false) := by
 obtain ⟨places, hx⟩ := ScanOne_reads os enc
 have hok : Input.okWideB Tryd.prog ((World.laidAll Tryd.prog os Rows.scanOneRow.laid).forCall (fun _ _ => 0) ⟨#[], ScanOne_args, []⟩) 13 ⟨#[], ScanOne_args, []⟩ = true := by kernel_rfl
 refine returnsInHanded_of_row (C := Tryd.checked) (s := OpenSpec.ofChange Rows.scanOneSpec) ScanOne_own started kr9 Tryd.func13
  ⟨(World.laidAll Tryd.prog os Rows.scanOneRow.laid), fun _ _ => 0, ⟨#[], ScanOne_args, []⟩, World.laidAll_os _ _ _, World.shaped_of_ZipB kr9 kr9, (Input.okWide_of_okWideB (base := 0) hok).1, (Input.okWide_of_okWideB hok).2,
   OpenSpec.preRow_of_cond 8 hx kr9 (fun k hk => by cases hk) kr9 (ScanOne_met os _), by
   simp only [Assume.holds]
   exact ⟨by simp, by simp, by simp, by simp, by simp⟩⟩ ?_
 intro W base args ds gs before hval0 hW _ hk _ hL hsh _
 have hval : ∀ (j : Nat) t v, Tryd.f13.params[j]? = some t → args[j]? = some v → Value.okWide Tryd.prog W .any base t v := hval0
 have hW' := hW
 obtain ⟨p, q, hA0, hV, rfl, hfz, hnd⟩ := hW
 have hA : DataW.TrodAll enc Tryd.prog W 0 (fun _ => true) true Tryd.f13.params.toList args.toList ds p := hA0
 rw [Tryd.params13] at hA hval
 obtain ⟨v0, vs0, d0, ds0, p0, q0, hargs, rfl, rfl, h0, r0⟩ := trodAll_cons hA
 obtain ⟨v1, vs1, d1, ds1, p1, q1, rfl, rfl, rfl, h1, r1⟩ := trodAll_cons r0
 obtain ⟨v2, vs2, d2, ds2, p2, q2, rfl, rfl, rfl, h2, r2⟩ := trodAll_cons r1
 obtain ⟨rfl, rfl, rfl⟩ := trodAll_nil r2
 obtain rfl : args = #[v0, v1, v2] := by cases args; simp_all
 obtain ⟨rfl, rfl⟩ := trodVars_none hV
 have lt0 : ∀ x ∈ p0, x.block < W.heap.size := by obtain ⟨m, hm⟩ := h0; exact DataW.trod_lt m _ _ _ hm
 have lt1 : ∀ x ∈ p1, x.block < W.heap.size := by obtain ⟨m, hm⟩ := h1; exact DataW.trod_lt m _ _ _ hm
 have lt2 : ∀ x ∈ p2, x.block < W.heap.size := by obtain ⟨m, hm⟩ := h2; exact DataW.trod_lt m _ _ _ hm
 refine (ScanOne_walk W (hval 0 22 v0 rfl rfl) h0 lt0 (hval 1 3 v1 rfl rfl) h1 lt1 (hval 2 3 v2 rfl rfl) h2 lt2 hsh).mono fun e W' ⟨he, bel⟩ => ?_
 subst he
 exact ⟨_, rfl, _, _, _, [], _, [], hW', trodAll_mk1 (shut_bool Tryd.underlying4 _), (trodAll_cons_mk (Below.trod ScanOne_laidOut kr9 (of_decide_eq_true kr9) h0 bel lt0) (trodAll_cons_mk (Below.trod ScanOne_laidOut kr9 (of_decide_eq_true kr9) h1 bel lt1) (trodAll_cons_mk (Below.trod ScanOne_laidOut kr9 (of_decide_eq_true kr9) h2 bel lt2) trodAll_mk0))), rfl, bel.frame _, fun h => by cases h⟩
theorem ScanOne_said : Rows.ScanOneSaid :=
 OpenClaim.holds_of_cond 13 Tryd.f13 rfl rfl rfl rfl rfl rfl rfl ⟨rfl, rfl, rfl, rfl, rfl⟩ rfl rfl rfl rfl rfl kr9 Tryd.func13 kr9
  (of_decide_eq_true kr9) (by unfold Func.isWrapper; rw [if_neg (by decide +kernel)]; exact ⟨rfl, rfl⟩)
  (fun os started H enc _ F => by rw [OpenClaim.pre_eq_preRow]; exact ScanOne_lifted os started H enc F)
theorem ScanOne_plainly (f : FuncId) (fn : Func) (hf : Tryd.pinned.checked.prog.funcNamed "mezzotint/mezzotintkeep.ScanOne" = some f) (hfn : Tryd.pinned.checked.prog.funcs[f]? = some fn) :
 false = Tryd.pinned.checked.prog.looks [] ∧ ∀ (j : Nat) t, fn.params[j]? = some t → Tryd.pinned.checked.prog.wantsStandIn t = false := by
 obtain rfl : f = 13 := Option.some.inj ((show Tryd.prog.funcNamed "mezzotint/mezzotintkeep.ScanOne" = some 13 by kernel_rfl).symm.trans hf) |>.symm
 obtain rfl : fn = Tryd.f13 := (Option.some.inj (Tryd.func13.symm.trans hfn)).symm
 refine ⟨by kernel_rfl, fun j t ht => ?_⟩
 rw [Tryd.params13] at ht
 have hm : t ∈ ([22, 3, 3] : List Nat) := by simpa using Array.mem_of_getElem? ht
 have hall : (([22, 3, 3] : List Nat).all fun u => !Tryd.prog.wantsStandIn u) = true := by kernel_rfl
 exact (show Tryd.prog.wantsStandIn t = false by simpa using List.all_eq_true.1 hall t hm)
theorem ScanOne_proved : Rows.ScanOneCardSaid :=
 Claim7.holds_tied_plain_at .later [] _ _ _ _ ScanOne_said (fun _ h => by cases h) kr9 (fun _ h => by cases h) scanOne_row_tie rfl ⟨rfl, rfl⟩ kr9 rfl ScanOne_plainly kr9

end Go.Proofs.YtehbjhocgnfpmaaDoor