/- The law QuantOdd: its walk, and the statement. -/
import Derived.Test.YtodihnhpibjhmaaQuantKeep
namespace Go.Proofs.Ytodihnhpibjhmaa
open Go.ChangeShapes Go.WideShapes Go.ChangeAt Go.RowKit
set_option linter.unusedVariables false
def negW (l : List Int) : List Int := l.map fun n => wrap64 (-n)
theorem negW_len (l : List Int) : (negW l).length = l.length := by simp [negW]
theorem negW_get (l : List Int) (i : Nat) (h : i < l.length) : nth (negW l) i = wrap64 (-(nth l i)) := by
  simp [nth, negW, List.getD, List.getElem?_map, List.getElem?_eq_getElem h]
theorem dn_bd (n d : Int) : -2047 ≤ dn n d ∧ dn n d ≤ 2047 := by unfold dn; omega
theorem downR_bd (b q : List Int) (hb : b.length = 64) (hq : q.length = 64) (i : Nat) (hi : i < 64) : -2047 ≤ nth (downR b q) i ∧ nth (downR b q) i ≤ 2047 := by
  unfold downR
  split
  · rw [zip2_get _ _ _ hb hq i hi]; exact dn_bd _ _
  · rw [show zeros = rep 0 from rfl, rep_get 0 i hi]; omega
theorem neg_in (b : List Int) (m : Int) (hm : 0 ≤ m) (hm2 : m ≤ 1000000) (hb : b.length = 64) (hbd : ∀ i, i < 64 → -9223372036854775808 ≤ nth b i ∧ nth b i ≤ 9223372036854775807) :
    allIn (negW b) (-m) m = allIn b (-m) m := by
  rw [Bool.eq_iff_iff, allIn_iff, allIn_iff, negW_len]
  constructor
  · intro h i hi
    have h1 := h i hi
    have h2 := hbd i (by omega)
    rw [negW_get b i hi] at h1
    unfold wrap64 at h1
    omega
  · intro h i hi
    have h1 := h i hi
    rw [negW_get b i hi]
    unfold wrap64
    omega
theorem down_odd (b q : List Int) (hb : b.length = 64) (hq : q.length = 64) (hbd : ∀ i, i < 64 → -9223372036854775808 ≤ nth b i ∧ nth b i ≤ 9223372036854775807) :
    downE b q = downE (negW b) q ∧ ∀ i, i < 64 → nth (downR b q) i = - nth (downR (negW b) q) i := by
  have hn := neg_in b 40000 (by omega) (by omega) hb hbd
  refine ⟨by simp only [downE, hn], fun i hi => ?_⟩
  unfold downR
  rw [hn]
  split
  · rename_i hc
    rw [Bool.and_eq_true] at hc
    have h1 := (allIn_iff _ _ _).1 hc.2 i (by omega)
    have h2 := (allIn_iff _ _ _).1 hc.1 i (by omega)
    rw [zip2_get _ _ _ hb hq i hi, zip2_get _ _ _ (by rw [negW_len]; exact hb) hq i hi, negW_get b i (by omega)]
    have e : wrap64 (-(nth b i)) = -(nth b i) := by unfold wrap64; omega
    rw [e]
    unfold dn
    rw [rnd_neg _ _ h2.1]
    omega
  · rw [show zeros = rep 0 from rfl, rep_get 0 i hi]; rfl
set_option maxRecDepth 100000 in
set_option maxHeartbeats 4000000 in
theorem QuantOdd_walk {H : Type} {enc : TypeId × Value → H} {d0 d1 : DataW H} {p0 p1 : List MemPlace} {v0 v1 : Value} {base : Nat} (W : World)
    (o0 : Value.okWide Try.prog W .any base 46 v0) (h0 : DataW.Trod enc Try.prog W 0 (fun _ => true) true 46 v0 d0 p0) (lt0 : ∀ x ∈ p0, x.block < W.heap.size)
    (o1 : Value.okWide Try.prog W .any base 46 v1) (h1 : DataW.Trod enc Try.prog W 0 (fun _ => true) true 46 v1 d1 p1) (lt1 : ∀ x ∈ p1, x.block < W.heap.size)
    :
    Calls Try.prog 14 #[v0, v1] W fun e w' => e = .returned (.bool true) ∧ Ext W w' := by
  obtain ⟨b, hb, rfl, hbd⟩ := op_block o0
  obtain ⟨q, hq, rfl, _⟩ := op_block o1
  clear o0 h0 lt0 o1 h1 lt1
  have HO := hid (down_odd b q hb hq hbd)
  have HBd := hid hbd
  have HB := hid hb
  have HQ := hid hq
  have HN := hid (show (negW b).length = 64 by rw [negW_len]; exact hb)
  have HIb := hid (show (Try.prog.info? 46).map (·.size) = some b.length by rw [hb]; kernel_rfl)
  have HIq := hid (show (Try.prog.info? 46).map (·.size) = some q.length by rw [hq]; kernel_rfl)
  have HIn := hid (show (Try.prog.info? 46).map (·.size) = some (negW b).length by rw [HN.out]; kernel_rfl)
  have HId := hid (show (Try.prog.info? 46).map (·.size) = some (downR b q).length by rw [downR_len b q hb hq]; kernel_rfl)
  have HIc := hid (show (Try.prog.info? 46).map (·.size) = some (downR (negW b) q).length by rw [downR_len _ q HN.out hq]; kernel_rfl)
  have HLd := hid (show zeros.length = (downR b q).length by rw [downR_len b q hb hq]; rfl)
  have HLc := hid (show zeros.length = (downR (negW b) q).length by rw [downR_len _ q HN.out hq]; rfl)
  clear hb hq hbd
  go_enter Try.func14, Try.ntmps14
  go_wp2_with (first
    | (refine wpList_box_iv rfl 46 _ rfl b rfl ?_; intro w1 hR1 hE1 hz1)
    | (refine wpList_box_iv rfl 46 _ rfl q rfl ?_; intro w2 hR2 hE2 hz2; replace hR1 := hR1.ext hE2; rw [hz1] at hR2 hz2; replace hE1 := hE1.trans hE2; clear hE2)
    | (go_at_call 28; refine (coarse_any _).mono ?_; rintro e w3 ⟨rfl, hE⟩; replace hR1 := hR1.ext hE; replace hR2 := hR2.ext hE; replace hE1 := hE1.trans hE; have hsz3 : W.heap.size + 2 ≤ w3.heap.size := by have := hE.sz; omega
       clear hE)
    | (refine wpList_alloc_iv rfl 46 rfl zeros (fun w => Try.zeroValue46 w) ?_; intro w4 hR4 hE4 hz4; replace hR1 := hR1.ext hE4; replace hR2 := hR2.ext hE4; replace hE1 := hE1.trans hE4; clear hE4)
    | (refine wpList_load_iv rfl 46 _ rfl W.heap.size rfl b _ hR1 Try.underlying46 rfl HIb.out ?_))
  have hng : ∀ i, i < 64 → (negW b).length = zeros.length := fun _ _ => HN.out
  go_loopg [16] 64 (fun gk xv wr => ∃ (i : Nat), gk + i = 64 ∧ xv = .int .i64 i ∧ Row wr W.heap.size b ∧ Row wr (W.heap.size + 1) q ∧ Row wr w3.heap.size (mixed (negW b) zeros i) ∧ Ext W wr)
  case atStart => exact ⟨0, rfl, rfl, hR1, hR2, by rw [mixed_zero]; exact hR4, hE1⟩
  case round =>
    clear hR1 hR2 hR4 hE1
    obtain ⟨i, hi, rfl, hR1, hR2, hR4, hE1⟩ := hrel
    by_cases hlt : i < 64
    · have hbi := iv_get b i (by rw [HB.out]; exact hlt)
      have hzb : (negW b).length = zeros.length := HN.out
      have hcell := hR4.cell i (by rw [mixed_len _ _ hzb i (by show i ≤ 64; omega)]; exact hlt)
      have hfree := hR4.free i
      have h1 := hR4.set i (nth (negW b) i)
      rw [mixed_set _ _ hzb i hlt, negW_get b i (by rw [HB.out]; exact hlt)] at h1
      have HR4 := hid h1
      have HR1 := hid (hR1.setOther ⟨w3.heap.size, i, none⟩ (.int .i64 (wrap64 (-(nth b i)))) (by simp; omega))
      have HR2 := hid (hR2.setOther ⟨w3.heap.size, i, none⟩ (.int .i64 (wrap64 (-(nth b i)))) (by simp; omega))
      have HE := hid (hE1.setCell (a := ⟨w3.heap.size, i, none⟩) (by simp; omega) (.int .i64 (wrap64 (-(nth b i)))))
      have HM : Hid (gk - 1 + (i + 1) = 64) := by unfold Hid; omega
      have HG : Hid (gk - 1 < gk) := by unfold Hid; omega
      clear hi h1 hzb hng hR1 hR2 hR4 hE1
      go_wp2_with fail
      go_roundg (gk - 1)
      case measure => exact HG.out
      case rel => exact ⟨i + 1, HM.out, by go_num, HR1.out, HR2.out, HR4.out, HE.out⟩
    · obtain rfl : i = 64 := by omega
      rw [show mixed (negW b) zeros 64 = negW b from mixed_all (negW b) zeros HN.out] at hR4
      clear hng
      have HE := HO.out.1
      have tok1 : True := trivial
      have tok2 : True := trivial
      have tok3 : True := trivial
      have hg4 : w3.heap.size < w4.heap.size := by omega
      go_wp2_with (first
        | (have _t := tok1; refine wpList_alloc_iv rfl 46 rfl zeros (fun w => Try.zeroValue46 w) ?_; intro w6 hR8 hE6 hz6; replace hR1 := hR1.ext hE6; replace hR2 := hR2.ext hE6; replace hR4 := hR4.ext hE6; have hs8 := hR4w.lt; clear hR4w; replace hE1 := hE1.trans hE6; clear hE6 tok1)
        | (refine wpList_store_iv2 rfl 46 _ _ rfl w5.heap.size rfl (downR b q) zeros rfl hR8 HId.out HLd.out ?_; intro w7 hR8' hoth hext hz7; replace hR1 := hoth _ _ (by omega) hR1; replace hR2 := hoth _ _ (by omega) hR2; replace hR4 := hoth _ _ (by omega) hR4; replace hE1 := hext _ (by omega) hE1; clear hR8 hoth hext)
        | (have _t := tok2; refine wpList_alloc_iv rfl 46 rfl zeros (fun w => Try.zeroValue46 w) ?_; intro w8 hR10 hE8 hz8; have hs10 := hR8'.lt; replace hR1 := hR1.ext hE8; replace hR2 := hR2.ext hE8; replace hR4 := hR4.ext hE8; replace hR8' := hR8'.ext hE8; replace hE1 := hE1.trans hE8; clear hE8 tok2)
        | (refine wpList_store_iv2 rfl 46 _ _ rfl _ rfl (downR (negW b) q) zeros rfl hR10 HIc.out HLc.out ?_; intro w9 hR10' hoth hext hz9; replace hR8' := hoth _ _ (by omega) hR8'; replace hE1 := hext _ (by omega) hE1; clear hR10 hoth hext)
        | (refine wpList_load_iv rfl 46 _ rfl W.heap.size rfl b _ hR1 Try.underlying46 rfl HIb.out ?_)
        | (refine wpList_load_iv rfl 46 _ rfl (W.heap.size + 1) rfl q _ hR2 Try.underlying46 rfl HIq.out ?_)
        | (refine wpList_load_iv rfl 46 _ rfl w3.heap.size rfl (negW b) _ hR4 Try.underlying46 rfl HIn.out ?_)
        | (have _t := tok3; go_at_call 29; refine (down_any _ _ q HB.out HQ.out).mono ?_; rintro e w5 ⟨rfl, hE⟩; replace hR1 := hR1.ext hE; replace hR2 := hR2.ext hE; replace hR4 := hR4.ext hE; have hR4w := hR4; replace hE1 := hE1.trans hE; clear hE tok3)
        | (go_at_call 29; refine (down_any _ _ q HN.out HQ.out).mono ?_; rintro e w10 ⟨rfl, hE⟩; replace hR8' := hR8'.ext hE; replace hR1 := hR1.ext hE; replace hR2 := hR2.ext hE; replace hR4 := hR4.ext hE; replace hE1 := hE1.trans hE; clear hE))
      clear hR1 hR2 hR4
      have HBD := hid (downR_bd b q HB.out HQ.out)
      have HBN := hid (downR_bd (negW b) q HN.out HQ.out)
      have HLD : Hid ((downR b q).length = 64) := HLd.out.symm
      have HLC : Hid ((downR (negW b) q).length = 64) := HLc.out.symm
      go_loopg [40] 64 (fun gk xv wr => ∃ (i : Nat), gk + i = 64 ∧ xv = .int .i64 i ∧ Row wr w5.heap.size (downR b q) ∧ Row wr w10.heap.size (downR (negW b) q) ∧ Ext W wr)
      case atStart => exact ⟨0, rfl, rfl, hR8', hR10', hE1⟩
      case round =>
        clear hR8' hR10' hE1 hi
        obtain ⟨i, hi, rfl, hR8, hR10, hE1⟩ := hrel
        by_cases hlt : i < 64
        · have c1 := hR8.cell i (by rw [HLD.out]; exact hlt)
          have c2 := hR10.cell i (by rw [HLC.out]; exact hlt)
          rw [HO.out.2 i hlt] at c1
          have bd := HBN.out i hlt
          have HM : Hid (gk - 1 + (i + 1) = 64) := by unfold Hid; omega
          have HG : Hid (gk - 1 < gk) := by unfold Hid; omega
          clear hi
          go_wp2_with fail
          go_quiet (fail)
          go_wp2_with fail
          go_roundg (gk - 1)
          case measure => exact HG.out
          case rel => exact ⟨i + 1, HM.out, by go_num, hR8, hR10, hE1.drewN⟩
        · obtain rfl : i = 64 := by omega
          go_wp2_with fail
          go_ret
          exact ⟨rfl, hE1⟩
end Go.Proofs.Ytodihnhpibjhmaa
