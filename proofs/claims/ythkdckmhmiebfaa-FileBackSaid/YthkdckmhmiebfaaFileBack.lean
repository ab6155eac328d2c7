/- The law FileBack: its walk, and the statement. -/
import Derived.Test.YthkdckmhmiebfaaFileKeep
import Derived.Test.YthkdckmhmiebfaaFileEq
import Derived.Test.YthkdckmhmiebfaaFileMath
namespace Go.Proofs.Ythkdckmhmiebfaa
open Go.ChangeShapes Go.WideShapes Go.ChangeAt Go.RowKit Go.Deep
set_option linter.unusedVariables false
theorem op_fileB {H : Type} {enc : TypeId × Value → H} {W : World} {v : Value} {d : DataW H} {p : List MemPlace} {base : Nat} (ho : Value.okWide Try.prog W .any base 50 v) (h : DataW.Trod enc Try.prog W 0 (fun _ => true) true 50 v d p) :
    ∃ (f : FileV) (a1 a2 ad : Option Addr) (n1 k1 n2 k2 nd kd : Nat), v = fv f (.slice a1 n1 k1) (.slice a2 n2 k2) (.slice ad nd kd) ∧ FileIn W f a1 a2 ad n1 k1 n2 k2 nd kd := by
  obtain ⟨cs, rfl⟩ := op_agg (by rw [Try.underlying50]) ho
  obtain ⟨fuel, h⟩ := h
  obtain ⟨f, a1, a2, ad, n1, k1, n2, k2, nd, kd, h1, h2⟩ := file_cells h
  refine ⟨f, a1, a2, ad, n1, k1, n2, k2, nd, kd, ?_, h2⟩
  have h3 : cs.toList = pcells (fparts f (.slice a1 n1 k1) (.slice a2 n2 k2) (.slice ad nd kd)) := h1
  show Value.agg cs = Value.agg _
  rw [← h3]
theorem dataI_cells (f : FileV) : (dataI f).map (Value.int .u8) = f.data.map fun (x : Nat) => Value.int .u8 (x : Int) := by
  rw [dataI, List.map_map]; rfl
/-- Whatever bytes: a parse that fails. -/
theorem parse_bad (w0 : World) (a : Option Addr) (n c : Nat) (l : List Int) (hv : Sl w0 1 (.slice a n c) n (l.map (Value.int .u8))) (hr : Hid (∀ i, i < l.length → 0 ≤ nth l i ∧ nth l i < 256)) (hn : n ≤ 9223372036854775807) (hE : parseE l ≠ 0) :
    Calls Try.prog 21 #[.slice a n c] w0 fun e w => e = .returned (.tuple #[fz, .int .i64 (parseE l)]) ∧ Ext w0 w := by
  have hln : l.length = n := by have := hv.1; simpa using this
  by_cases h : 91000 < n
  · have e : parseE l = 2 := by rw [parseE, if_pos (by omega)]
    rw [e]
    exact parse_large w0 a n c l hv h hn
  · exact (parse_rest w0 a n c l hv hr (by omega)).mono fun e w ⟨h1, _⟩ => h1 hE
theorem parse_ok (w0 : World) (a : Option Addr) (n c : Nat) (l : List Int) (hv : Sl w0 1 (.slice a n c) n (l.map (Value.int .u8))) (hr : Hid (∀ i, i < l.length → 0 ≤ nth l i ∧ nth l i < 256)) (hE : parseE l = 0) (f : FileV) (hf : parseF l = f) (m1 m2 md : Nat) (q1 : pn1 l = m1) (q2 : pn2 l = m2) (q3 : l.length - pq2 l = md) (Dt : List Int) (hD : dataI f = Dt) :
    Calls Try.prog 21 #[.slice a n c] w0 fun e w => ∃ (a1 a2 ad : Option Addr) (c1 c2 cd : Nat), e = .returned (.tuple #[fv f (.slice a1 m1 c1) (.slice a2 m2 c2) (.slice ad md cd), .int .i64 0]) ∧
      St w0 w [own 3 1 a1 m1 c1 (f.s1.map (Value.int .i64)), own 3 1 a2 m2 c2 (f.s2.map (Value.int .i64)), own 5 1 ad md cd (Dt.map (Value.int .u8))] := by
  have hln : l.length = n := by have := hv.1; simpa using this
  have hs : n ≤ 91000 := by
    by_cases h : 91000 < l.length
    · rw [parseE, if_pos h] at hE; exact absurd hE (by decide)
    · omega
  refine (parse_rest w0 a n c l hv hr hs).mono fun e w ⟨_, k⟩ => ?_
  have := k hE
  rw [hf, q1, q2, q3, hD] at this
  exact this
theorem parseF_lens (l : List Int) : (parseF l).s1.length = pn1 l ∧ (parseF l).s2.length = pn2 l ∧ (parseF l).data.length = l.length - pq2 l ∧ (parseF l).quant.length = 64 ∧ (parseF l).c1.length = 16 ∧ (parseF l).c2.length = 16 := by
  refine ⟨by simp [parseF, rS], by simp [parseF, rS], by simp [parseF], ?_, by simp [parseF, rCl], by simp [parseF, rCl]⟩
  simp only [parseF]; exact zfrom_len _
theorem parseE_ok {l : List Int} (h : parseE l = 0) : l.length ≤ 91000 ∧ fileE (parseF l) = 0 ∧ packI (parseF l) = l := by
  unfold parseE at h
  split at h
  · cases h
  · split at h
    · cases h
    · split at h
      · rename_i k; exact ⟨by omega, k.1, k.2⟩
      · cases h
theorem fileE_f0 : fileE f0 = 1 := by decide +kernel
set_option maxRecDepth 100000 in
set_option maxHeartbeats 16000000 in
theorem FileBack_walk {H : Type} {enc : TypeId × Value → H} {d0 d1 : DataW H} {p0 p1 : List MemPlace} {v0 v1 : Value} {base : Nat} (W : World)
    (o0 : Value.okWide Try.prog W .any base 50 v0) (h0 : DataW.Trod enc Try.prog W 0 (fun _ => true) true 50 v0 d0 p0) (lt0 : ∀ x ∈ p0, x.block < W.heap.size)
    (o1 : Value.okWide Try.prog W .any base 48 v1) (h1 : DataW.Trod enc Try.prog W 0 (fun _ => true) true 48 v1 d1 p1) (lt1 : ∀ x ∈ p1, x.block < W.heap.size)
    :
    Calls Try.prog 10 #[v0, v1] W fun e w' => e = .returned (.bool true) ∧ Ext W w' := by
  obtain ⟨f, a1, a2, ad, n1, k1, n2, k2, nd, kd, rfl, hF⟩ := op_fileB o0 h0
  obtain ⟨nb, l, hl, hvb, hrb⟩ := op_slice .u8 Try.underlying48 1 (by kernel_rfl) 1 (by kernel_rfl) (by omega) o1 h1
  clear o0 h0 lt0 o1 h1 lt1
  rw [Nat.mul_one] at hl
  obtain ⟨ab, kb, rfl, hnb, hkb⟩ : ∃ ad c, v1 = .slice ad nb c ∧ nb ≤ c ∧ c ≤ 9223372036854775807 := by
    obtain ⟨_, ad, c, h1, h2, h3, _⟩ := hvb
    exact ⟨ad, c, h1, h2, by unfold maxLen at h3; exact h3⟩
  have HRB : Hid (∀ i, i < l.length → 0 ≤ nth l i ∧ nth l i < 256) := hid fun i hi => by
    have := (wf_u8_iff _).1 (hrb i hi)
    omega
  have hS := St.start W
  have hQ := hF.quant
  have hC1 := hF.t1.len
  have hC2 := hF.t2.len
  have hs1 := hF.t1.sl
  have hs2 := hF.t2.sl
  have b1 : n1 ≤ 9223372036854775807 := Nat.le_trans hF.t1.nc hF.t1.cm
  have b2 : n2 ≤ 9223372036854775807 := Nat.le_trans hF.t2.nc hF.t2.cm
  have b3 : nd ≤ 9223372036854775807 := Nat.le_trans hF.dcap.1 hF.dcap.2
  have hsd : Sl W 1 (.slice ad nd kd) nd ((dataI f).map (Value.int .u8)) := dataI_cells f ▸ hF.dsl
  have hld : f.data.length = nd := by have := hF.dsl.1; simpa using this
  have hl1 : f.s1.length = n1 := by have := hs1.1; simpa using this
  have hl2 : f.s2.length = n2 := by have := hs2.1; simpa using this
  have hdlt := hF.dlt
  have HCK : Veil2 (∀ w, Ext W w → Calls Try.prog 20 #[fv f (.slice a1 n1 k1) (.slice a2 n2 k2) (.slice ad nd kd)] w fun e w' => e = .returned (.int .i64 (fileE f)) ∧ Ext w w') := ⟨fun w hx => fcheck_any w f a1 a2 ad n1 n2 nd k1 k2 kd hQ hC1 hC2 (hs1.ext hx) (hs2.ext hx) b1 b2 b3 hld⟩
  have HP0 : Veil2 (∀ w, Calls Try.prog 19 #[fz] w fun e w' => e = .returned (.tuple #[.slice none 0 0, .int .i64 1]) ∧ Ext w w') := ⟨fun w => pack_bad w f0 none none none 0 0 0 0 0 0 rfl rfl rfl (Sl.nil _ _) (Sl.nil _ _) (by omega) (by omega) (by omega) rfl 1 fileE_f0 (by decide)⟩
  have HEQ0 : Veil2 (∀ w, Calls Try.prog 22 #[fz, fz] w fun e w' => e = .returned (.bool true) ∧ Ext w w') := ⟨fun w => fileEq_yes w 0 0 0 (List.replicate 64 0) (List.replicate 16 0) [] (List.replicate 16 0) [] 0 [] none none none none none none 0 0 0 0 0 0 0 0 0 Len.rep Len.rep Len.rep (Sl.nil _ _) (Sl.nil _ _) (Sl.nil _ _) (Sl.nil _ _) (Sl.nil _ _) (Sl.nil _ _)⟩
  have HF1 : Hid (∀ x ∈ f.data, x < 256) := hid hdlt
  clear hrb hF hdlt
  by_cases hE : fileE f = 0
  case pos =>
    have hbk := back_file hE hQ hC1 hC2
    have hPb := bytes_nth (packI_bytes hE hQ HF1.out)
    have hPl := pk_len f
    obtain ⟨-, -, ht1, ht2, hdl⟩ := fileE_ok hE
    have hc1 : n1 ≤ 256 := hl1 ▸ (tabE_ok ht1).2.2.1
    have hc2 : n2 ≤ 256 := hl2 ▸ (tabE_ok ht2).2.2.1
    have hc3 : nd ≤ 90000 := hld ▸ hdl
    obtain ⟨Dt, hDt⟩ : ∃ x, dataI f = x := ⟨_, rfl⟩
    have hPA : ∀ w a c, Sl w 1 (.slice a (packI f).length c) (packI f).length ((packI f).map (Value.int .u8)) → Calls Try.prog 21 #[.slice a (packI f).length c] w fun e w' => ∃ (b1 b2 bd : Option Addr) (e1 e2 ed : Nat), e = .returned (.tuple #[.agg (pcells (gp f.wide f.high f.parts f.quant f.c1 (.slice b1 n1 e1) f.c2 (.slice b2 n2 e2) f.every (.slice bd nd ed))).toArray, .int .i64 0]) ∧ St w w' [own 3 1 b1 n1 e1 (f.s1.map (Value.int .i64)), own 3 1 b2 n2 e2 (f.s2.map (Value.int .i64)), own 5 1 bd nd ed (Dt.map (Value.int .u8))] := fun w a c hv => parse_ok w a _ c (packI f) hv (hid hPb) hbk.1 f hbk.2.1 n1 n2 nd (hbk.2.2.1.trans hl1) (hbk.2.2.2.1.trans hl2) (by rw [hbk.2.2.2.2, hPl]; omega) Dt hDt
    have hPF : ∀ w, Ext W w → Calls Try.prog 19 #[.agg (pcells (gp f.wide f.high f.parts f.quant f.c1 (.slice a1 n1 k1) f.c2 (.slice a2 n2 k2) f.every (.slice ad nd kd))).toArray] w fun e w' => ∃ (ao : Option Addr) (co : Nat), e = .returned (.tuple #[.slice ao (packI f).length co, .int .i64 0]) ∧ St w w' [own 5 1 ao (packI f).length co ((packI f).map (Value.int .u8))] := fun w hx => pack_ok w f a1 a2 ad n1 n2 nd k1 k2 kd hQ hC1 hC2 (hs1.ext hx) (hs2.ext hx) (hsd.ext hx) hE
    rw [hDt] at hsd
    have hEQ : ∀ w b1 b2 bd e1 e2 ed, Ext W w → Sl w 1 (.slice b1 n1 e1) n1 (f.s1.map (Value.int .i64)) → Sl w 1 (.slice b2 n2 e2) n2 (f.s2.map (Value.int .i64)) → Sl w 1 (.slice bd nd ed) nd (Dt.map (Value.int .u8)) → Calls Try.prog 22 #[.agg (pcells [.val (.int .i64 f.wide), .val (.int .i64 f.high), .val (.int .i64 f.parts), .ints f.quant, .ints f.c1, .val (.slice a1 n1 k1), .ints f.c2, .val (.slice a2 n2 k2), .val (.int .i64 f.every), .val (.slice ad nd kd)]).toArray, .agg (pcells [.val (.int .i64 f.wide), .val (.int .i64 f.high), .val (.int .i64 f.parts), .ints f.quant, .ints f.c1, .val (.slice b1 n1 e1), .ints f.c2, .val (.slice b2 n2 e2), .val (.int .i64 f.every), .val (.slice bd nd ed)]).toArray] w fun e w' => e = .returned (.bool true) ∧ Ext w w' := fun w b1 b2 bd e1 e2 ed hx t1 t2 t3 => fileEq_yes w f.wide f.high f.parts f.quant f.c1 f.s1 f.c2 f.s2 f.every Dt a1 a2 ad b1 b2 bd n1 n2 nd k1 k2 kd e1 e2 ed hQ hC1 hC2 (hs1.ext hx) (hs2.ext hx) (hsd.ext hx) t1 t2 t3
    have HEQ : Veil2 _ := ⟨hEQ⟩
    clear hEQ
    obtain ⟨P, hP⟩ : ∃ P, packI f = P := ⟨_, rfl⟩
    rw [hP] at hPA hPF hPb hPl
    obtain ⟨M, hM⟩ : ∃ M, P.length = M := ⟨_, rfl⟩
    rw [hM] at hPA hPF hPb hPl
    rw [hE] at HCK
    have HPA : Veil2 _ := ⟨hPA⟩
    have HPF : Veil2 _ := ⟨hPF⟩
    clear hbk hPb hPA hPF hDt hE hP hM ht1 ht2 hdl
    obtain ⟨wd, hg, p, Q, C1, S1, C2, S2, ev, D⟩ := f
    clear HF1
    dsimp only at *
    show Calls Try.prog 10 #[.agg (pcells (gp wd hg p Q C1 (.slice a1 n1 k1) C2 (.slice a2 n2 k2) ev (.slice ad nd kd))).toArray, .slice ab nb kb] _ _
    by_cases hB : parseE l = 0
    case pos =>
      obtain ⟨hlB, hfB, hpB⟩ := parseE_ok hB
      obtain ⟨z1, z2, z3, z4, z5, z6⟩ := parseF_lens l
      obtain ⟨m1, hm1⟩ : ∃ x, pn1 l = x := ⟨_, rfl⟩
      obtain ⟨m2, hm2⟩ : ∃ x, pn2 l = x := ⟨_, rfl⟩
      obtain ⟨md, hmd⟩ : ∃ x, l.length - pq2 l = x := ⟨_, rfl⟩
      obtain ⟨fb, hfb⟩ : ∃ x, parseF l = x := ⟨_, rfl⟩
      rw [hfb] at hfB hpB z1 z2 z3 z4 z5 z6
      rw [hm1] at z1
      rw [hm2] at z2
      rw [hmd] at z3
      obtain ⟨Db, hDb⟩ : ∃ x, dataI fb = x := ⟨_, rfl⟩
      have hPB : ∀ w, Ext W w → Calls Try.prog 21 #[.slice ab nb kb] w fun e w' => ∃ (b1 b2 bd : Option Addr) (e1 e2 ed : Nat), e = .returned (.tuple #[.agg (pcells (gp fb.wide fb.high fb.parts fb.quant fb.c1 (.slice b1 m1 e1) fb.c2 (.slice b2 m2 e2) fb.every (.slice bd md ed))).toArray, .int .i64 0]) ∧ St w w' [own 3 1 b1 m1 e1 (fb.s1.map (Value.int .i64)), own 3 1 b2 m2 e2 (fb.s2.map (Value.int .i64)), own 5 1 bd md ed (Db.map (Value.int .u8))] := fun w hx => parse_ok w ab nb kb l (hvb.ext hx) HRB hB fb hfb m1 m2 md hm1 hm2 hmd Db hDb
      have hPC : ∀ w b1 b2 bd e1 e2 ed, Sl w 1 (.slice b1 m1 e1) m1 (fb.s1.map (Value.int .i64)) → Sl w 1 (.slice b2 m2 e2) m2 (fb.s2.map (Value.int .i64)) → Sl w 1 (.slice bd md ed) md (Db.map (Value.int .u8)) → Calls Try.prog 19 #[.agg (pcells (gp fb.wide fb.high fb.parts fb.quant fb.c1 (.slice b1 m1 e1) fb.c2 (.slice b2 m2 e2) fb.every (.slice bd md ed))).toArray] w fun e w' => ∃ (ao : Option Addr) (co : Nat), e = .returned (.tuple #[.slice ao nb co, .int .i64 0]) ∧ St w w' [own 5 1 ao nb co (l.map (Value.int .u8))] := fun w b1 b2 bd e1 e2 ed s1 s2 s3 => by
        have := pack_ok w fb b1 b2 bd m1 m2 md e1 e2 ed z4 z5 z6 s1 s2 (hDb ▸ s3) hfB
        rw [hpB, hl] at this
        exact this
      obtain ⟨wb, hgb, pb, Qb, C1b, S1b, C2b, S2b, evb, Dbn⟩ := fb
      dsimp only at hPB hPC
      have HPB : Veil2 _ := ⟨hPB⟩
      have HPC : Veil2 _ := ⟨hPC⟩
      have hQb : Len Qb 64 := z4
      have hC1b : Len C1b 16 := z5
      have hC2b : Len C2b 16 := z6
      have HLL := hid (decide_eq_true (show l = l from rfl))
      clear hPB hPC hDb hfb hmd hm1 hm2 z1 z2 z3 z4 z5 z6 hfB hpB hB
      go_enter Try.func10, Try.ntmps10
      repeat' (first
        | ((with_reducible show wpList _ _ _ (⟨_, .call ⟨.value (.func 18), _, _⟩, _, _, _, _⟩ :: _) _ _); refine wpl_call (f := 18) Try.call18 (by kernel_rfl) ?_; refine ⟨_, (filed_any _), ?_⟩; rintro e w ⟨rfl, hE2⟩; replace hS := hS.ext hE2; clear hE2; refine ⟨_, rfl, ?_⟩; refine put_move ?_; go_step)
        | ((with_reducible show wpList _ _ _ (⟨some 17, _, _, _, _, _⟩ :: _) _ _); refine wpl_call (f := 19) Try.call19 (by kernel_rfl) ?_; refine ⟨_, (HPF.out _ hS.1), ?_⟩; rintro e w ⟨ao, co, rfl, hS2⟩; replace hS := hS.call1 hS2; clear hS2; refine ⟨_, rfl, ?_⟩; refine put_move ?_; go_step)
        | ((with_reducible show wpList _ _ _ (⟨_, .call ⟨.value (.func 20), _, _⟩, _, _, _, _⟩ :: _) _ _); refine wpl_call (f := 20) Try.call20 (by kernel_rfl) ?_; refine ⟨_, (HCK.out _ hS.1), ?_⟩; rintro e w ⟨rfl, hE2⟩; replace hS := hS.ext hE2; clear hE2; refine ⟨_, rfl, ?_⟩; refine put_move ?_; go_step)
        | ((with_reducible show wpList _ _ _ (⟨some 30, _, _, _, _, _⟩ :: _) _ _); refine wpl_call (f := 21) Try.call21 (by kernel_rfl) ?_; refine ⟨_, (HPA.out _ ao co (hS.sl (by (repeat (first | with_reducible exact Pull.head | apply Pull.tail))))), ?_⟩; rintro e w ⟨bb1, bb2, bbd, ee1, ee2, eed, rfl, hS2⟩; replace hS := hS.call hS2; clear hS2; simp only [List.cons_append, List.nil_append] at hS; refine ⟨_, rfl, ?_⟩; refine put_move ?_; go_step)
        | ((with_reducible show wpList _ _ _ (⟨some 38, _, _, _, _, _⟩ :: _) _ _); refine wpl (by kernel_rfl) ?_; have X := HEQ.out w bb1 bb2 bbd ee1 ee2 eed hS.1 (hS.sl (by (repeat (first | with_reducible exact Pull.head | apply Pull.tail)))) (hS.sl (by (repeat (first | with_reducible exact Pull.head | apply Pull.tail)))) (hS.sl (by (repeat (first | with_reducible exact Pull.head | apply Pull.tail)))); refine wp_callF (f := 22) rfl Try.call22 X ?_; clear X; rintro e w ⟨rfl, hE2⟩; refine ⟨_, rfl, ?_⟩; replace hS := hS.ext hE2; clear hE2; refine put_move ?_; go_step)
        | go_skip
        | go_big_skip
        | ((with_reducible show wpList _ _ _ (⟨_, .move _, _, _, _, _⟩ :: _) _ _); (first | go_big_want | go_step); go_step)
        | ((with_reducible show wpList _ _ _ (⟨_, .assign _, _, _, _, _⟩ :: _) _ _); (first | go_big_want | go_step); go_step)
        | ((with_reducible show wpList _ _ _ (⟨_, .pick _ _ _, _, _, _, _⟩ :: _) _ _); first | (refine wplPickT rfl (by kernel_rfl) ?_; go_step) | (refine wplPickF rfl (by kernel_rfl) ?_; go_step))
        | ((with_reducible show wpList _ _ _ (⟨some 34, .binOp .neq 26 _ _ _, _, _, _, _⟩ :: _) _ _); first | (refine wplD _ (V.neq rfl rfl) (by kernel_rfl) (fun hB => ?_) (fun hB => ?_) <;> (try (have hF : False := (by omega); cases hF)) <;> go_step) | (refine wplB _ (V.neq rfl rfl) (by kernel_rfl) (fun hB => ?_) (fun hB => ?_) <;> (try (have hF : False := (absurd hB (by decide)); cases hF)) <;> go_step))
        | ((with_reducible show wpList _ _ _ (⟨_, .unOp .not _ _, _, _, _, _⟩ :: _) _ _); first | (refine wplV _ (V.notD rfl) (by kernel_rfl) ?_; go_step) | (refine wplV _ (V.not rfl) (by kernel_rfl) ?_; go_step))
        | ((with_reducible show wpList _ _ _ (⟨_, .extract _ _, _, _, _, _⟩ :: _) _ _); first | (refine wplV _ (V.extract rfl rfl) (by kernel_rfl) ?_; go_step))
        | ((with_reducible show wpList _ _ _ (⟨_, .binOp .eql 26 _ _ _, _, _, _, _⟩ :: _) _ _); first | (refine wplV _ (V.eql rfl rfl) (by kernel_rfl) ?_; go_step))
        | ((with_reducible show wpList _ _ _ (⟨_, .binOp .neq 4 _ _ _, _, _, _, _⟩ :: _) _ _); first | (refine wplV _ (V.neqBD Try.underlying4 rfl rfl) (by kernel_rfl) ?_; go_step) | (refine wplV _ (V.neqB Try.underlying4 rfl rfl) (by kernel_rfl) ?_; go_step))
        | ((with_reducible show wpList _ _ _ (⟨some 2, .box 50 _, _, _, _, _⟩ :: _) _ _); first | (refine wpl (by kernel_rfl) ?_; apply wp_boxP (o := ⟨some 2, _, _, _, _, _⟩) hS 50 _ rfl _ rfl; clear hS; intro g2 w hS; refine put_move ?_; go_step))
        | ((with_reducible show wpList _ _ _ (⟨_, .load 50 _, _, _, _, _⟩ :: _) _ _); first | (refine wpl (by kernel_rfl) ?_; apply wp_loadPP hS 50 _ rfl _ _ rfl 103 (row_of rfl) _; (case hp => (repeat (first | with_reducible exact Pull.head | apply Pull.tail))); (case hi => (repeat (first | (apply AtP.head; (repeat (first | exact Pre.nil | (apply Pre.ints; (case hn => (first | (with_reducible assumption) | exact Len.rep | exact Len.set (by with_reducible assumption) | exact Len.set Len.rep | exact Len.set (Len.set Len.rep))); (case h => omega); (case hm => rfl)) | apply Pre.val))) | (apply AtP.skipI; (case hn => (first | (with_reducible assumption) | exact Len.rep | exact Len.set (by with_reducible assumption) | exact Len.set Len.rep | exact Len.set (Len.set Len.rep))); (case h => omega); (case ho => rfl)) | apply AtP.skipV))); refine put_move ?_; go_step) | (refine wpl (by kernel_rfl) ?_; apply wp_loadA hS 50 _ rfl _ rfl 103 (row_of rfl) _; (case hp => (repeat (first | with_reducible exact Pull.head | apply Pull.tail))); refine put_move ?_; go_step) | (refine wpl (by kernel_rfl) ?_; apply wp_loadG hS 50 _ rfl _ rfl 103 (row_of rfl) _; (case hp => (repeat (first | with_reducible exact Pull.head | apply Pull.tail))); (case hn => rfl); refine put_move ?_; go_step) | (refine wpl (by kernel_rfl) ?_; apply wp_loadRW hS 50 _ rfl _ _ rfl 103 (row_of rfl) _; (case hc => with_reducible assumption); (case hn => rfl); refine put_move ?_; go_step))
        | ((with_reducible show wpList _ _ _ (⟨some 7, .alloc 50, _, _, _, _⟩ :: _) _ _); first | (refine wpl (by kernel_rfl) ?_; apply wp_allocP (o := ⟨some 7, _, _, _, _, _⟩) hS 50 rfl _ zp50; clear hS; intro g7 w hS; refine put_move ?_; go_step))
        | ((with_reducible show wpList _ _ _ (⟨_, .store 50 _ _, _, _, _, _⟩ :: _) _ _); first | (refine wpl (by kernel_rfl) ?_; apply wp_storePP hS 50 _ _ rfl _ rfl 103 (row_of rfl) _ _; (case hp => (repeat (first | with_reducible exact Pull.head | apply Pull.tail))); (case hy => rfl); (case hn => (repeat (first | exact Pre.nil | (apply Pre.ints; (case hn => (first | (with_reducible assumption) | exact Len.rep | exact Len.set (by with_reducible assumption) | exact Len.set Len.rep | exact Len.set (Len.set Len.rep))); (case h => omega); (case hm => rfl)) | apply Pre.val))); (case hn' => (repeat (first | exact Pre.nil | (apply Pre.ints; (case hn => (first | (with_reducible assumption) | exact Len.rep | exact Len.set (by with_reducible assumption) | exact Len.set Len.rep | exact Len.set (Len.set Len.rep))); (case h => omega); (case hm => rfl)) | apply Pre.val))); (case hv => rfl); (case hd => exact rfl); clear hS; intro w hS) | (refine wpl (by kernel_rfl) ?_; apply wp_storeA hS 50 _ _ rfl _ rfl 103 (row_of rfl) _ _; (case hp => (repeat (first | with_reducible exact Pull.head | apply Pull.tail))); (case hy => rfl); (case hm => (repeat (first | assumption | exact Len.rep | apply Len.set | ((with_reducible show Len (_ :: _) _); exact rfl)))); (case hd => exact rfl); clear hS; intro w hS) | (refine wpl (by kernel_rfl) ?_; apply wp_storeG hS 50 _ _ rfl _ rfl 103 (row_of rfl) _ _; (case hp => (repeat (first | with_reducible exact Pull.head | apply Pull.tail))); (case hy => rfl); (case hn => rfl); (case hn' => rfl); (case hv => rfl); (case hd => exact rfl); clear hS; intro w hS))
        | ((fail_if_success (with_reducible show wpList _ _ _ (_ :: _) _ _)); go_step))
      all_goals (try (have hF : False := (by omega); cases hF))
      repeat' (first
        | ((with_reducible show wpList _ _ _ (⟨some 43, _, _, _, _, _⟩ :: _) _ _); refine wpl_call (f := 21) Try.call21 (by kernel_rfl) ?_; refine ⟨_, (HPB.out _ hS.1), ?_⟩; rintro e w ⟨bc1, bc2, bcd, ec1, ec2, ecd, rfl, hS2⟩; replace hS := hS.call hS2; clear hS2; simp only [List.cons_append, List.nil_append] at hS; refine ⟨_, rfl, ?_⟩; refine put_move ?_; go_step)
        | ((with_reducible show wpList _ _ _ (⟨some 48, _, _, _, _, _⟩ :: _) _ _); refine wpl_call (f := 19) Try.call19 (by kernel_rfl) ?_; refine ⟨_, (HPC.out _ bc1 bc2 bcd ec1 ec2 ecd (hS.sl (by (repeat (first | with_reducible exact Pull.head | apply Pull.tail)))) (hS.sl (by (repeat (first | with_reducible exact Pull.head | apply Pull.tail)))) (hS.sl (by (repeat (first | with_reducible exact Pull.head | apply Pull.tail))))), ?_⟩; rintro e w ⟨aq, cq, rfl, hS2⟩; replace hS := hS.call1 hS2; clear hS2; refine ⟨_, rfl, ?_⟩; refine put_move ?_; go_step)
        | ((with_reducible show wpList _ _ _ (⟨_, .call ⟨.value (.func 23), _, _⟩, _, _, _, _⟩ :: _) _ _); refine wpl_call (f := 23) Try.call23 (by kernel_rfl) ?_; refine ⟨_, (eqByte_any _ _ _ l l (bsl_of (hS.sl (a := aq) (by (repeat (first | with_reducible exact Pull.head | apply Pull.tail))))) (bsl_of (hvb.ext hS.1))), ?_⟩; rintro e w' ⟨rfl, rfl⟩; rw [HLL.out]; refine ⟨_, rfl, ?_⟩; refine put_move ?_; go_step)
        | go_skip
        | go_big_skip
        | ((with_reducible show wpList _ _ _ (⟨_, .move _, _, _, _, _⟩ :: _) _ _); (first | go_big_want | go_step); go_step)
        | ((with_reducible show wpList _ _ _ (⟨_, .assign _, _, _, _, _⟩ :: _) _ _); (first | go_big_want | go_step); go_step)
        | ((with_reducible show wpList _ _ _ (⟨_, .pick _ _ _, _, _, _, _⟩ :: _) _ _); first | (refine wplPickT rfl (by kernel_rfl) ?_; go_step) | (refine wplPickF rfl (by kernel_rfl) ?_; go_step))
        | ((with_reducible show wpList _ _ _ (⟨some 52, .binOp .neq 26 _ _ _, _, _, _, _⟩ :: _) _ _); first | (refine wplD _ (V.neq rfl rfl) (by kernel_rfl) (fun hB => ?_) (fun hB => ?_) <;> (try (have hF : False := (by omega); cases hF)) <;> go_step) | (refine wplB _ (V.neq rfl rfl) (by kernel_rfl) (fun hB => ?_) (fun hB => ?_) <;> (try (have hF : False := (absurd hB (by decide)); cases hF)) <;> go_step))
        | ((with_reducible show wpList _ _ _ (⟨some 60, .binOp .eql 26 _ _ _, _, _, _, _⟩ :: _) _ _); first | (refine wplD _ (V.eql rfl rfl) (by kernel_rfl) (fun hB => ?_) (fun hB => ?_) <;> (try (have hF : False := (by omega); cases hF)) <;> go_step) | (refine wplB _ (V.eql rfl rfl) (by kernel_rfl) (fun hB => ?_) (fun hB => ?_) <;> (try (have hF : False := (absurd hB (by decide)); cases hF)) <;> go_step))
        | ((with_reducible show wpList _ _ _ (⟨some 63, .binOp .eql 26 _ _ _, _, _, _, _⟩ :: _) _ _); first | (refine wplD _ (V.eql rfl rfl) (by kernel_rfl) (fun hB => ?_) (fun hB => ?_) <;> (try (have hF : False := (by omega); cases hF)) <;> go_step) | (refine wplB _ (V.eql rfl rfl) (by kernel_rfl) (fun hB => ?_) (fun hB => ?_) <;> (try (have hF : False := (absurd hB (by decide)); cases hF)) <;> go_step))
        | ((with_reducible show wpList _ _ _ (⟨_, .extract _ _, _, _, _, _⟩ :: _) _ _); first | (refine wplV _ (V.extract rfl rfl) (by kernel_rfl) ?_; go_step))
        | ((with_reducible show wpList _ _ _ (⟨some 9, .alloc 50, _, _, _, _⟩ :: _) _ _); first | (refine wpl (by kernel_rfl) ?_; apply wp_allocP (o := ⟨some 9, _, _, _, _, _⟩) hS 50 rfl _ zp50; clear hS; intro g9 w hS; refine put_move ?_; go_step))
        | ((with_reducible show wpList _ _ _ (⟨_, .store 50 _ _, _, _, _, _⟩ :: _) _ _); first | (refine wpl (by kernel_rfl) ?_; apply wp_storePP hS 50 _ _ rfl _ rfl 103 (row_of rfl) _ _; (case hp => (repeat (first | with_reducible exact Pull.head | apply Pull.tail))); (case hy => rfl); (case hn => (repeat (first | exact Pre.nil | (apply Pre.ints; (case hn => (first | (with_reducible assumption) | exact Len.rep | exact Len.set (by with_reducible assumption) | exact Len.set Len.rep | exact Len.set (Len.set Len.rep))); (case h => omega); (case hm => rfl)) | apply Pre.val))); (case hn' => (repeat (first | exact Pre.nil | (apply Pre.ints; (case hn => (first | (with_reducible assumption) | exact Len.rep | exact Len.set (by with_reducible assumption) | exact Len.set Len.rep | exact Len.set (Len.set Len.rep))); (case h => omega); (case hm => rfl)) | apply Pre.val))); (case hv => rfl); (case hd => exact rfl); clear hS; intro w hS) | (refine wpl (by kernel_rfl) ?_; apply wp_storeA hS 50 _ _ rfl _ rfl 103 (row_of rfl) _ _; (case hp => (repeat (first | with_reducible exact Pull.head | apply Pull.tail))); (case hy => rfl); (case hm => (repeat (first | assumption | exact Len.rep | apply Len.set | ((with_reducible show Len (_ :: _) _); exact rfl)))); (case hd => exact rfl); clear hS; intro w hS) | (refine wpl (by kernel_rfl) ?_; apply wp_storeG hS 50 _ _ rfl _ rfl 103 (row_of rfl) _ _; (case hp => (repeat (first | with_reducible exact Pull.head | apply Pull.tail))); (case hy => rfl); (case hn => rfl); (case hn' => rfl); (case hv => rfl); (case hd => exact rfl); clear hS; intro w hS))
        | ((with_reducible show wpList _ _ _ (⟨_, .load 50 _, _, _, _, _⟩ :: _) _ _); first | (refine wpl (by kernel_rfl) ?_; apply wp_loadPP hS 50 _ rfl _ _ rfl 103 (row_of rfl) _; (case hp => (repeat (first | with_reducible exact Pull.head | apply Pull.tail))); (case hi => (repeat (first | (apply AtP.head; (repeat (first | exact Pre.nil | (apply Pre.ints; (case hn => (first | (with_reducible assumption) | exact Len.rep | exact Len.set (by with_reducible assumption) | exact Len.set Len.rep | exact Len.set (Len.set Len.rep))); (case h => omega); (case hm => rfl)) | apply Pre.val))) | (apply AtP.skipI; (case hn => (first | (with_reducible assumption) | exact Len.rep | exact Len.set (by with_reducible assumption) | exact Len.set Len.rep | exact Len.set (Len.set Len.rep))); (case h => omega); (case ho => rfl)) | apply AtP.skipV))); refine put_move ?_; go_step) | (refine wpl (by kernel_rfl) ?_; apply wp_loadA hS 50 _ rfl _ rfl 103 (row_of rfl) _; (case hp => (repeat (first | with_reducible exact Pull.head | apply Pull.tail))); refine put_move ?_; go_step) | (refine wpl (by kernel_rfl) ?_; apply wp_loadG hS 50 _ rfl _ rfl 103 (row_of rfl) _; (case hp => (repeat (first | with_reducible exact Pull.head | apply Pull.tail))); (case hn => rfl); refine put_move ?_; go_step) | (refine wpl (by kernel_rfl) ?_; apply wp_loadRW hS 50 _ rfl _ _ rfl 103 (row_of rfl) _; (case hc => with_reducible assumption); (case hn => rfl); refine put_move ?_; go_step))
        | ((fail_if_success (with_reducible show wpList _ _ _ (_ :: _) _ _)); go_step))
      all_goals (try (have hF : False := (by omega); cases hF))
      all_goals (go_ret; exact ⟨rfl, hS.1⟩)
    case neg =>
      have hPB : ∀ w, Ext W w → Calls Try.prog 21 #[.slice ab nb kb] w fun e w' => e = .returned (.tuple #[fz, .int .i64 (parseE l)]) ∧ Ext w w' := fun w hx => parse_bad w ab nb kb l (hvb.ext hx) HRB (by omega) hB
      obtain ⟨EB, hEB⟩ : ∃ E, parseE l = E := ⟨_, rfl⟩
      rw [hEB] at hPB hB
      have HPB : Veil2 _ := ⟨hPB⟩
      clear hEB hPB
      go_enter Try.func10, Try.ntmps10
      repeat' (first
        | ((with_reducible show wpList _ _ _ (⟨_, .call ⟨.value (.func 18), _, _⟩, _, _, _, _⟩ :: _) _ _); refine wpl_call (f := 18) Try.call18 (by kernel_rfl) ?_; refine ⟨_, (filed_any _), ?_⟩; rintro e w ⟨rfl, hE2⟩; replace hS := hS.ext hE2; clear hE2; refine ⟨_, rfl, ?_⟩; refine put_move ?_; go_step)
        | ((with_reducible show wpList _ _ _ (⟨some 17, _, _, _, _, _⟩ :: _) _ _); refine wpl_call (f := 19) Try.call19 (by kernel_rfl) ?_; refine ⟨_, (HPF.out _ hS.1), ?_⟩; rintro e w ⟨ao, co, rfl, hS2⟩; replace hS := hS.call1 hS2; clear hS2; refine ⟨_, rfl, ?_⟩; refine put_move ?_; go_step)
        | ((with_reducible show wpList _ _ _ (⟨_, .call ⟨.value (.func 20), _, _⟩, _, _, _, _⟩ :: _) _ _); refine wpl_call (f := 20) Try.call20 (by kernel_rfl) ?_; refine ⟨_, (HCK.out _ hS.1), ?_⟩; rintro e w ⟨rfl, hE2⟩; replace hS := hS.ext hE2; clear hE2; refine ⟨_, rfl, ?_⟩; refine put_move ?_; go_step)
        | ((with_reducible show wpList _ _ _ (⟨some 30, _, _, _, _, _⟩ :: _) _ _); refine wpl_call (f := 21) Try.call21 (by kernel_rfl) ?_; refine ⟨_, (HPA.out _ ao co (hS.sl (by (repeat (first | with_reducible exact Pull.head | apply Pull.tail))))), ?_⟩; rintro e w ⟨bb1, bb2, bbd, ee1, ee2, eed, rfl, hS2⟩; replace hS := hS.call hS2; clear hS2; simp only [List.cons_append, List.nil_append] at hS; refine ⟨_, rfl, ?_⟩; refine put_move ?_; go_step)
        | ((with_reducible show wpList _ _ _ (⟨some 38, _, _, _, _, _⟩ :: _) _ _); refine wpl (by kernel_rfl) ?_; have X := HEQ.out w bb1 bb2 bbd ee1 ee2 eed hS.1 (hS.sl (by (repeat (first | with_reducible exact Pull.head | apply Pull.tail)))) (hS.sl (by (repeat (first | with_reducible exact Pull.head | apply Pull.tail)))) (hS.sl (by (repeat (first | with_reducible exact Pull.head | apply Pull.tail)))); refine wp_callF (f := 22) rfl Try.call22 X ?_; clear X; rintro e w ⟨rfl, hE2⟩; refine ⟨_, rfl, ?_⟩; replace hS := hS.ext hE2; clear hE2; refine put_move ?_; go_step)
        | go_skip
        | go_big_skip
        | ((with_reducible show wpList _ _ _ (⟨_, .move _, _, _, _, _⟩ :: _) _ _); (first | go_big_want | go_step); go_step)
        | ((with_reducible show wpList _ _ _ (⟨_, .assign _, _, _, _, _⟩ :: _) _ _); (first | go_big_want | go_step); go_step)
        | ((with_reducible show wpList _ _ _ (⟨_, .pick _ _ _, _, _, _, _⟩ :: _) _ _); first | (refine wplPickT rfl (by kernel_rfl) ?_; go_step) | (refine wplPickF rfl (by kernel_rfl) ?_; go_step))
        | ((with_reducible show wpList _ _ _ (⟨some 34, .binOp .neq 26 _ _ _, _, _, _, _⟩ :: _) _ _); first | (refine wplD _ (V.neq rfl rfl) (by kernel_rfl) (fun hB => ?_) (fun hB => ?_) <;> (try (have hF : False := (by omega); cases hF)) <;> go_step) | (refine wplB _ (V.neq rfl rfl) (by kernel_rfl) (fun hB => ?_) (fun hB => ?_) <;> (try (have hF : False := (absurd hB (by decide)); cases hF)) <;> go_step))
        | ((with_reducible show wpList _ _ _ (⟨_, .unOp .not _ _, _, _, _, _⟩ :: _) _ _); first | (refine wplV _ (V.notD rfl) (by kernel_rfl) ?_; go_step) | (refine wplV _ (V.not rfl) (by kernel_rfl) ?_; go_step))
        | ((with_reducible show wpList _ _ _ (⟨_, .extract _ _, _, _, _, _⟩ :: _) _ _); first | (refine wplV _ (V.extract rfl rfl) (by kernel_rfl) ?_; go_step))
        | ((with_reducible show wpList _ _ _ (⟨_, .binOp .eql 26 _ _ _, _, _, _, _⟩ :: _) _ _); first | (refine wplV _ (V.eql rfl rfl) (by kernel_rfl) ?_; go_step))
        | ((with_reducible show wpList _ _ _ (⟨_, .binOp .neq 4 _ _ _, _, _, _, _⟩ :: _) _ _); first | (refine wplV _ (V.neqBD Try.underlying4 rfl rfl) (by kernel_rfl) ?_; go_step) | (refine wplV _ (V.neqB Try.underlying4 rfl rfl) (by kernel_rfl) ?_; go_step))
        | ((with_reducible show wpList _ _ _ (⟨some 2, .box 50 _, _, _, _, _⟩ :: _) _ _); first | (refine wpl (by kernel_rfl) ?_; apply wp_boxP (o := ⟨some 2, _, _, _, _, _⟩) hS 50 _ rfl _ rfl; clear hS; intro g2 w hS; refine put_move ?_; go_step))
        | ((with_reducible show wpList _ _ _ (⟨_, .load 50 _, _, _, _, _⟩ :: _) _ _); first | (refine wpl (by kernel_rfl) ?_; apply wp_loadPP hS 50 _ rfl _ _ rfl 103 (row_of rfl) _; (case hp => (repeat (first | with_reducible exact Pull.head | apply Pull.tail))); (case hi => (repeat (first | (apply AtP.head; (repeat (first | exact Pre.nil | (apply Pre.ints; (case hn => (first | (with_reducible assumption) | exact Len.rep | exact Len.set (by with_reducible assumption) | exact Len.set Len.rep | exact Len.set (Len.set Len.rep))); (case h => omega); (case hm => rfl)) | apply Pre.val))) | (apply AtP.skipI; (case hn => (first | (with_reducible assumption) | exact Len.rep | exact Len.set (by with_reducible assumption) | exact Len.set Len.rep | exact Len.set (Len.set Len.rep))); (case h => omega); (case ho => rfl)) | apply AtP.skipV))); refine put_move ?_; go_step) | (refine wpl (by kernel_rfl) ?_; apply wp_loadA hS 50 _ rfl _ rfl 103 (row_of rfl) _; (case hp => (repeat (first | with_reducible exact Pull.head | apply Pull.tail))); refine put_move ?_; go_step) | (refine wpl (by kernel_rfl) ?_; apply wp_loadG hS 50 _ rfl _ rfl 103 (row_of rfl) _; (case hp => (repeat (first | with_reducible exact Pull.head | apply Pull.tail))); (case hn => rfl); refine put_move ?_; go_step) | (refine wpl (by kernel_rfl) ?_; apply wp_loadRW hS 50 _ rfl _ _ rfl 103 (row_of rfl) _; (case hc => with_reducible assumption); (case hn => rfl); refine put_move ?_; go_step))
        | ((with_reducible show wpList _ _ _ (⟨some 7, .alloc 50, _, _, _, _⟩ :: _) _ _); first | (refine wpl (by kernel_rfl) ?_; apply wp_allocP (o := ⟨some 7, _, _, _, _, _⟩) hS 50 rfl _ zp50; clear hS; intro g7 w hS; refine put_move ?_; go_step))
        | ((with_reducible show wpList _ _ _ (⟨_, .store 50 _ _, _, _, _, _⟩ :: _) _ _); first | (refine wpl (by kernel_rfl) ?_; apply wp_storePP hS 50 _ _ rfl _ rfl 103 (row_of rfl) _ _; (case hp => (repeat (first | with_reducible exact Pull.head | apply Pull.tail))); (case hy => rfl); (case hn => (repeat (first | exact Pre.nil | (apply Pre.ints; (case hn => (first | (with_reducible assumption) | exact Len.rep | exact Len.set (by with_reducible assumption) | exact Len.set Len.rep | exact Len.set (Len.set Len.rep))); (case h => omega); (case hm => rfl)) | apply Pre.val))); (case hn' => (repeat (first | exact Pre.nil | (apply Pre.ints; (case hn => (first | (with_reducible assumption) | exact Len.rep | exact Len.set (by with_reducible assumption) | exact Len.set Len.rep | exact Len.set (Len.set Len.rep))); (case h => omega); (case hm => rfl)) | apply Pre.val))); (case hv => rfl); (case hd => exact rfl); clear hS; intro w hS) | (refine wpl (by kernel_rfl) ?_; apply wp_storeA hS 50 _ _ rfl _ rfl 103 (row_of rfl) _ _; (case hp => (repeat (first | with_reducible exact Pull.head | apply Pull.tail))); (case hy => rfl); (case hm => (repeat (first | assumption | exact Len.rep | apply Len.set | ((with_reducible show Len (_ :: _) _); exact rfl)))); (case hd => exact rfl); clear hS; intro w hS) | (refine wpl (by kernel_rfl) ?_; apply wp_storeG hS 50 _ _ rfl _ rfl 103 (row_of rfl) _ _; (case hp => (repeat (first | with_reducible exact Pull.head | apply Pull.tail))); (case hy => rfl); (case hn => rfl); (case hn' => rfl); (case hv => rfl); (case hd => exact rfl); clear hS; intro w hS))
        | ((fail_if_success (with_reducible show wpList _ _ _ (_ :: _) _ _)); go_step))
      all_goals (try (have hF : False := (by omega); cases hF))
      repeat' (first
        | ((with_reducible show wpList _ _ _ (⟨some 43, _, _, _, _, _⟩ :: _) _ _); refine wpl_call (f := 21) Try.call21 (by kernel_rfl) ?_; refine ⟨_, (HPB.out _ hS.1), ?_⟩; rintro e w ⟨rfl, hE2⟩; replace hS := hS.ext hE2; clear hE2; refine ⟨_, rfl, ?_⟩; refine put_move ?_; go_step)
        | ((with_reducible show wpList _ _ _ (⟨some 48, _, _, _, _, _⟩ :: _) _ _); refine wpl_call (f := 19) Try.call19 (by kernel_rfl) ?_; refine ⟨_, (HP0.out _), ?_⟩; rintro e w ⟨rfl, hE2⟩; replace hS := hS.ext hE2; clear hE2; refine ⟨_, rfl, ?_⟩; refine put_move ?_; go_step)
        | ((with_reducible show wpList _ _ _ (⟨some 56, _, _, _, _, _⟩ :: _) _ _); refine wpl_call (f := 22) Try.call22 (by kernel_rfl) ?_; refine ⟨_, (HEQ0.out _), ?_⟩; rintro e w ⟨rfl, hE2⟩; replace hS := hS.ext hE2; clear hE2; refine ⟨_, rfl, ?_⟩; refine put_move ?_; go_step)
        | ((with_reducible show wpList _ _ _ (⟨some 55, _, _, _, _, _⟩ :: _) _ _); refine wplV _ (V.build (vs := []) rfl build_f0) (by kernel_rfl) ?_; go_step)
        | go_skip
        | go_big_skip
        | ((with_reducible show wpList _ _ _ (⟨_, .move _, _, _, _, _⟩ :: _) _ _); (first | go_big_want | go_step); go_step)
        | ((with_reducible show wpList _ _ _ (⟨_, .assign _, _, _, _, _⟩ :: _) _ _); (first | go_big_want | go_step); go_step)
        | ((with_reducible show wpList _ _ _ (⟨_, .pick _ _ _, _, _, _, _⟩ :: _) _ _); first | (refine wplPickT rfl (by kernel_rfl) ?_; go_step) | (refine wplPickF rfl (by kernel_rfl) ?_; go_step))
        | ((with_reducible show wpList _ _ _ (⟨some 52, .binOp .neq 26 _ _ _, _, _, _, _⟩ :: _) _ _); first | (refine wplD _ (V.neq rfl rfl) (by kernel_rfl) (fun hB => ?_) (fun hB => ?_) <;> (try (have hF : False := (by omega); cases hF)) <;> go_step) | (refine wplB _ (V.neq rfl rfl) (by kernel_rfl) (fun hB => ?_) (fun hB => ?_) <;> (try (have hF : False := (absurd hB (by decide)); cases hF)) <;> go_step))
        | ((with_reducible show wpList _ _ _ (⟨some 60, .binOp .eql 26 _ _ _, _, _, _, _⟩ :: _) _ _); first | (refine wplD _ (V.eql rfl rfl) (by kernel_rfl) (fun hB => ?_) (fun hB => ?_) <;> (try (have hF : False := (by omega); cases hF)) <;> go_step) | (refine wplB _ (V.eql rfl rfl) (by kernel_rfl) (fun hB => ?_) (fun hB => ?_) <;> (try (have hF : False := (absurd hB (by decide)); cases hF)) <;> go_step))
        | ((with_reducible show wpList _ _ _ (⟨some 63, .binOp .eql 26 _ _ _, _, _, _, _⟩ :: _) _ _); first | (refine wplD _ (V.eql rfl rfl) (by kernel_rfl) (fun hB => ?_) (fun hB => ?_) <;> (try (have hF : False := (by omega); cases hF)) <;> go_step) | (refine wplB _ (V.eql rfl rfl) (by kernel_rfl) (fun hB => ?_) (fun hB => ?_) <;> (try (have hF : False := (absurd hB (by decide)); cases hF)) <;> go_step))
        | ((with_reducible show wpList _ _ _ (⟨_, .extract _ _, _, _, _, _⟩ :: _) _ _); first | (refine wplV _ (V.extract rfl rfl) (by kernel_rfl) ?_; go_step))
        | ((with_reducible show wpList _ _ _ (⟨some 9, .alloc 50, _, _, _, _⟩ :: _) _ _); first | (refine wpl (by kernel_rfl) ?_; apply wp_allocP (o := ⟨some 9, _, _, _, _, _⟩) hS 50 rfl _ zp50; clear hS; intro g9 w hS; refine put_move ?_; go_step))
        | ((with_reducible show wpList _ _ _ (⟨_, .store 50 _ _, _, _, _, _⟩ :: _) _ _); first | (refine wpl (by kernel_rfl) ?_; apply wp_storePP hS 50 _ _ rfl _ rfl 103 (row_of rfl) _ _; (case hp => (repeat (first | with_reducible exact Pull.head | apply Pull.tail))); (case hy => rfl); (case hn => (repeat (first | exact Pre.nil | (apply Pre.ints; (case hn => (first | (with_reducible assumption) | exact Len.rep | exact Len.set (by with_reducible assumption) | exact Len.set Len.rep | exact Len.set (Len.set Len.rep))); (case h => omega); (case hm => rfl)) | apply Pre.val))); (case hn' => (repeat (first | exact Pre.nil | (apply Pre.ints; (case hn => (first | (with_reducible assumption) | exact Len.rep | exact Len.set (by with_reducible assumption) | exact Len.set Len.rep | exact Len.set (Len.set Len.rep))); (case h => omega); (case hm => rfl)) | apply Pre.val))); (case hv => rfl); (case hd => exact rfl); clear hS; intro w hS) | (refine wpl (by kernel_rfl) ?_; apply wp_storeA hS 50 _ _ rfl _ rfl 103 (row_of rfl) _ _; (case hp => (repeat (first | with_reducible exact Pull.head | apply Pull.tail))); (case hy => rfl); (case hm => (repeat (first | assumption | exact Len.rep | apply Len.set | ((with_reducible show Len (_ :: _) _); exact rfl)))); (case hd => exact rfl); clear hS; intro w hS) | (refine wpl (by kernel_rfl) ?_; apply wp_storeG hS 50 _ _ rfl _ rfl 103 (row_of rfl) _ _; (case hp => (repeat (first | with_reducible exact Pull.head | apply Pull.tail))); (case hy => rfl); (case hn => rfl); (case hn' => rfl); (case hv => rfl); (case hd => exact rfl); clear hS; intro w hS))
        | ((with_reducible show wpList _ _ _ (⟨_, .load 50 _, _, _, _, _⟩ :: _) _ _); first | (refine wpl (by kernel_rfl) ?_; apply wp_loadPP hS 50 _ rfl _ _ rfl 103 (row_of rfl) _; (case hp => (repeat (first | with_reducible exact Pull.head | apply Pull.tail))); (case hi => (repeat (first | (apply AtP.head; (repeat (first | exact Pre.nil | (apply Pre.ints; (case hn => (first | (with_reducible assumption) | exact Len.rep | exact Len.set (by with_reducible assumption) | exact Len.set Len.rep | exact Len.set (Len.set Len.rep))); (case h => omega); (case hm => rfl)) | apply Pre.val))) | (apply AtP.skipI; (case hn => (first | (with_reducible assumption) | exact Len.rep | exact Len.set (by with_reducible assumption) | exact Len.set Len.rep | exact Len.set (Len.set Len.rep))); (case h => omega); (case ho => rfl)) | apply AtP.skipV))); refine put_move ?_; go_step) | (refine wpl (by kernel_rfl) ?_; apply wp_loadA hS 50 _ rfl _ rfl 103 (row_of rfl) _; (case hp => (repeat (first | with_reducible exact Pull.head | apply Pull.tail))); refine put_move ?_; go_step) | (refine wpl (by kernel_rfl) ?_; apply wp_loadG hS 50 _ rfl _ rfl 103 (row_of rfl) _; (case hp => (repeat (first | with_reducible exact Pull.head | apply Pull.tail))); (case hn => rfl); refine put_move ?_; go_step) | (refine wpl (by kernel_rfl) ?_; apply wp_loadRW hS 50 _ rfl _ _ rfl 103 (row_of rfl) _; (case hc => with_reducible assumption); (case hn => rfl); refine put_move ?_; go_step))
        | ((fail_if_success (with_reducible show wpList _ _ _ (_ :: _) _ _)); go_step))
      all_goals (try (have hF : False := (by omega); cases hF))
      all_goals (go_ret; exact ⟨rfl, hS.1⟩)
  case neg =>
    have hPF : ∀ w, Ext W w → Calls Try.prog 19 #[.agg (pcells (gp f.wide f.high f.parts f.quant f.c1 (.slice a1 n1 k1) f.c2 (.slice a2 n2 k2) f.every (.slice ad nd kd))).toArray] w fun e w' => e = .returned (.tuple #[.slice none 0 0, .int .i64 (fileE f)]) ∧ Ext w w' := fun w hx => pack_bad w f a1 a2 ad n1 n2 nd k1 k2 kd hQ hC1 hC2 (hs1.ext hx) (hs2.ext hx) b1 b2 b3 hld _ rfl hE
    obtain ⟨E, hE2⟩ : ∃ E, fileE f = E := ⟨_, rfl⟩
    rw [hE2] at hPF hE HCK
    have HPF : Veil2 _ := ⟨hPF⟩
    clear hE2 hsd hPF
    obtain ⟨wd, hg, p, Q, C1, S1, C2, S2, ev, D⟩ := f
    clear HF1
    dsimp only at *
    show Calls Try.prog 10 #[.agg (pcells (gp wd hg p Q C1 (.slice a1 n1 k1) C2 (.slice a2 n2 k2) ev (.slice ad nd kd))).toArray, .slice ab nb kb] _ _
    by_cases hB : parseE l = 0
    case pos =>
      obtain ⟨hlB, hfB, hpB⟩ := parseE_ok hB
      obtain ⟨z1, z2, z3, z4, z5, z6⟩ := parseF_lens l
      obtain ⟨m1, hm1⟩ : ∃ x, pn1 l = x := ⟨_, rfl⟩
      obtain ⟨m2, hm2⟩ : ∃ x, pn2 l = x := ⟨_, rfl⟩
      obtain ⟨md, hmd⟩ : ∃ x, l.length - pq2 l = x := ⟨_, rfl⟩
      obtain ⟨fb, hfb⟩ : ∃ x, parseF l = x := ⟨_, rfl⟩
      rw [hfb] at hfB hpB z1 z2 z3 z4 z5 z6
      rw [hm1] at z1
      rw [hm2] at z2
      rw [hmd] at z3
      obtain ⟨Db, hDb⟩ : ∃ x, dataI fb = x := ⟨_, rfl⟩
      have hPB : ∀ w, Ext W w → Calls Try.prog 21 #[.slice ab nb kb] w fun e w' => ∃ (b1 b2 bd : Option Addr) (e1 e2 ed : Nat), e = .returned (.tuple #[.agg (pcells (gp fb.wide fb.high fb.parts fb.quant fb.c1 (.slice b1 m1 e1) fb.c2 (.slice b2 m2 e2) fb.every (.slice bd md ed))).toArray, .int .i64 0]) ∧ St w w' [own 3 1 b1 m1 e1 (fb.s1.map (Value.int .i64)), own 3 1 b2 m2 e2 (fb.s2.map (Value.int .i64)), own 5 1 bd md ed (Db.map (Value.int .u8))] := fun w hx => parse_ok w ab nb kb l (hvb.ext hx) HRB hB fb hfb m1 m2 md hm1 hm2 hmd Db hDb
      have hPC : ∀ w b1 b2 bd e1 e2 ed, Sl w 1 (.slice b1 m1 e1) m1 (fb.s1.map (Value.int .i64)) → Sl w 1 (.slice b2 m2 e2) m2 (fb.s2.map (Value.int .i64)) → Sl w 1 (.slice bd md ed) md (Db.map (Value.int .u8)) → Calls Try.prog 19 #[.agg (pcells (gp fb.wide fb.high fb.parts fb.quant fb.c1 (.slice b1 m1 e1) fb.c2 (.slice b2 m2 e2) fb.every (.slice bd md ed))).toArray] w fun e w' => ∃ (ao : Option Addr) (co : Nat), e = .returned (.tuple #[.slice ao nb co, .int .i64 0]) ∧ St w w' [own 5 1 ao nb co (l.map (Value.int .u8))] := fun w b1 b2 bd e1 e2 ed s1 s2 s3 => by
        have := pack_ok w fb b1 b2 bd m1 m2 md e1 e2 ed z4 z5 z6 s1 s2 (hDb ▸ s3) hfB
        rw [hpB, hl] at this
        exact this
      obtain ⟨wb, hgb, pb, Qb, C1b, S1b, C2b, S2b, evb, Dbn⟩ := fb
      dsimp only at hPB hPC
      have HPB : Veil2 _ := ⟨hPB⟩
      have HPC : Veil2 _ := ⟨hPC⟩
      have hQb : Len Qb 64 := z4
      have hC1b : Len C1b 16 := z5
      have hC2b : Len C2b 16 := z6
      have HLL := hid (decide_eq_true (show l = l from rfl))
      clear hPB hPC hDb hfb hmd hm1 hm2 z1 z2 z3 z4 z5 z6 hfB hpB hB
      go_enter Try.func10, Try.ntmps10
      repeat' (first
        | ((with_reducible show wpList _ _ _ (⟨_, .call ⟨.value (.func 18), _, _⟩, _, _, _, _⟩ :: _) _ _); refine wpl_call (f := 18) Try.call18 (by kernel_rfl) ?_; refine ⟨_, (filed_any _), ?_⟩; rintro e w ⟨rfl, hE2⟩; replace hS := hS.ext hE2; clear hE2; refine ⟨_, rfl, ?_⟩; refine put_move ?_; go_step)
        | ((with_reducible show wpList _ _ _ (⟨some 17, _, _, _, _, _⟩ :: _) _ _); refine wpl_call (f := 19) Try.call19 (by kernel_rfl) ?_; refine ⟨_, (HPF.out _ hS.1), ?_⟩; rintro e w ⟨rfl, hE2⟩; replace hS := hS.ext hE2; clear hE2; refine ⟨_, rfl, ?_⟩; refine put_move ?_; go_step)
        | ((with_reducible show wpList _ _ _ (⟨_, .call ⟨.value (.func 20), _, _⟩, _, _, _, _⟩ :: _) _ _); refine wpl_call (f := 20) Try.call20 (by kernel_rfl) ?_; refine ⟨_, (HCK.out _ hS.1), ?_⟩; rintro e w ⟨rfl, hE2⟩; replace hS := hS.ext hE2; clear hE2; refine ⟨_, rfl, ?_⟩; refine put_move ?_; go_step)
        | go_skip
        | go_big_skip
        | ((with_reducible show wpList _ _ _ (⟨_, .move _, _, _, _, _⟩ :: _) _ _); (first | go_big_want | go_step); go_step)
        | ((with_reducible show wpList _ _ _ (⟨_, .assign _, _, _, _, _⟩ :: _) _ _); (first | go_big_want | go_step); go_step)
        | ((with_reducible show wpList _ _ _ (⟨_, .pick _ _ _, _, _, _, _⟩ :: _) _ _); first | (refine wplPickT rfl (by kernel_rfl) ?_; go_step) | (refine wplPickF rfl (by kernel_rfl) ?_; go_step))
        | ((with_reducible show wpList _ _ _ (⟨some 34, .binOp .neq 26 _ _ _, _, _, _, _⟩ :: _) _ _); first | (refine wplD _ (V.neq rfl rfl) (by kernel_rfl) (fun hB => ?_) (fun hB => ?_) <;> (try (have hF : False := (by omega); cases hF)) <;> go_step) | (refine wplB _ (V.neq rfl rfl) (by kernel_rfl) (fun hB => ?_) (fun hB => ?_) <;> (try (have hF : False := (absurd hB (by decide)); cases hF)) <;> go_step))
        | ((with_reducible show wpList _ _ _ (⟨_, .unOp .not _ _, _, _, _, _⟩ :: _) _ _); first | (refine wplV _ (V.notD rfl) (by kernel_rfl) ?_; go_step) | (refine wplV _ (V.not rfl) (by kernel_rfl) ?_; go_step))
        | ((with_reducible show wpList _ _ _ (⟨_, .extract _ _, _, _, _, _⟩ :: _) _ _); first | (refine wplV _ (V.extract rfl rfl) (by kernel_rfl) ?_; go_step))
        | ((with_reducible show wpList _ _ _ (⟨_, .binOp .eql 26 _ _ _, _, _, _, _⟩ :: _) _ _); first | (refine wplV _ (V.eql rfl rfl) (by kernel_rfl) ?_; go_step))
        | ((with_reducible show wpList _ _ _ (⟨_, .binOp .neq 4 _ _ _, _, _, _, _⟩ :: _) _ _); first | (refine wplV _ (V.neqBD Try.underlying4 rfl rfl) (by kernel_rfl) ?_; go_step) | (refine wplV _ (V.neqB Try.underlying4 rfl rfl) (by kernel_rfl) ?_; go_step))
        | ((with_reducible show wpList _ _ _ (⟨some 2, .box 50 _, _, _, _, _⟩ :: _) _ _); first | (refine wpl (by kernel_rfl) ?_; apply wp_boxP (o := ⟨some 2, _, _, _, _, _⟩) hS 50 _ rfl _ rfl; clear hS; intro g2 w hS; refine put_move ?_; go_step))
        | ((with_reducible show wpList _ _ _ (⟨_, .load 50 _, _, _, _, _⟩ :: _) _ _); first | (refine wpl (by kernel_rfl) ?_; apply wp_loadPP hS 50 _ rfl _ _ rfl 103 (row_of rfl) _; (case hp => (repeat (first | with_reducible exact Pull.head | apply Pull.tail))); (case hi => (repeat (first | (apply AtP.head; (repeat (first | exact Pre.nil | (apply Pre.ints; (case hn => (first | (with_reducible assumption) | exact Len.rep | exact Len.set (by with_reducible assumption) | exact Len.set Len.rep | exact Len.set (Len.set Len.rep))); (case h => omega); (case hm => rfl)) | apply Pre.val))) | (apply AtP.skipI; (case hn => (first | (with_reducible assumption) | exact Len.rep | exact Len.set (by with_reducible assumption) | exact Len.set Len.rep | exact Len.set (Len.set Len.rep))); (case h => omega); (case ho => rfl)) | apply AtP.skipV))); refine put_move ?_; go_step) | (refine wpl (by kernel_rfl) ?_; apply wp_loadA hS 50 _ rfl _ rfl 103 (row_of rfl) _; (case hp => (repeat (first | with_reducible exact Pull.head | apply Pull.tail))); refine put_move ?_; go_step) | (refine wpl (by kernel_rfl) ?_; apply wp_loadG hS 50 _ rfl _ rfl 103 (row_of rfl) _; (case hp => (repeat (first | with_reducible exact Pull.head | apply Pull.tail))); (case hn => rfl); refine put_move ?_; go_step) | (refine wpl (by kernel_rfl) ?_; apply wp_loadRW hS 50 _ rfl _ _ rfl 103 (row_of rfl) _; (case hc => with_reducible assumption); (case hn => rfl); refine put_move ?_; go_step))
        | ((with_reducible show wpList _ _ _ (⟨some 7, .alloc 50, _, _, _, _⟩ :: _) _ _); first | (refine wpl (by kernel_rfl) ?_; apply wp_allocP (o := ⟨some 7, _, _, _, _, _⟩) hS 50 rfl _ zp50; clear hS; intro g7 w hS; refine put_move ?_; go_step))
        | ((with_reducible show wpList _ _ _ (⟨_, .store 50 _ _, _, _, _, _⟩ :: _) _ _); first | (refine wpl (by kernel_rfl) ?_; apply wp_storePP hS 50 _ _ rfl _ rfl 103 (row_of rfl) _ _; (case hp => (repeat (first | with_reducible exact Pull.head | apply Pull.tail))); (case hy => rfl); (case hn => (repeat (first | exact Pre.nil | (apply Pre.ints; (case hn => (first | (with_reducible assumption) | exact Len.rep | exact Len.set (by with_reducible assumption) | exact Len.set Len.rep | exact Len.set (Len.set Len.rep))); (case h => omega); (case hm => rfl)) | apply Pre.val))); (case hn' => (repeat (first | exact Pre.nil | (apply Pre.ints; (case hn => (first | (with_reducible assumption) | exact Len.rep | exact Len.set (by with_reducible assumption) | exact Len.set Len.rep | exact Len.set (Len.set Len.rep))); (case h => omega); (case hm => rfl)) | apply Pre.val))); (case hv => rfl); (case hd => exact rfl); clear hS; intro w hS) | (refine wpl (by kernel_rfl) ?_; apply wp_storeA hS 50 _ _ rfl _ rfl 103 (row_of rfl) _ _; (case hp => (repeat (first | with_reducible exact Pull.head | apply Pull.tail))); (case hy => rfl); (case hm => (repeat (first | assumption | exact Len.rep | apply Len.set | ((with_reducible show Len (_ :: _) _); exact rfl)))); (case hd => exact rfl); clear hS; intro w hS) | (refine wpl (by kernel_rfl) ?_; apply wp_storeG hS 50 _ _ rfl _ rfl 103 (row_of rfl) _ _; (case hp => (repeat (first | with_reducible exact Pull.head | apply Pull.tail))); (case hy => rfl); (case hn => rfl); (case hn' => rfl); (case hv => rfl); (case hd => exact rfl); clear hS; intro w hS))
        | ((fail_if_success (with_reducible show wpList _ _ _ (_ :: _) _ _)); go_step))
      all_goals (try (have hF : False := (by omega); cases hF))
      repeat' (first
        | ((with_reducible show wpList _ _ _ (⟨some 43, _, _, _, _, _⟩ :: _) _ _); refine wpl_call (f := 21) Try.call21 (by kernel_rfl) ?_; refine ⟨_, (HPB.out _ hS.1), ?_⟩; rintro e w ⟨bc1, bc2, bcd, ec1, ec2, ecd, rfl, hS2⟩; replace hS := hS.call hS2; clear hS2; simp only [List.cons_append, List.nil_append] at hS; refine ⟨_, rfl, ?_⟩; refine put_move ?_; go_step)
        | ((with_reducible show wpList _ _ _ (⟨some 48, _, _, _, _, _⟩ :: _) _ _); refine wpl_call (f := 19) Try.call19 (by kernel_rfl) ?_; refine ⟨_, (HPC.out _ bc1 bc2 bcd ec1 ec2 ecd (hS.sl (by (repeat (first | with_reducible exact Pull.head | apply Pull.tail)))) (hS.sl (by (repeat (first | with_reducible exact Pull.head | apply Pull.tail)))) (hS.sl (by (repeat (first | with_reducible exact Pull.head | apply Pull.tail))))), ?_⟩; rintro e w ⟨aq, cq, rfl, hS2⟩; replace hS := hS.call1 hS2; clear hS2; refine ⟨_, rfl, ?_⟩; refine put_move ?_; go_step)
        | ((with_reducible show wpList _ _ _ (⟨_, .call ⟨.value (.func 23), _, _⟩, _, _, _, _⟩ :: _) _ _); refine wpl_call (f := 23) Try.call23 (by kernel_rfl) ?_; refine ⟨_, (eqByte_any _ _ _ l l (bsl_of (hS.sl (a := aq) (by (repeat (first | with_reducible exact Pull.head | apply Pull.tail))))) (bsl_of (hvb.ext hS.1))), ?_⟩; rintro e w' ⟨rfl, rfl⟩; rw [HLL.out]; refine ⟨_, rfl, ?_⟩; refine put_move ?_; go_step)
        | go_skip
        | go_big_skip
        | ((with_reducible show wpList _ _ _ (⟨_, .move _, _, _, _, _⟩ :: _) _ _); (first | go_big_want | go_step); go_step)
        | ((with_reducible show wpList _ _ _ (⟨_, .assign _, _, _, _, _⟩ :: _) _ _); (first | go_big_want | go_step); go_step)
        | ((with_reducible show wpList _ _ _ (⟨_, .pick _ _ _, _, _, _, _⟩ :: _) _ _); first | (refine wplPickT rfl (by kernel_rfl) ?_; go_step) | (refine wplPickF rfl (by kernel_rfl) ?_; go_step))
        | ((with_reducible show wpList _ _ _ (⟨some 52, .binOp .neq 26 _ _ _, _, _, _, _⟩ :: _) _ _); first | (refine wplD _ (V.neq rfl rfl) (by kernel_rfl) (fun hB => ?_) (fun hB => ?_) <;> (try (have hF : False := (by omega); cases hF)) <;> go_step) | (refine wplB _ (V.neq rfl rfl) (by kernel_rfl) (fun hB => ?_) (fun hB => ?_) <;> (try (have hF : False := (absurd hB (by decide)); cases hF)) <;> go_step))
        | ((with_reducible show wpList _ _ _ (⟨some 60, .binOp .eql 26 _ _ _, _, _, _, _⟩ :: _) _ _); first | (refine wplD _ (V.eql rfl rfl) (by kernel_rfl) (fun hB => ?_) (fun hB => ?_) <;> (try (have hF : False := (by omega); cases hF)) <;> go_step) | (refine wplB _ (V.eql rfl rfl) (by kernel_rfl) (fun hB => ?_) (fun hB => ?_) <;> (try (have hF : False := (absurd hB (by decide)); cases hF)) <;> go_step))
        | ((with_reducible show wpList _ _ _ (⟨some 63, .binOp .eql 26 _ _ _, _, _, _, _⟩ :: _) _ _); first | (refine wplD _ (V.eql rfl rfl) (by kernel_rfl) (fun hB => ?_) (fun hB => ?_) <;> (try (have hF : False := (by omega); cases hF)) <;> go_step) | (refine wplB _ (V.eql rfl rfl) (by kernel_rfl) (fun hB => ?_) (fun hB => ?_) <;> (try (have hF : False := (absurd hB (by decide)); cases hF)) <;> go_step))
        | ((with_reducible show wpList _ _ _ (⟨_, .extract _ _, _, _, _, _⟩ :: _) _ _); first | (refine wplV _ (V.extract rfl rfl) (by kernel_rfl) ?_; go_step))
        | ((with_reducible show wpList _ _ _ (⟨some 9, .alloc 50, _, _, _, _⟩ :: _) _ _); first | (refine wpl (by kernel_rfl) ?_; apply wp_allocP (o := ⟨some 9, _, _, _, _, _⟩) hS 50 rfl _ zp50; clear hS; intro g9 w hS; refine put_move ?_; go_step))
        | ((with_reducible show wpList _ _ _ (⟨_, .store 50 _ _, _, _, _, _⟩ :: _) _ _); first | (refine wpl (by kernel_rfl) ?_; apply wp_storePP hS 50 _ _ rfl _ rfl 103 (row_of rfl) _ _; (case hp => (repeat (first | with_reducible exact Pull.head | apply Pull.tail))); (case hy => rfl); (case hn => (repeat (first | exact Pre.nil | (apply Pre.ints; (case hn => (first | (with_reducible assumption) | exact Len.rep | exact Len.set (by with_reducible assumption) | exact Len.set Len.rep | exact Len.set (Len.set Len.rep))); (case h => omega); (case hm => rfl)) | apply Pre.val))); (case hn' => (repeat (first | exact Pre.nil | (apply Pre.ints; (case hn => (first | (with_reducible assumption) | exact Len.rep | exact Len.set (by with_reducible assumption) | exact Len.set Len.rep | exact Len.set (Len.set Len.rep))); (case h => omega); (case hm => rfl)) | apply Pre.val))); (case hv => rfl); (case hd => exact rfl); clear hS; intro w hS) | (refine wpl (by kernel_rfl) ?_; apply wp_storeA hS 50 _ _ rfl _ rfl 103 (row_of rfl) _ _; (case hp => (repeat (first | with_reducible exact Pull.head | apply Pull.tail))); (case hy => rfl); (case hm => (repeat (first | assumption | exact Len.rep | apply Len.set | ((with_reducible show Len (_ :: _) _); exact rfl)))); (case hd => exact rfl); clear hS; intro w hS) | (refine wpl (by kernel_rfl) ?_; apply wp_storeG hS 50 _ _ rfl _ rfl 103 (row_of rfl) _ _; (case hp => (repeat (first | with_reducible exact Pull.head | apply Pull.tail))); (case hy => rfl); (case hn => rfl); (case hn' => rfl); (case hv => rfl); (case hd => exact rfl); clear hS; intro w hS))
        | ((with_reducible show wpList _ _ _ (⟨_, .load 50 _, _, _, _, _⟩ :: _) _ _); first | (refine wpl (by kernel_rfl) ?_; apply wp_loadPP hS 50 _ rfl _ _ rfl 103 (row_of rfl) _; (case hp => (repeat (first | with_reducible exact Pull.head | apply Pull.tail))); (case hi => (repeat (first | (apply AtP.head; (repeat (first | exact Pre.nil | (apply Pre.ints; (case hn => (first | (with_reducible assumption) | exact Len.rep | exact Len.set (by with_reducible assumption) | exact Len.set Len.rep | exact Len.set (Len.set Len.rep))); (case h => omega); (case hm => rfl)) | apply Pre.val))) | (apply AtP.skipI; (case hn => (first | (with_reducible assumption) | exact Len.rep | exact Len.set (by with_reducible assumption) | exact Len.set Len.rep | exact Len.set (Len.set Len.rep))); (case h => omega); (case ho => rfl)) | apply AtP.skipV))); refine put_move ?_; go_step) | (refine wpl (by kernel_rfl) ?_; apply wp_loadA hS 50 _ rfl _ rfl 103 (row_of rfl) _; (case hp => (repeat (first | with_reducible exact Pull.head | apply Pull.tail))); refine put_move ?_; go_step) | (refine wpl (by kernel_rfl) ?_; apply wp_loadG hS 50 _ rfl _ rfl 103 (row_of rfl) _; (case hp => (repeat (first | with_reducible exact Pull.head | apply Pull.tail))); (case hn => rfl); refine put_move ?_; go_step) | (refine wpl (by kernel_rfl) ?_; apply wp_loadRW hS 50 _ rfl _ _ rfl 103 (row_of rfl) _; (case hc => with_reducible assumption); (case hn => rfl); refine put_move ?_; go_step))
        | ((fail_if_success (with_reducible show wpList _ _ _ (_ :: _) _ _)); go_step))
      all_goals (try (have hF : False := (by omega); cases hF))
      all_goals (go_ret; exact ⟨rfl, hS.1⟩)
    case neg =>
      have hPB : ∀ w, Ext W w → Calls Try.prog 21 #[.slice ab nb kb] w fun e w' => e = .returned (.tuple #[fz, .int .i64 (parseE l)]) ∧ Ext w w' := fun w hx => parse_bad w ab nb kb l (hvb.ext hx) HRB (by omega) hB
      obtain ⟨EB, hEB⟩ : ∃ E, parseE l = E := ⟨_, rfl⟩
      rw [hEB] at hPB hB
      have HPB : Veil2 _ := ⟨hPB⟩
      clear hEB hPB
      go_enter Try.func10, Try.ntmps10
      repeat' (first
        | ((with_reducible show wpList _ _ _ (⟨_, .call ⟨.value (.func 18), _, _⟩, _, _, _, _⟩ :: _) _ _); refine wpl_call (f := 18) Try.call18 (by kernel_rfl) ?_; refine ⟨_, (filed_any _), ?_⟩; rintro e w ⟨rfl, hE2⟩; replace hS := hS.ext hE2; clear hE2; refine ⟨_, rfl, ?_⟩; refine put_move ?_; go_step)
        | ((with_reducible show wpList _ _ _ (⟨some 17, _, _, _, _, _⟩ :: _) _ _); refine wpl_call (f := 19) Try.call19 (by kernel_rfl) ?_; refine ⟨_, (HPF.out _ hS.1), ?_⟩; rintro e w ⟨rfl, hE2⟩; replace hS := hS.ext hE2; clear hE2; refine ⟨_, rfl, ?_⟩; refine put_move ?_; go_step)
        | ((with_reducible show wpList _ _ _ (⟨_, .call ⟨.value (.func 20), _, _⟩, _, _, _, _⟩ :: _) _ _); refine wpl_call (f := 20) Try.call20 (by kernel_rfl) ?_; refine ⟨_, (HCK.out _ hS.1), ?_⟩; rintro e w ⟨rfl, hE2⟩; replace hS := hS.ext hE2; clear hE2; refine ⟨_, rfl, ?_⟩; refine put_move ?_; go_step)
        | go_skip
        | go_big_skip
        | ((with_reducible show wpList _ _ _ (⟨_, .move _, _, _, _, _⟩ :: _) _ _); (first | go_big_want | go_step); go_step)
        | ((with_reducible show wpList _ _ _ (⟨_, .assign _, _, _, _, _⟩ :: _) _ _); (first | go_big_want | go_step); go_step)
        | ((with_reducible show wpList _ _ _ (⟨_, .pick _ _ _, _, _, _, _⟩ :: _) _ _); first | (refine wplPickT rfl (by kernel_rfl) ?_; go_step) | (refine wplPickF rfl (by kernel_rfl) ?_; go_step))
        | ((with_reducible show wpList _ _ _ (⟨some 34, .binOp .neq 26 _ _ _, _, _, _, _⟩ :: _) _ _); first | (refine wplD _ (V.neq rfl rfl) (by kernel_rfl) (fun hB => ?_) (fun hB => ?_) <;> (try (have hF : False := (by omega); cases hF)) <;> go_step) | (refine wplB _ (V.neq rfl rfl) (by kernel_rfl) (fun hB => ?_) (fun hB => ?_) <;> (try (have hF : False := (absurd hB (by decide)); cases hF)) <;> go_step))
        | ((with_reducible show wpList _ _ _ (⟨_, .unOp .not _ _, _, _, _, _⟩ :: _) _ _); first | (refine wplV _ (V.notD rfl) (by kernel_rfl) ?_; go_step) | (refine wplV _ (V.not rfl) (by kernel_rfl) ?_; go_step))
        | ((with_reducible show wpList _ _ _ (⟨_, .extract _ _, _, _, _, _⟩ :: _) _ _); first | (refine wplV _ (V.extract rfl rfl) (by kernel_rfl) ?_; go_step))
        | ((with_reducible show wpList _ _ _ (⟨_, .binOp .eql 26 _ _ _, _, _, _, _⟩ :: _) _ _); first | (refine wplV _ (V.eql rfl rfl) (by kernel_rfl) ?_; go_step))
        | ((with_reducible show wpList _ _ _ (⟨_, .binOp .neq 4 _ _ _, _, _, _, _⟩ :: _) _ _); first | (refine wplV _ (V.neqBD Try.underlying4 rfl rfl) (by kernel_rfl) ?_; go_step) | (refine wplV _ (V.neqB Try.underlying4 rfl rfl) (by kernel_rfl) ?_; go_step))
        | ((with_reducible show wpList _ _ _ (⟨some 2, .box 50 _, _, _, _, _⟩ :: _) _ _); first | (refine wpl (by kernel_rfl) ?_; apply wp_boxP (o := ⟨some 2, _, _, _, _, _⟩) hS 50 _ rfl _ rfl; clear hS; intro g2 w hS; refine put_move ?_; go_step))
        | ((with_reducible show wpList _ _ _ (⟨_, .load 50 _, _, _, _, _⟩ :: _) _ _); first | (refine wpl (by kernel_rfl) ?_; apply wp_loadPP hS 50 _ rfl _ _ rfl 103 (row_of rfl) _; (case hp => (repeat (first | with_reducible exact Pull.head | apply Pull.tail))); (case hi => (repeat (first | (apply AtP.head; (repeat (first | exact Pre.nil | (apply Pre.ints; (case hn => (first | (with_reducible assumption) | exact Len.rep | exact Len.set (by with_reducible assumption) | exact Len.set Len.rep | exact Len.set (Len.set Len.rep))); (case h => omega); (case hm => rfl)) | apply Pre.val))) | (apply AtP.skipI; (case hn => (first | (with_reducible assumption) | exact Len.rep | exact Len.set (by with_reducible assumption) | exact Len.set Len.rep | exact Len.set (Len.set Len.rep))); (case h => omega); (case ho => rfl)) | apply AtP.skipV))); refine put_move ?_; go_step) | (refine wpl (by kernel_rfl) ?_; apply wp_loadA hS 50 _ rfl _ rfl 103 (row_of rfl) _; (case hp => (repeat (first | with_reducible exact Pull.head | apply Pull.tail))); refine put_move ?_; go_step) | (refine wpl (by kernel_rfl) ?_; apply wp_loadG hS 50 _ rfl _ rfl 103 (row_of rfl) _; (case hp => (repeat (first | with_reducible exact Pull.head | apply Pull.tail))); (case hn => rfl); refine put_move ?_; go_step) | (refine wpl (by kernel_rfl) ?_; apply wp_loadRW hS 50 _ rfl _ _ rfl 103 (row_of rfl) _; (case hc => with_reducible assumption); (case hn => rfl); refine put_move ?_; go_step))
        | ((with_reducible show wpList _ _ _ (⟨some 7, .alloc 50, _, _, _, _⟩ :: _) _ _); first | (refine wpl (by kernel_rfl) ?_; apply wp_allocP (o := ⟨some 7, _, _, _, _, _⟩) hS 50 rfl _ zp50; clear hS; intro g7 w hS; refine put_move ?_; go_step))
        | ((with_reducible show wpList _ _ _ (⟨_, .store 50 _ _, _, _, _, _⟩ :: _) _ _); first | (refine wpl (by kernel_rfl) ?_; apply wp_storePP hS 50 _ _ rfl _ rfl 103 (row_of rfl) _ _; (case hp => (repeat (first | with_reducible exact Pull.head | apply Pull.tail))); (case hy => rfl); (case hn => (repeat (first | exact Pre.nil | (apply Pre.ints; (case hn => (first | (with_reducible assumption) | exact Len.rep | exact Len.set (by with_reducible assumption) | exact Len.set Len.rep | exact Len.set (Len.set Len.rep))); (case h => omega); (case hm => rfl)) | apply Pre.val))); (case hn' => (repeat (first | exact Pre.nil | (apply Pre.ints; (case hn => (first | (with_reducible assumption) | exact Len.rep | exact Len.set (by with_reducible assumption) | exact Len.set Len.rep | exact Len.set (Len.set Len.rep))); (case h => omega); (case hm => rfl)) | apply Pre.val))); (case hv => rfl); (case hd => exact rfl); clear hS; intro w hS) | (refine wpl (by kernel_rfl) ?_; apply wp_storeA hS 50 _ _ rfl _ rfl 103 (row_of rfl) _ _; (case hp => (repeat (first | with_reducible exact Pull.head | apply Pull.tail))); (case hy => rfl); (case hm => (repeat (first | assumption | exact Len.rep | apply Len.set | ((with_reducible show Len (_ :: _) _); exact rfl)))); (case hd => exact rfl); clear hS; intro w hS) | (refine wpl (by kernel_rfl) ?_; apply wp_storeG hS 50 _ _ rfl _ rfl 103 (row_of rfl) _ _; (case hp => (repeat (first | with_reducible exact Pull.head | apply Pull.tail))); (case hy => rfl); (case hn => rfl); (case hn' => rfl); (case hv => rfl); (case hd => exact rfl); clear hS; intro w hS))
        | ((fail_if_success (with_reducible show wpList _ _ _ (_ :: _) _ _)); go_step))
      all_goals (try (have hF : False := (by omega); cases hF))
      repeat' (first
        | ((with_reducible show wpList _ _ _ (⟨some 43, _, _, _, _, _⟩ :: _) _ _); refine wpl_call (f := 21) Try.call21 (by kernel_rfl) ?_; refine ⟨_, (HPB.out _ hS.1), ?_⟩; rintro e w ⟨rfl, hE2⟩; replace hS := hS.ext hE2; clear hE2; refine ⟨_, rfl, ?_⟩; refine put_move ?_; go_step)
        | ((with_reducible show wpList _ _ _ (⟨some 48, _, _, _, _, _⟩ :: _) _ _); refine wpl_call (f := 19) Try.call19 (by kernel_rfl) ?_; refine ⟨_, (HP0.out _), ?_⟩; rintro e w ⟨rfl, hE2⟩; replace hS := hS.ext hE2; clear hE2; refine ⟨_, rfl, ?_⟩; refine put_move ?_; go_step)
        | ((with_reducible show wpList _ _ _ (⟨some 56, _, _, _, _, _⟩ :: _) _ _); refine wpl_call (f := 22) Try.call22 (by kernel_rfl) ?_; refine ⟨_, (HEQ0.out _), ?_⟩; rintro e w ⟨rfl, hE2⟩; replace hS := hS.ext hE2; clear hE2; refine ⟨_, rfl, ?_⟩; refine put_move ?_; go_step)
        | ((with_reducible show wpList _ _ _ (⟨some 55, _, _, _, _, _⟩ :: _) _ _); refine wplV _ (V.build (vs := []) rfl build_f0) (by kernel_rfl) ?_; go_step)
        | go_skip
        | go_big_skip
        | ((with_reducible show wpList _ _ _ (⟨_, .move _, _, _, _, _⟩ :: _) _ _); (first | go_big_want | go_step); go_step)
        | ((with_reducible show wpList _ _ _ (⟨_, .assign _, _, _, _, _⟩ :: _) _ _); (first | go_big_want | go_step); go_step)
        | ((with_reducible show wpList _ _ _ (⟨_, .pick _ _ _, _, _, _, _⟩ :: _) _ _); first | (refine wplPickT rfl (by kernel_rfl) ?_; go_step) | (refine wplPickF rfl (by kernel_rfl) ?_; go_step))
        | ((with_reducible show wpList _ _ _ (⟨some 52, .binOp .neq 26 _ _ _, _, _, _, _⟩ :: _) _ _); first | (refine wplD _ (V.neq rfl rfl) (by kernel_rfl) (fun hB => ?_) (fun hB => ?_) <;> (try (have hF : False := (by omega); cases hF)) <;> go_step) | (refine wplB _ (V.neq rfl rfl) (by kernel_rfl) (fun hB => ?_) (fun hB => ?_) <;> (try (have hF : False := (absurd hB (by decide)); cases hF)) <;> go_step))
        | ((with_reducible show wpList _ _ _ (⟨some 60, .binOp .eql 26 _ _ _, _, _, _, _⟩ :: _) _ _); first | (refine wplD _ (V.eql rfl rfl) (by kernel_rfl) (fun hB => ?_) (fun hB => ?_) <;> (try (have hF : False := (by omega); cases hF)) <;> go_step) | (refine wplB _ (V.eql rfl rfl) (by kernel_rfl) (fun hB => ?_) (fun hB => ?_) <;> (try (have hF : False := (absurd hB (by decide)); cases hF)) <;> go_step))
        | ((with_reducible show wpList _ _ _ (⟨some 63, .binOp .eql 26 _ _ _, _, _, _, _⟩ :: _) _ _); first | (refine wplD _ (V.eql rfl rfl) (by kernel_rfl) (fun hB => ?_) (fun hB => ?_) <;> (try (have hF : False := (by omega); cases hF)) <;> go_step) | (refine wplB _ (V.eql rfl rfl) (by kernel_rfl) (fun hB => ?_) (fun hB => ?_) <;> (try (have hF : False := (absurd hB (by decide)); cases hF)) <;> go_step))
        | ((with_reducible show wpList _ _ _ (⟨_, .extract _ _, _, _, _, _⟩ :: _) _ _); first | (refine wplV _ (V.extract rfl rfl) (by kernel_rfl) ?_; go_step))
        | ((with_reducible show wpList _ _ _ (⟨some 9, .alloc 50, _, _, _, _⟩ :: _) _ _); first | (refine wpl (by kernel_rfl) ?_; apply wp_allocP (o := ⟨some 9, _, _, _, _, _⟩) hS 50 rfl _ zp50; clear hS; intro g9 w hS; refine put_move ?_; go_step))
        | ((with_reducible show wpList _ _ _ (⟨_, .store 50 _ _, _, _, _, _⟩ :: _) _ _); first | (refine wpl (by kernel_rfl) ?_; apply wp_storePP hS 50 _ _ rfl _ rfl 103 (row_of rfl) _ _; (case hp => (repeat (first | with_reducible exact Pull.head | apply Pull.tail))); (case hy => rfl); (case hn => (repeat (first | exact Pre.nil | (apply Pre.ints; (case hn => (first | (with_reducible assumption) | exact Len.rep | exact Len.set (by with_reducible assumption) | exact Len.set Len.rep | exact Len.set (Len.set Len.rep))); (case h => omega); (case hm => rfl)) | apply Pre.val))); (case hn' => (repeat (first | exact Pre.nil | (apply Pre.ints; (case hn => (first | (with_reducible assumption) | exact Len.rep | exact Len.set (by with_reducible assumption) | exact Len.set Len.rep | exact Len.set (Len.set Len.rep))); (case h => omega); (case hm => rfl)) | apply Pre.val))); (case hv => rfl); (case hd => exact rfl); clear hS; intro w hS) | (refine wpl (by kernel_rfl) ?_; apply wp_storeA hS 50 _ _ rfl _ rfl 103 (row_of rfl) _ _; (case hp => (repeat (first | with_reducible exact Pull.head | apply Pull.tail))); (case hy => rfl); (case hm => (repeat (first | assumption | exact Len.rep | apply Len.set | ((with_reducible show Len (_ :: _) _); exact rfl)))); (case hd => exact rfl); clear hS; intro w hS) | (refine wpl (by kernel_rfl) ?_; apply wp_storeG hS 50 _ _ rfl _ rfl 103 (row_of rfl) _ _; (case hp => (repeat (first | with_reducible exact Pull.head | apply Pull.tail))); (case hy => rfl); (case hn => rfl); (case hn' => rfl); (case hv => rfl); (case hd => exact rfl); clear hS; intro w hS))
        | ((with_reducible show wpList _ _ _ (⟨_, .load 50 _, _, _, _, _⟩ :: _) _ _); first | (refine wpl (by kernel_rfl) ?_; apply wp_loadPP hS 50 _ rfl _ _ rfl 103 (row_of rfl) _; (case hp => (repeat (first | with_reducible exact Pull.head | apply Pull.tail))); (case hi => (repeat (first | (apply AtP.head; (repeat (first | exact Pre.nil | (apply Pre.ints; (case hn => (first | (with_reducible assumption) | exact Len.rep | exact Len.set (by with_reducible assumption) | exact Len.set Len.rep | exact Len.set (Len.set Len.rep))); (case h => omega); (case hm => rfl)) | apply Pre.val))) | (apply AtP.skipI; (case hn => (first | (with_reducible assumption) | exact Len.rep | exact Len.set (by with_reducible assumption) | exact Len.set Len.rep | exact Len.set (Len.set Len.rep))); (case h => omega); (case ho => rfl)) | apply AtP.skipV))); refine put_move ?_; go_step) | (refine wpl (by kernel_rfl) ?_; apply wp_loadA hS 50 _ rfl _ rfl 103 (row_of rfl) _; (case hp => (repeat (first | with_reducible exact Pull.head | apply Pull.tail))); refine put_move ?_; go_step) | (refine wpl (by kernel_rfl) ?_; apply wp_loadG hS 50 _ rfl _ rfl 103 (row_of rfl) _; (case hp => (repeat (first | with_reducible exact Pull.head | apply Pull.tail))); (case hn => rfl); refine put_move ?_; go_step) | (refine wpl (by kernel_rfl) ?_; apply wp_loadRW hS 50 _ rfl _ _ rfl 103 (row_of rfl) _; (case hc => with_reducible assumption); (case hn => rfl); refine put_move ?_; go_step))
        | ((fail_if_success (with_reducible show wpList _ _ _ (_ :: _) _ _)); go_step))
      all_goals (try (have hF : False := (by omega); cases hF))
      all_goals (go_ret; exact ⟨rfl, hS.1⟩)
end Go.Proofs.Ythkdckmhmiebfaa
