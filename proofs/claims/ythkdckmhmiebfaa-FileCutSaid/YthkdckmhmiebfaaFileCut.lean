/- The law FileCut: its walk, and the statement. -/
import Derived.Test.YthkdckmhmiebfaaFileKeep
import Derived.Test.YthkdckmhmiebfaaFileEq
import Derived.Test.YthkdckmhmiebfaaFileMath
import Derived.Test.YthkdckmhmiebfaaTint
namespace Go.Proofs.Ythkdckmhmiebfaa
open Go.ChangeShapes Go.WideShapes Go.ChangeAt Go.RowKit Go.Deep
set_option linter.unusedVariables false
theorem op_fileB {H : Type} {enc : TypeId × Value → H} {W : World} {v : Value} {d : DataW H} {p : List MemPlace} {base : Nat} (ho : Value.okWide Try.prog W .any base 50 v) (h : DataW.Trod enc Try.prog W 0 (fun _ => true) true 50 v d p) :
    ∃ (f : FileV) (a1 a2 ad : Option Addr) (n1 k1 n2 k2 nd kd : Nat), v = fv f (.slice a1 n1 k1) (.slice a2 n2 k2) (.slice ad nd kd) ∧ FileIn W f a1 a2 ad n1 k1 n2 k2 nd kd := by
  obtain ⟨cs, rfl⟩ := op_agg (by rw [Try.underlying50]) ho
  obtain ⟨fuel, h⟩ := h
  obtain ⟨f, a1, a2, ad, n1, k1, n2, k2, nd, kd, h1, h2⟩ := file_cells h
  refine ⟨f, a1, a2, ad, n1, k1, n2, k2, nd, kd, ?_, h2⟩
  have h3 : cs.toList = pcells (fparts f (.slice a1 n1 k1) (.slice a2 n2 k2) (.slice ad nd kd)) := h1
  show Value.agg cs = Value.agg _
  rw [← h3]
theorem dataI_cells (f : FileV) : (dataI f).map (Value.int .u8) = f.data.map fun (x : Nat) => Value.int .u8 (x : Int) := by
  rw [dataI, List.map_map]; rfl
/-- Whatever bytes: a parse that fails. -/
theorem parse_bad (w0 : World) (a : Option Addr) (n c : Nat) (l : List Int) (hv : Sl w0 1 (.slice a n c) n (l.map (Value.int .u8))) (hr : Hid (∀ i, i < l.length → 0 ≤ nth l i ∧ nth l i < 256)) (hn : n ≤ 9223372036854775807) (hE : parseE l ≠ 0) :
    Calls Try.prog 21 #[.slice a n c] w0 fun e w => e = .returned (.tuple #[fz, .int .i64 (parseE l)]) ∧ Ext w0 w := by
  have hln : l.length = n := by have := hv.1; simpa using this
  by_cases h : 91000 < n
  · have e : parseE l = 2 := by rw [parseE, if_pos (by omega)]
    rw [e]
    exact parse_large w0 a n c l hv h hn
  · exact (parse_rest w0 a n c l hv hr (by omega)).mono fun e w ⟨h1, _⟩ => h1 hE
theorem parse_ok (w0 : World) (a : Option Addr) (n c : Nat) (l : List Int) (hv : Sl w0 1 (.slice a n c) n (l.map (Value.int .u8))) (hr : Hid (∀ i, i < l.length → 0 ≤ nth l i ∧ nth l i < 256)) (hE : parseE l = 0) (f : FileV) (hf : parseF l = f) (m1 m2 md : Nat) (q1 : pn1 l = m1) (q2 : pn2 l = m2) (q3 : l.length - pq2 l = md) (Dt : List Int) (hD : dataI f = Dt) :
    Calls Try.prog 21 #[.slice a n c] w0 fun e w => ∃ (a1 a2 ad : Option Addr) (c1 c2 cd : Nat), e = .returned (.tuple #[fv f (.slice a1 m1 c1) (.slice a2 m2 c2) (.slice ad md cd), .int .i64 0]) ∧
      St w0 w [own 3 1 a1 m1 c1 (f.s1.map (Value.int .i64)), own 3 1 a2 m2 c2 (f.s2.map (Value.int .i64)), own 5 1 ad md cd (Dt.map (Value.int .u8))] := by
  have hln : l.length = n := by have := hv.1; simpa using this
  have hs : n ≤ 91000 := by
    by_cases h : 91000 < l.length
    · rw [parseE, if_pos h] at hE; exact absurd hE (by decide)
    · omega
  refine (parse_rest w0 a n c l hv hr hs).mono fun e w ⟨_, k⟩ => ?_
  have := k hE
  rw [hf, q1, q2, q3, hD] at this
  exact this
theorem parseF_lens (l : List Int) : (parseF l).s1.length = pn1 l ∧ (parseF l).s2.length = pn2 l ∧ (parseF l).data.length = l.length - pq2 l ∧ (parseF l).quant.length = 64 ∧ (parseF l).c1.length = 16 ∧ (parseF l).c2.length = 16 := by
  refine ⟨by simp [parseF, rS], by simp [parseF, rS], by simp [parseF], ?_, by simp [parseF, rCl], by simp [parseF, rCl]⟩
  simp only [parseF]; exact zfrom_len _
theorem parseE_ok {l : List Int} (h : parseE l = 0) : l.length ≤ 91000 ∧ fileE (parseF l) = 0 ∧ packI (parseF l) = l := by
  unfold parseE at h
  split at h
  · cases h
  · split at h
    · cases h
    · split at h
      · rename_i k; exact ⟨by omega, k.1, k.2⟩
      · cases h
theorem fileE_f0 : fileE f0 = 1 := by decide +kernel
theorem sl_cut {w : World} {q : IntKind} {ad : Option Addr} {n c k : Nat} {l : List Int} (hv : Sl w 1 (.slice ad n c) n (l.map (Value.int q))) (hk : k ≤ n) : Sl w 1 (.slice (cutAt ad c 0 1) (k - 0) (c - 0)) (k - 0) ((l.take k).map (Value.int q)) := by
  have := hv.cutAt 0 k (Nat.zero_le _) hk
  rw [Nat.zero_mul, List.drop_zero, Nat.mul_one, ← List.map_take] at this
  exact this
set_option maxRecDepth 100000 in
set_option maxHeartbeats 16000000 in
theorem FileCut_walk {H : Type} {enc : TypeId × Value → H} {d0 d1 : DataW H} {p0 p1 : List MemPlace} {v0 v1 : Value} {base : Nat} (W : World)
    (o0 : Value.okWide Try.prog W .any base 50 v0) (h0 : DataW.Trod enc Try.prog W 0 (fun _ => true) true 50 v0 d0 p0) (lt0 : ∀ x ∈ p0, x.block < W.heap.size)
    (o1 : Value.okWide Try.prog W .any base 3 v1) (h1 : DataW.Trod enc Try.prog W 0 (fun _ => true) true 3 v1 d1 p1) (lt1 : ∀ x ∈ p1, x.block < W.heap.size)
    :
    Calls Try.prog 11 #[v0, v1] W fun e w' => e = .returned (.bool true) ∧ Ext W w' := by
  obtain ⟨f, a1, a2, ad, n1, k1, n2, k2, nd, kd, rfl, hF⟩ := op_fileB o0 h0
  obtain ⟨at0, rfl, _, _⟩ := op_int Try.underlying3 o1 h1
  clear o0 h0 lt0 o1 h1 lt1
  have hS := St.start W
  have hQ := hF.quant
  have hC1 := hF.t1.len
  have hC2 := hF.t2.len
  have hs1 := hF.t1.sl
  have hs2 := hF.t2.sl
  have b1 : n1 ≤ 9223372036854775807 := Nat.le_trans hF.t1.nc hF.t1.cm
  have b2 : n2 ≤ 9223372036854775807 := Nat.le_trans hF.t2.nc hF.t2.cm
  have b3 : nd ≤ 9223372036854775807 := Nat.le_trans hF.dcap.1 hF.dcap.2
  have b4 : nd ≤ kd := hF.dcap.1
  have b5 : kd ≤ 9223372036854775807 := hF.dcap.2
  have hsd : Sl W 1 (.slice ad nd kd) nd ((dataI f).map (Value.int .u8)) := dataI_cells f ▸ hF.dsl
  have hld : f.data.length = nd := by have := hF.dsl.1; simpa using this
  have hl1 : f.s1.length = n1 := by have := hs1.1; simpa using this
  have hl2 : f.s2.length = n2 := by have := hs2.1; simpa using this
  have hdlt := hF.dlt
  clear hF
  by_cases hE : fileE f = 0
  case neg =>
    have hPF : ∀ w, Ext W w → Calls Try.prog 19 #[fv f (.slice a1 n1 k1) (.slice a2 n2 k2) (.slice ad nd kd)] w fun e w' => e = .returned (.tuple #[.slice none 0 0, .int .i64 (fileE f)]) ∧ Ext w w' := fun w hx => pack_bad w f a1 a2 ad n1 n2 nd k1 k2 kd hQ hC1 hC2 (hs1.ext hx) (hs2.ext hx) b1 b2 b3 hld _ rfl hE
    obtain ⟨E, hE2⟩ : ∃ E, fileE f = E := ⟨_, rfl⟩
    rw [hE2] at hPF hE
    have HPF : Veil2 _ := ⟨hPF⟩
    clear hE2 hsd hPF hdlt
    obtain ⟨wd, hg, p, Q, C1, S1, C2, S2, ev, D⟩ := f
    show Calls Try.prog 11 #[.agg (pcells (gp wd hg p Q C1 (.slice a1 n1 k1) C2 (.slice a2 n2 k2) ev (.slice ad nd kd))).toArray, .int .i64 at0] _ _
    go_enter Try.func11, Try.ntmps11
    repeat' (first
      | ((with_reducible show wpList _ _ _ (⟨_, .call ⟨.value (.func 18), _, _⟩, _, _, _, _⟩ :: _) _ _); refine wpl_call (f := 18) Try.call18 (by kernel_rfl) ?_; refine ⟨_, (filed_any _), ?_⟩; rintro e w ⟨rfl, hE2⟩; replace hS := hS.ext hE2; clear hE2; refine ⟨_, rfl, ?_⟩; refine put_move ?_; go_step)
      | ((with_reducible show wpList _ _ _ (⟨some 14, _, _, _, _, _⟩ :: _) _ _); refine wpl_call (f := 19) Try.call19 (by kernel_rfl) ?_; refine ⟨_, (HPF.out _ hS.1), ?_⟩; rintro e w ⟨rfl, hE2⟩; replace hS := hS.ext hE2; clear hE2; refine ⟨_, rfl, ?_⟩; refine put_move ?_; go_step)
      | go_skip
      | go_big_skip
      | ((with_reducible show wpList _ _ _ (⟨_, .move _, _, _, _, _⟩ :: _) _ _); (first | go_big_want | go_step); go_step)
      | ((with_reducible show wpList _ _ _ (⟨_, .assign _, _, _, _, _⟩ :: _) _ _); (first | go_big_want | go_step); go_step)
      | ((with_reducible show wpList _ _ _ (⟨_, .pick _ _ _, _, _, _, _⟩ :: _) _ _); first | (refine wplPickT rfl (by kernel_rfl) ?_; go_step) | (refine wplPickF rfl (by kernel_rfl) ?_; go_step))
      | ((with_reducible show wpList _ _ _ (⟨_, .unOp .not _ _, _, _, _, _⟩ :: _) _ _); first | (refine wplV _ (V.notD rfl) (by kernel_rfl) ?_; go_step) | (refine wplV _ (V.not rfl) (by kernel_rfl) ?_; go_step))
      | ((with_reducible show wpList _ _ _ (⟨_, .extract _ _, _, _, _, _⟩ :: _) _ _); first | (refine wplV _ (V.extract rfl rfl) (by kernel_rfl) ?_; go_step))
      | ((with_reducible show wpList _ _ _ (⟨_, .binOp .neq 26 _ _ _, _, _, _, _⟩ :: _) _ _); first | (refine wplV _ (V.neq rfl rfl) (by kernel_rfl) ?_; go_step))
      | ((with_reducible show wpList _ _ _ (⟨_, .call ⟨.builtin .len, _, _⟩, _, _, _, _⟩ :: _) _ _); first | (refine wplV _ (V.len Try.underlying48 rfl) (by kernel_rfl) ?_; go_step))
      | ((with_reducible show wpList _ _ _ (⟨_, .binOp .eql 3 _ _ _, _, _, _, _⟩ :: _) _ _); first | (refine wplV _ (V.eql rfl rfl) (by kernel_rfl) ?_; go_step))
      | ((with_reducible show wpList _ _ _ (⟨some 2, .box 50 _, _, _, _, _⟩ :: _) _ _); first | (refine wpl (by kernel_rfl) ?_; apply wp_boxP (o := ⟨some 2, _, _, _, _, _⟩) hS 50 _ rfl _ rfl; clear hS; intro g2 w hS; refine put_move ?_; go_step))
      | ((with_reducible show wpList _ _ _ (⟨_, .load 50 _, _, _, _, _⟩ :: _) _ _); first | (refine wpl (by kernel_rfl) ?_; apply wp_loadPP hS 50 _ rfl _ _ rfl 103 (row_of rfl) _; (case hp => (repeat (first | with_reducible exact Pull.head | apply Pull.tail))); (case hi => (repeat (first | (apply AtP.head; (repeat (first | exact Pre.nil | (apply Pre.ints; (case hn => (first | (with_reducible assumption) | exact Len.rep | exact Len.set (by with_reducible assumption) | exact Len.set Len.rep | exact Len.set (Len.set Len.rep))); (case h => omega); (case hm => rfl)) | apply Pre.val))) | (apply AtP.skipI; (case hn => (first | (with_reducible assumption) | exact Len.rep | exact Len.set (by with_reducible assumption) | exact Len.set Len.rep | exact Len.set (Len.set Len.rep))); (case h => omega); (case ho => rfl)) | apply AtP.skipV))); refine put_move ?_; go_step) | (refine wpl (by kernel_rfl) ?_; apply wp_loadA hS 50 _ rfl _ rfl 103 (row_of rfl) _; (case hp => (repeat (first | with_reducible exact Pull.head | apply Pull.tail))); refine put_move ?_; go_step) | (refine wpl (by kernel_rfl) ?_; apply wp_loadG hS 50 _ rfl _ rfl 103 (row_of rfl) _; (case hp => (repeat (first | with_reducible exact Pull.head | apply Pull.tail))); (case hn => rfl); refine put_move ?_; go_step) | (refine wpl (by kernel_rfl) ?_; apply wp_loadRW hS 50 _ rfl _ _ rfl 103 (row_of rfl) _; (case hc => with_reducible assumption); (case hn => rfl); refine put_move ?_; go_step))
      | ((fail_if_success (with_reducible show wpList _ _ _ (_ :: _) _ _)); go_step))
    all_goals (try (have hF : False := (by omega); cases hF))
    all_goals (go_ret; exact ⟨rfl, hS.1⟩)
  have hPb := bytes_nth (packI_bytes hE hQ hdlt)
  have hPl := pk_len f
  obtain ⟨-, -, ht1, ht2, hdl⟩ := fileE_ok hE
  have hc1 : n1 ≤ 256 := hl1 ▸ (tabE_ok ht1).2.2.1
  have hc2 : n2 ≤ 256 := hl2 ▸ (tabE_ok ht2).2.2.1
  have hc3 : nd ≤ 90000 := hld ▸ hdl
  clear ht1 ht2 hdl
  have hPF : ∀ w, Ext W w → Calls Try.prog 19 #[fv f (.slice a1 n1 k1) (.slice a2 n2 k2) (.slice ad nd kd)] w fun e w' => ∃ (ao : Option Addr) (co : Nat), e = .returned (.tuple #[.slice ao (packI f).length co, .int .i64 0]) ∧ St w w' [own 5 1 ao (packI f).length co ((packI f).map (Value.int .u8))] := fun w hx => pack_ok w f a1 a2 ad n1 n2 nd k1 k2 kd hQ hC1 hC2 (hs1.ext hx) (hs2.ext hx) (hsd.ext hx) hE
  obtain ⟨M, hM⟩ : ∃ M, (packI f).length = M := ⟨_, rfl⟩
  rw [hM] at hPF hPl
  rw [hl1, hl2, hld] at hPl
  have hk0 := Int.emod_nonneg at0 (show ((M : Int) + 1) ≠ 0 by omega)
  have hk1 := Int.emod_lt_of_pos at0 (show 0 < ((M : Int) + 1) by omega)
  obtain ⟨k, hk⟩ := Int.eq_ofNat_of_zero_le hk0
  have HK := hid hk
  rw [hk] at hk1
  clear hk hk0
  have hkM : k ≤ M := by omega
  have HRK : Hid (∀ i, i < ((packI f).take k).length → 0 ≤ nth ((packI f).take k) i ∧ nth ((packI f).take k) i < 256) := hid (bytes_nth fun x hx => packI_bytes hE hQ hdlt x (List.mem_of_mem_take hx))
  by_cases hcut : k < 134 + n1 + n2
  · have h3 := cut_short hE k (by rw [hl1, hl2]; exact hcut)
    have hPA : ∀ w a c, Sl w 1 (.slice a (k - 0) c) (k - 0) (((packI f).take k).map (Value.int .u8)) → Calls Try.prog 21 #[.slice a (k - 0) c] w fun e w' => e = .returned (.tuple #[fz, .int .i64 3]) ∧ Ext w w' := fun w a c hv => h3 ▸ parse_bad w a (k - 0) c _ hv HRK (by omega) (by rw [h3]; decide)
    obtain ⟨P, hP⟩ : ∃ P, packI f = P := ⟨_, rfl⟩
    rw [hP] at hPA hPF
    have HPA : Veil2 _ := ⟨hPA⟩
    have HPF : Veil2 _ := ⟨hPF⟩
    clear hPA hPF hP hE hdlt h3 HRK hPb hM hsd
    obtain ⟨wd, hg, p, Q, C1, S1, C2, S2, ev, D⟩ := f
    dsimp only at *
    show Calls Try.prog 11 #[.agg (pcells (gp wd hg p Q C1 (.slice a1 n1 k1) C2 (.slice a2 n2 k2) ev (.slice ad nd kd))).toArray, .int .i64 at0] _ _
    go_enter Try.func11, Try.ntmps11
    repeat' (first
      | ((with_reducible show wpList _ _ _ (⟨_, .call ⟨.value (.func 18), _, _⟩, _, _, _, _⟩ :: _) _ _); refine wpl_call (f := 18) Try.call18 (by kernel_rfl) ?_; refine ⟨_, (filed_any _), ?_⟩; rintro e w ⟨rfl, hE2⟩; replace hS := hS.ext hE2; clear hE2; refine ⟨_, rfl, ?_⟩; refine put_move ?_; go_step)
      | ((with_reducible show wpList _ _ _ (⟨some 14, _, _, _, _, _⟩ :: _) _ _); refine wpl_call (f := 19) Try.call19 (by kernel_rfl) ?_; refine ⟨_, (HPF.out _ hS.1), ?_⟩; rintro e w ⟨ao, co, rfl, hS2⟩; replace hS := hS.call1 hS2; clear hS2; obtain ⟨bo, rfl⟩ := own_some (a := ao) hS (by (repeat (first | with_reducible exact Pull.head | apply Pull.tail))) (by omega); have hcap : M ≤ co := (by obtain ⟨_, _, _, h1, h2, _⟩ := hS.sl (a := some ⟨bo, 0, none⟩) (by (repeat (first | with_reducible exact Pull.head | apply Pull.tail))); cases h1; exact h2); refine ⟨_, rfl, ?_⟩; refine put_move ?_; go_step)
      | ((with_reducible show wpList _ _ _ (⟨_, .call ⟨.value (.func 16), _, _⟩, _, _, _, _⟩ :: _) _ _); refine wpl_call (f := 16) Try.call16 (by kernel_rfl) ?_; refine ⟨_, (rest_any at0 ((M : Int) + 1) _ (by omega) (by omega)), ?_⟩; rintro e w' ⟨rfl, rfl⟩; rw [HK.out]; refine ⟨_, rfl, ?_⟩; refine put_move ?_; go_step)
      | ((with_reducible show wpList _ _ _ (⟨some 31, _, _, _, _, _⟩ :: _) _ _); refine wpl_call (f := 21) Try.call21 (by kernel_rfl) ?_; refine ⟨_, (HPA.out _ _ _ (sl_cut (hS.sl (a := some ⟨bo, 0, none⟩) (by (repeat (first | with_reducible exact Pull.head | apply Pull.tail)))) hkM)), ?_⟩; rintro e w ⟨rfl, hE2⟩; replace hS := hS.ext hE2; clear hE2; refine ⟨_, rfl, ?_⟩; refine put_move ?_; go_step)
      | go_skip
      | go_big_skip
      | ((with_reducible show wpList _ _ _ (⟨_, .move _, _, _, _, _⟩ :: _) _ _); (first | go_big_want | go_step); go_step)
      | ((with_reducible show wpList _ _ _ (⟨_, .assign _, _, _, _, _⟩ :: _) _ _); (first | go_big_want | go_step); go_step)
      | ((with_reducible show wpList _ _ _ (⟨_, .pick _ _ _, _, _, _, _⟩ :: _) _ _); first | (refine wplPickT rfl (by kernel_rfl) ?_; go_step) | (refine wplPickF rfl (by kernel_rfl) ?_; go_step))
      | ((with_reducible show wpList _ _ _ (⟨_, .unOp .not _ _, _, _, _, _⟩ :: _) _ _); first | (refine wplV _ (V.notD rfl) (by kernel_rfl) ?_; go_step) | (refine wplV _ (V.not rfl) (by kernel_rfl) ?_; go_step))
      | ((with_reducible show wpList _ _ _ (⟨_, .extract _ _, _, _, _, _⟩ :: _) _ _); first | (refine wplV _ (V.extract rfl rfl) (by kernel_rfl) ?_; go_step))
      | ((with_reducible show wpList _ _ _ (⟨_, .binOp .neq 26 _ _ _, _, _, _, _⟩ :: _) _ _); first | (refine wplV _ (V.neq rfl rfl) (by kernel_rfl) ?_; go_step))
      | ((with_reducible show wpList _ _ _ (⟨_, .call ⟨.builtin .len, _, _⟩, _, _, _, _⟩ :: _) _ _); first | (refine wplV _ (V.len Try.underlying48 rfl) (by kernel_rfl) ?_; go_step))
      | ((with_reducible show wpList _ _ _ (⟨_, .binOp .eql 3 _ _ _, _, _, _, _⟩ :: _) _ _); first | (refine wplV _ (V.eql rfl rfl) (by kernel_rfl) ?_; go_step))
      | ((with_reducible show wpList _ _ _ (⟨_, .binOp .add _ _ _ _, _, _, _, _⟩ :: _) _ _); first | (refine wplV _ (V.addI rfl rfl (by omega)) (by kernel_rfl) ?_; go_step) | (refine wplV _ (V.addR (by decide) rfl rfl) (by kernel_rfl) ?_; go_step))
      | ((with_reducible show wpList _ _ _ (⟨_, .slice 48 _ _ _ _, _, _, _, _⟩ :: _) _ _); first | (refine wplV _ (V.slice Try.underlying48 isz5 rfl (by (first | exact Lo.none | exact Lo.some rfl (by (repeat (first | exact IsN.auto | with_reducible apply IsN.add | with_reducible apply IsN.sub | with_reducible apply IsN.mul | with_reducible apply IsN.div | with_reducible apply IsN.mod | with_reducible apply IsN.min | with_reducible apply IsN.max | (with_reducible show (_ : Nat) ≤ _; omega) | exact IsN.toNat (by omega)))))) (by (first | exact Up.none | exact Up.some rfl (by (repeat (first | exact IsN.auto | with_reducible apply IsN.add | with_reducible apply IsN.sub | with_reducible apply IsN.mul | with_reducible apply IsN.div | with_reducible apply IsN.mod | with_reducible apply IsN.min | with_reducible apply IsN.max | (with_reducible show (_ : Nat) ≤ _; omega) | exact IsN.toNat (by omega)))))) (by omega) (by omega)) (by kernel_rfl) ?_; go_step))
      | ((with_reducible show wpList _ _ _ (⟨_, .fieldAddr 50 _ 6, _, _, _, _⟩ :: _) _ _); first | (refine wplV _ (V.fieldAddr fo50_6 rfl (by first | with_reducible exact Nat.zero_add _ | with_reducible exact Nat.add_zero _ | exact rfl)) (by kernel_rfl) ?_; go_step))
      | ((with_reducible show wpList _ _ _ (⟨_, .binOp .sub _ _ _ _, _, _, _, _⟩ :: _) _ _); first | (refine wplV _ (V.subI rfl rfl (by omega)) (by kernel_rfl) ?_; go_step) | (refine wplV _ (V.subR (by decide) rfl rfl) (by kernel_rfl) ?_; go_step))
      | ((with_reducible show wpList _ _ _ (⟨_, .binOp .lss _ _ _ _, _, _, _, _⟩ :: _) _ _); first | (refine wplV _ (V.lss rfl rfl) (by kernel_rfl) ?_; go_step))
      | ((with_reducible show wpList _ _ _ (⟨_, .binOp .eql 26 _ _ _, _, _, _, _⟩ :: _) _ _); first | (refine wplV _ (V.eql rfl rfl) (by kernel_rfl) ?_; go_step))
      | ((with_reducible show wpList _ _ _ (⟨some 2, .box 50 _, _, _, _, _⟩ :: _) _ _); first | (refine wpl (by kernel_rfl) ?_; apply wp_boxP (o := ⟨some 2, _, _, _, _, _⟩) hS 50 _ rfl _ rfl; clear hS; intro g2 w hS; refine put_move ?_; go_step))
      | ((with_reducible show wpList _ _ _ (⟨_, .load 50 _, _, _, _, _⟩ :: _) _ _); first | (refine wpl (by kernel_rfl) ?_; apply wp_loadPP hS 50 _ rfl _ _ rfl 103 (row_of rfl) _; (case hp => (repeat (first | with_reducible exact Pull.head | apply Pull.tail))); (case hi => (repeat (first | (apply AtP.head; (repeat (first | exact Pre.nil | (apply Pre.ints; (case hn => (first | (with_reducible assumption) | exact Len.rep | exact Len.set (by with_reducible assumption) | exact Len.set Len.rep | exact Len.set (Len.set Len.rep))); (case h => omega); (case hm => rfl)) | apply Pre.val))) | (apply AtP.skipI; (case hn => (first | (with_reducible assumption) | exact Len.rep | exact Len.set (by with_reducible assumption) | exact Len.set Len.rep | exact Len.set (Len.set Len.rep))); (case h => omega); (case ho => rfl)) | apply AtP.skipV))); refine put_move ?_; go_step) | (refine wpl (by kernel_rfl) ?_; apply wp_loadA hS 50 _ rfl _ rfl 103 (row_of rfl) _; (case hp => (repeat (first | with_reducible exact Pull.head | apply Pull.tail))); refine put_move ?_; go_step) | (refine wpl (by kernel_rfl) ?_; apply wp_loadG hS 50 _ rfl _ rfl 103 (row_of rfl) _; (case hp => (repeat (first | with_reducible exact Pull.head | apply Pull.tail))); (case hn => rfl); refine put_move ?_; go_step) | (refine wpl (by kernel_rfl) ?_; apply wp_loadRW hS 50 _ rfl _ _ rfl 103 (row_of rfl) _; (case hc => with_reducible assumption); (case hn => rfl); refine put_move ?_; go_step))
      | ((with_reducible show wpList _ _ _ (⟨some 7, .alloc 50, _, _, _, _⟩ :: _) _ _); first | (refine wpl (by kernel_rfl) ?_; apply wp_allocP (o := ⟨some 7, _, _, _, _, _⟩) hS 50 rfl _ zp50; clear hS; intro g7 w hS; refine put_move ?_; go_step))
      | ((with_reducible show wpList _ _ _ (⟨_, .store 50 _ _, _, _, _, _⟩ :: _) _ _); first | (refine wpl (by kernel_rfl) ?_; apply wp_storePP hS 50 _ _ rfl _ rfl 103 (row_of rfl) _ _; (case hp => (repeat (first | with_reducible exact Pull.head | apply Pull.tail))); (case hy => rfl); (case hn => (repeat (first | exact Pre.nil | (apply Pre.ints; (case hn => (first | (with_reducible assumption) | exact Len.rep | exact Len.set (by with_reducible assumption) | exact Len.set Len.rep | exact Len.set (Len.set Len.rep))); (case h => omega); (case hm => rfl)) | apply Pre.val))); (case hn' => (repeat (first | exact Pre.nil | (apply Pre.ints; (case hn => (first | (with_reducible assumption) | exact Len.rep | exact Len.set (by with_reducible assumption) | exact Len.set Len.rep | exact Len.set (Len.set Len.rep))); (case h => omega); (case hm => rfl)) | apply Pre.val))); (case hv => rfl); (case hd => exact rfl); clear hS; intro w hS) | (refine wpl (by kernel_rfl) ?_; apply wp_storeA hS 50 _ _ rfl _ rfl 103 (row_of rfl) _ _; (case hp => (repeat (first | with_reducible exact Pull.head | apply Pull.tail))); (case hy => rfl); (case hm => (repeat (first | assumption | exact Len.rep | apply Len.set | ((with_reducible show Len (_ :: _) _); exact rfl)))); (case hd => exact rfl); clear hS; intro w hS) | (refine wpl (by kernel_rfl) ?_; apply wp_storeG hS 50 _ _ rfl _ rfl 103 (row_of rfl) _ _; (case hp => (repeat (first | with_reducible exact Pull.head | apply Pull.tail))); (case hy => rfl); (case hn => rfl); (case hn' => rfl); (case hv => rfl); (case hd => exact rfl); clear hS; intro w hS))
      | ((with_reducible show wpList _ _ _ (⟨_, .load 48 _, _, _, _, _⟩ :: _) _ _); first | (refine wpl (by kernel_rfl) ?_; apply wp_load1 hS 48 _ rfl _ _ rfl (one_of rfl) _; (case hp => (repeat (first | with_reducible exact Pull.head | apply Pull.tail))); (case hc => rfl); refine put_move ?_; go_step) | (refine wpl (by kernel_rfl) ?_; apply wp_load1O hS 48 _ rfl _ _ rfl (one_of rfl) _ _ _ _ _; (case hp => (repeat (first | with_reducible exact Pull.head | apply Pull.tail))); (case hv => with_reducible assumption); refine put_move ?_; go_step) | (refine wpl (by kernel_rfl) ?_; apply wp_loadW hS 48 _ rfl _ rfl (one_of rfl) _; (case hc => with_reducible assumption); refine put_move ?_; go_step) | (refine wpl (by kernel_rfl) ?_; apply wp_loadVP hS 48 _ rfl _ _ rfl (one_of rfl) _; (case hp => (repeat (first | with_reducible exact Pull.head | apply Pull.tail))); (case hi => (repeat (first | exact AtV.head | (apply AtV.skipI; (case hn => (first | (with_reducible assumption) | exact Len.rep | exact Len.set (by with_reducible assumption) | exact Len.set Len.rep | exact Len.set (Len.set Len.rep))); (case h => omega); (case ho => rfl)) | apply AtV.skipV))); refine put_move ?_; go_step))
      | ((fail_if_success (with_reducible show wpList _ _ _ (_ :: _) _ _)); go_step))
    all_goals (try (have hF : False := (by omega); cases hF))
    all_goals (go_ret; first | exact ⟨rfl, hS.1⟩ | exact ⟨ret_bool (decide_eq_true (by omega)), hS.1⟩)
  obtain ⟨h, hh⟩ : ∃ h, 134 + n1 + n2 = h := ⟨_, rfl⟩
  rw [hh] at hPl hcut
  obtain ⟨r, rfl⟩ : ∃ r, k = h + r := ⟨k - h, by omega⟩
  have hrn : r ≤ nd := by omega
  have hcd := cut_data hE (h + r) (by rw [hl1, hl2, hh]; omega)
  rw [hl1, hl2, hh, Nat.add_sub_cancel_left] at hcd
  obtain ⟨f2, hf2⟩ : ∃ x : FileV, { f with data := f.data.take r } = x := ⟨_, rfl⟩
  rw [hf2] at hcd
  have g1 : f2.quant = f.quant := by rw [← hf2]
  have g2 : f2.c1 = f.c1 := by rw [← hf2]
  have g3 : f2.c2 = f.c2 := by rw [← hf2]
  have g4 : f2.s1 = f.s1 := by rw [← hf2]
  have g5 : f2.s2 = f.s2 := by rw [← hf2]
  have g6 : dataI f2 = (dataI f).take r := by rw [← hf2]; simp [dataI, List.map_take]
  have hbk := back_file hcd.2 (g1 ▸ hQ.out) (g2 ▸ hC1.out) (g3 ▸ hC2.out)
  rw [← hcd.1, g4, g5, hl1, hl2, hh] at hbk
  obtain ⟨Dt, hDt⟩ : ∃ x, dataI f = x := ⟨_, rfl⟩
  have htl : ((packI f).take (h + r)).length = h + r := by rw [List.length_take]; omega
  have hPA : ∀ w a c, Sl w 1 (.slice a (h + r - 0) c) (h + r - 0) (((packI f).take (h + r)).map (Value.int .u8)) → Calls Try.prog 21 #[.slice a (h + r - 0) c] w fun e w' => ∃ (b1 b2 bd : Option Addr) (e1 e2 ed : Nat), e = .returned (.tuple #[.agg (pcells [.val (.int .i64 f.wide), .val (.int .i64 f.high), .val (.int .i64 f.parts), .ints f.quant, .ints f.c1, .val (.slice b1 n1 e1), .ints f.c2, .val (.slice b2 n2 e2), .val (.int .i64 f.every), .val (.slice bd r ed)]).toArray, .int .i64 0]) ∧ St w w' [own 3 1 b1 n1 e1 (f.s1.map (Value.int .i64)), own 3 1 b2 n2 e2 (f.s2.map (Value.int .i64)), own 5 1 bd r ed ((Dt.take r).map (Value.int .u8))] := fun w a c hv => by
    have hp := parse_ok w a (h + r - 0) c _ hv HRK hbk.1 f2 hbk.2.1 n1 n2 r hbk.2.2.1 hbk.2.2.2.1 (by rw [htl, hbk.2.2.2.2]; omega) (Dt.take r) (by rw [g6, hDt])
    rw [← hf2] at hp
    exact hp
  rw [hDt] at hsd
  have hsd2 : ∀ w, Ext W w → Sl w 1 (.slice (cutAt ad kd 0 1) (r - 0) (kd - 0)) (r - 0) ((Dt.take r).map (Value.int .u8)) := fun w hx => sl_cut (hsd.ext hx) hrn
  have hEQ : ∀ w b1 b2 bd e1 e2 ed, Ext W w → Sl w 1 (.slice b1 n1 e1) n1 (f.s1.map (Value.int .i64)) → Sl w 1 (.slice b2 n2 e2) n2 (f.s2.map (Value.int .i64)) → Sl w 1 (.slice bd r ed) r ((Dt.take r).map (Value.int .u8)) → Calls Try.prog 22 #[.agg (pcells [.val (.int .i64 f.wide), .val (.int .i64 f.high), .val (.int .i64 f.parts), .ints f.quant, .ints f.c1, .val (.slice a1 n1 k1), .ints f.c2, .val (.slice a2 n2 k2), .val (.int .i64 f.every), .val (.slice (cutAt ad kd 0 1) (r - 0) (kd - 0))]).toArray, .agg (pcells [.val (.int .i64 f.wide), .val (.int .i64 f.high), .val (.int .i64 f.parts), .ints f.quant, .ints f.c1, .val (.slice b1 n1 e1), .ints f.c2, .val (.slice b2 n2 e2), .val (.int .i64 f.every), .val (.slice bd r ed)]).toArray] w fun e w' => e = .returned (.bool true) ∧ Ext w w' := fun w b1 b2 bd e1 e2 ed hx t1 t2 t3 => fileEq_yes w f.wide f.high f.parts f.quant f.c1 f.s1 f.c2 f.s2 f.every (Dt.take r) a1 a2 (cutAt ad kd 0 1) b1 b2 bd n1 n2 r k1 k2 (kd - 0) e1 e2 ed hQ hC1 hC2 (hs1.ext hx) (hs2.ext hx) (hsd2 w hx) t1 t2 t3
  obtain ⟨P, hP⟩ : ∃ P, packI f = P := ⟨_, rfl⟩
  rw [hP] at hPA hPF
  clear hf2 hcd g1 g2 g3 g4 g5 g6 hbk hDt htl hP hE hdlt HRK hPb hM
  obtain ⟨wd, hg, p, Q, C1, S1, C2, S2, ev, D⟩ := f
  dsimp only at hPA hPF hEQ hs1 hs2 hsd hQ hC1 hC2 hld hl1 hl2
  have HPA : Veil2 _ := ⟨hPA⟩
  have HPF : Veil2 _ := ⟨hPF⟩
  have HEQ : Veil2 _ := ⟨hEQ⟩
  clear hPA hPF hEQ hsd2
  show Calls Try.prog 11 #[.agg (pcells (gp wd hg p Q C1 (.slice a1 n1 k1) C2 (.slice a2 n2 k2) ev (.slice ad nd kd))).toArray, .int .i64 at0] _ _
  go_enter Try.func11, Try.ntmps11
  repeat' (first
    | ((with_reducible show wpList _ _ _ (⟨_, .call ⟨.value (.func 18), _, _⟩, _, _, _, _⟩ :: _) _ _); refine wpl_call (f := 18) Try.call18 (by kernel_rfl) ?_; refine ⟨_, (filed_any _), ?_⟩; rintro e w ⟨rfl, hE2⟩; replace hS := hS.ext hE2; clear hE2; refine ⟨_, rfl, ?_⟩; refine put_move ?_; go_step)
    | ((with_reducible show wpList _ _ _ (⟨some 14, _, _, _, _, _⟩ :: _) _ _); refine wpl_call (f := 19) Try.call19 (by kernel_rfl) ?_; refine ⟨_, (HPF.out _ hS.1), ?_⟩; rintro e w ⟨ao, co, rfl, hS2⟩; replace hS := hS.call1 hS2; clear hS2; obtain ⟨bo, rfl⟩ := own_some (a := ao) hS (by (repeat (first | with_reducible exact Pull.head | apply Pull.tail))) (by omega); have hcap : M ≤ co := (by obtain ⟨_, _, _, h1, h2, _⟩ := hS.sl (a := some ⟨bo, 0, none⟩) (by (repeat (first | with_reducible exact Pull.head | apply Pull.tail))); cases h1; exact h2); refine ⟨_, rfl, ?_⟩; refine put_move ?_; go_step)
    | ((with_reducible show wpList _ _ _ (⟨_, .call ⟨.value (.func 16), _, _⟩, _, _, _, _⟩ :: _) _ _); refine wpl_call (f := 16) Try.call16 (by kernel_rfl) ?_; refine ⟨_, (rest_any at0 ((M : Int) + 1) _ (by omega) (by omega)), ?_⟩; rintro e w' ⟨rfl, rfl⟩; rw [HK.out]; refine ⟨_, rfl, ?_⟩; refine put_move ?_; go_step)
    | ((with_reducible show wpList _ _ _ (⟨some 31, _, _, _, _, _⟩ :: _) _ _); refine wpl_call (f := 21) Try.call21 (by kernel_rfl) ?_; refine ⟨_, (HPA.out _ _ _ (sl_cut (hS.sl (a := some ⟨bo, 0, none⟩) (by (repeat (first | with_reducible exact Pull.head | apply Pull.tail)))) hkM)), ?_⟩; rintro e w ⟨bb1, bb2, bbd, ee1, ee2, eed, rfl, hS2⟩; replace hS := hS.call hS2; clear hS2; simp only [List.cons_append, List.nil_append] at hS; refine ⟨_, rfl, ?_⟩; refine put_move ?_; go_step)
    | ((with_reducible show wpList _ _ _ (⟨some 39, .binOp .sub _ _ _ _, _, _, _, _⟩ :: _) _ _); first | (refine wplV (.int _ (((h : Nat) : Int))) (V.as (V.subI rfl rfl (by omega)) (by omega)) rfl ?_; go_step) | (refine wplV (.int _ (((h : Nat) : Int))) (V.as (V.subR (by decide) rfl rfl) (by omega)) rfl ?_; go_step))
    | ((with_reducible show wpList _ _ _ (⟨some 49, .binOp .sub _ _ _ _, _, _, _, _⟩ :: _) _ _); first | (refine wplV (.int _ (((r : Nat) : Int))) (V.as (V.subI rfl rfl (by omega)) (by omega)) rfl ?_; go_step) | (refine wplV (.int _ (((r : Nat) : Int))) (V.as (V.subR (by decide) rfl rfl) (by omega)) rfl ?_; go_step))
    | ((with_reducible show wpList _ _ _ (⟨some 57, _, _, _, _, _⟩ :: _) _ _); refine wpl (by kernel_rfl) ?_; have X := HEQ.out w bb1 bb2 bbd ee1 ee2 eed hS.1 (hS.sl (by (repeat (first | with_reducible exact Pull.head | apply Pull.tail)))) (hS.sl (by (repeat (first | with_reducible exact Pull.head | apply Pull.tail)))) (hS.sl (by (repeat (first | with_reducible exact Pull.head | apply Pull.tail)))); refine wp_callF (f := 22) rfl Try.call22 X ?_; clear X; rintro e w ⟨rfl, hE2⟩; refine ⟨_, rfl, ?_⟩; replace hS := hS.ext hE2; clear hE2; refine put_move ?_; go_step)
    | go_skip
    | go_big_skip
    | ((with_reducible show wpList _ _ _ (⟨_, .move _, _, _, _, _⟩ :: _) _ _); (first | go_big_want | go_step); go_step)
    | ((with_reducible show wpList _ _ _ (⟨_, .assign _, _, _, _, _⟩ :: _) _ _); (first | go_big_want | go_step); go_step)
    | ((with_reducible show wpList _ _ _ (⟨_, .pick _ _ _, _, _, _, _⟩ :: _) _ _); first | (refine wplPickT rfl (by kernel_rfl) ?_; go_step) | (refine wplPickF rfl (by kernel_rfl) ?_; go_step))
    | ((with_reducible show wpList _ _ _ (⟨some 53, .binOp .eql 26 _ _ _, _, _, _, _⟩ :: _) _ _); first | (refine wplD _ (V.eql rfl rfl) (by kernel_rfl) (fun hB => ?_) (fun hB => ?_) <;> (try (have hF : False := (by omega); cases hF)) <;> go_step) | (refine wplB _ (V.eql rfl rfl) (by kernel_rfl) (fun hB => ?_) (fun hB => ?_) <;> (try (have hF : False := (absurd hB (by decide)); cases hF)) <;> go_step))
    | ((with_reducible show wpList _ _ _ (⟨_, .unOp .not _ _, _, _, _, _⟩ :: _) _ _); first | (refine wplV _ (V.notD rfl) (by kernel_rfl) ?_; go_step) | (refine wplV _ (V.not rfl) (by kernel_rfl) ?_; go_step))
    | ((with_reducible show wpList _ _ _ (⟨_, .extract _ _, _, _, _, _⟩ :: _) _ _); first | (refine wplV _ (V.extract rfl rfl) (by kernel_rfl) ?_; go_step))
    | ((with_reducible show wpList _ _ _ (⟨_, .binOp .neq 26 _ _ _, _, _, _, _⟩ :: _) _ _); first | (refine wplV _ (V.neq rfl rfl) (by kernel_rfl) ?_; go_step))
    | ((with_reducible show wpList _ _ _ (⟨_, .call ⟨.builtin .len, _, _⟩, _, _, _, _⟩ :: _) _ _); first | (refine wplV _ (V.len Try.underlying48 rfl) (by kernel_rfl) ?_; go_step))
    | ((with_reducible show wpList _ _ _ (⟨_, .binOp .eql 3 _ _ _, _, _, _, _⟩ :: _) _ _); first | (refine wplV _ (V.eql rfl rfl) (by kernel_rfl) ?_; go_step))
    | ((with_reducible show wpList _ _ _ (⟨_, .binOp .add _ _ _ _, _, _, _, _⟩ :: _) _ _); first | (refine wplV _ (V.addI rfl rfl (by omega)) (by kernel_rfl) ?_; go_step) | (refine wplV _ (V.addR (by decide) rfl rfl) (by kernel_rfl) ?_; go_step))
    | ((with_reducible show wpList _ _ _ (⟨_, .slice 48 _ _ _ _, _, _, _, _⟩ :: _) _ _); first | (refine wplV _ (V.slice Try.underlying48 isz5 rfl (by (first | exact Lo.none | exact Lo.some rfl (by (repeat (first | exact IsN.auto | with_reducible apply IsN.add | with_reducible apply IsN.sub | with_reducible apply IsN.mul | with_reducible apply IsN.div | with_reducible apply IsN.mod | with_reducible apply IsN.min | with_reducible apply IsN.max | (with_reducible show (_ : Nat) ≤ _; omega) | exact IsN.toNat (by omega)))))) (by (first | exact Up.none | exact Up.some rfl (by (repeat (first | exact IsN.auto | with_reducible apply IsN.add | with_reducible apply IsN.sub | with_reducible apply IsN.mul | with_reducible apply IsN.div | with_reducible apply IsN.mod | with_reducible apply IsN.min | with_reducible apply IsN.max | (with_reducible show (_ : Nat) ≤ _; omega) | exact IsN.toNat (by omega)))))) (by omega) (by omega)) (by kernel_rfl) ?_; go_step))
    | ((with_reducible show wpList _ _ _ (⟨_, .fieldAddr 50 _ 6, _, _, _, _⟩ :: _) _ _); first | (refine wplV _ (V.fieldAddr fo50_6 rfl (by first | with_reducible exact Nat.zero_add _ | with_reducible exact Nat.add_zero _ | exact rfl)) (by kernel_rfl) ?_; go_step))
    | ((with_reducible show wpList _ _ _ (⟨_, .binOp .sub _ _ _ _, _, _, _, _⟩ :: _) _ _); first | (refine wplV _ (V.subI rfl rfl (by omega)) (by kernel_rfl) ?_; go_step) | (refine wplV _ (V.subR (by decide) rfl rfl) (by kernel_rfl) ?_; go_step))
    | ((with_reducible show wpList _ _ _ (⟨_, .binOp .lss _ _ _ _, _, _, _, _⟩ :: _) _ _); first | (refine wplV _ (V.lss rfl rfl) (by kernel_rfl) ?_; go_step))
    | ((with_reducible show wpList _ _ _ (⟨_, .binOp .eql 26 _ _ _, _, _, _, _⟩ :: _) _ _); first | (refine wplV _ (V.eql rfl rfl) (by kernel_rfl) ?_; go_step))
    | ((with_reducible show wpList _ _ _ (⟨some 2, .box 50 _, _, _, _, _⟩ :: _) _ _); first | (refine wpl (by kernel_rfl) ?_; apply wp_boxP (o := ⟨some 2, _, _, _, _, _⟩) hS 50 _ rfl _ rfl; clear hS; intro g2 w hS; refine put_move ?_; go_step))
    | ((with_reducible show wpList _ _ _ (⟨_, .load 50 _, _, _, _, _⟩ :: _) _ _); first | (refine wpl (by kernel_rfl) ?_; apply wp_loadPP hS 50 _ rfl _ _ rfl 103 (row_of rfl) _; (case hp => (repeat (first | with_reducible exact Pull.head | apply Pull.tail))); (case hi => (repeat (first | (apply AtP.head; (repeat (first | exact Pre.nil | (apply Pre.ints; (case hn => (first | (with_reducible assumption) | exact Len.rep | exact Len.set (by with_reducible assumption) | exact Len.set Len.rep | exact Len.set (Len.set Len.rep))); (case h => omega); (case hm => rfl)) | apply Pre.val))) | (apply AtP.skipI; (case hn => (first | (with_reducible assumption) | exact Len.rep | exact Len.set (by with_reducible assumption) | exact Len.set Len.rep | exact Len.set (Len.set Len.rep))); (case h => omega); (case ho => rfl)) | apply AtP.skipV))); refine put_move ?_; go_step) | (refine wpl (by kernel_rfl) ?_; apply wp_loadA hS 50 _ rfl _ rfl 103 (row_of rfl) _; (case hp => (repeat (first | with_reducible exact Pull.head | apply Pull.tail))); refine put_move ?_; go_step) | (refine wpl (by kernel_rfl) ?_; apply wp_loadG hS 50 _ rfl _ rfl 103 (row_of rfl) _; (case hp => (repeat (first | with_reducible exact Pull.head | apply Pull.tail))); (case hn => rfl); refine put_move ?_; go_step) | (refine wpl (by kernel_rfl) ?_; apply wp_loadRW hS 50 _ rfl _ _ rfl 103 (row_of rfl) _; (case hc => with_reducible assumption); (case hn => rfl); refine put_move ?_; go_step))
    | ((with_reducible show wpList _ _ _ (⟨some 7, .alloc 50, _, _, _, _⟩ :: _) _ _); first | (refine wpl (by kernel_rfl) ?_; apply wp_allocP (o := ⟨some 7, _, _, _, _, _⟩) hS 50 rfl _ zp50; clear hS; intro g7 w hS; refine put_move ?_; go_step))
    | ((with_reducible show wpList _ _ _ (⟨_, .store 50 _ _, _, _, _, _⟩ :: _) _ _); first | (refine wpl (by kernel_rfl) ?_; apply wp_storePP hS 50 _ _ rfl _ rfl 103 (row_of rfl) _ _; (case hp => (repeat (first | with_reducible exact Pull.head | apply Pull.tail))); (case hy => rfl); (case hn => (repeat (first | exact Pre.nil | (apply Pre.ints; (case hn => (first | (with_reducible assumption) | exact Len.rep | exact Len.set (by with_reducible assumption) | exact Len.set Len.rep | exact Len.set (Len.set Len.rep))); (case h => omega); (case hm => rfl)) | apply Pre.val))); (case hn' => (repeat (first | exact Pre.nil | (apply Pre.ints; (case hn => (first | (with_reducible assumption) | exact Len.rep | exact Len.set (by with_reducible assumption) | exact Len.set Len.rep | exact Len.set (Len.set Len.rep))); (case h => omega); (case hm => rfl)) | apply Pre.val))); (case hv => rfl); (case hd => exact rfl); clear hS; intro w hS) | (refine wpl (by kernel_rfl) ?_; apply wp_storeA hS 50 _ _ rfl _ rfl 103 (row_of rfl) _ _; (case hp => (repeat (first | with_reducible exact Pull.head | apply Pull.tail))); (case hy => rfl); (case hm => (repeat (first | assumption | exact Len.rep | apply Len.set | ((with_reducible show Len (_ :: _) _); exact rfl)))); (case hd => exact rfl); clear hS; intro w hS) | (refine wpl (by kernel_rfl) ?_; apply wp_storeG hS 50 _ _ rfl _ rfl 103 (row_of rfl) _ _; (case hp => (repeat (first | with_reducible exact Pull.head | apply Pull.tail))); (case hy => rfl); (case hn => rfl); (case hn' => rfl); (case hv => rfl); (case hd => exact rfl); clear hS; intro w hS))
    | ((with_reducible show wpList _ _ _ (⟨_, .load 48 _, _, _, _, _⟩ :: _) _ _); first | (refine wpl (by kernel_rfl) ?_; apply wp_load1 hS 48 _ rfl _ _ rfl (one_of rfl) _; (case hp => (repeat (first | with_reducible exact Pull.head | apply Pull.tail))); (case hc => rfl); refine put_move ?_; go_step) | (refine wpl (by kernel_rfl) ?_; apply wp_load1O hS 48 _ rfl _ _ rfl (one_of rfl) _ _ _ _ _; (case hp => (repeat (first | with_reducible exact Pull.head | apply Pull.tail))); (case hv => with_reducible assumption); refine put_move ?_; go_step) | (refine wpl (by kernel_rfl) ?_; apply wp_loadW hS 48 _ rfl _ rfl (one_of rfl) _; (case hc => with_reducible assumption); refine put_move ?_; go_step) | (refine wpl (by kernel_rfl) ?_; apply wp_loadVP hS 48 _ rfl _ _ rfl (one_of rfl) _; (case hp => (repeat (first | with_reducible exact Pull.head | apply Pull.tail))); (case hi => (repeat (first | exact AtV.head | (apply AtV.skipI; (case hn => (first | (with_reducible assumption) | exact Len.rep | exact Len.set (by with_reducible assumption) | exact Len.set Len.rep | exact Len.set (Len.set Len.rep))); (case h => omega); (case ho => rfl)) | apply AtV.skipV))); refine put_move ?_; go_step))
    | ((with_reducible show wpList _ _ _ (⟨_, .store 48 _ _, _, _, _, _⟩ :: _) _ _); first | (refine wpl (by kernel_rfl) ?_; apply wp_store1 hS 48 _ _ rfl _ _ rfl (one_of rfl) _ _; (case hp => (repeat (first | with_reducible exact Pull.head | apply Pull.tail))); (case hy => (first | exact IsV.int rfl | exact IsV.bool rfl | exact IsV.slice rfl | exact IsV.pointer rfl | exact IsV.string rfl | exact IsV.map rfl | exact IsV.func rfl)); (case hv => rfl); (case hc => (repeat (first | with_reducible exact SetAt.head | apply SetAt.tail))); (case hd => exact rfl); clear hS; intro w hS) | (refine wpl (by kernel_rfl) ?_; apply wp_storeVP hS 48 _ _ rfl _ _ rfl (one_of rfl) _ _; (case hp => (repeat (first | with_reducible exact Pull.head | apply Pull.tail))); (case hy => (first | exact IsV.int rfl | exact IsV.bool rfl | exact IsV.slice rfl | exact IsV.pointer rfl | exact IsV.string rfl | exact IsV.map rfl | exact IsV.func rfl)); (case hz => rfl); (case hi => (repeat (first | exact PutV.head | (apply PutV.skipI; (case hn => (first | (with_reducible assumption) | exact Len.rep | exact Len.set (by with_reducible assumption) | exact Len.set Len.rep | exact Len.set (Len.set Len.rep))); (case h => omega); (case ho => rfl)) | apply PutV.skipV))); (case hd => exact rfl); clear hS; intro w hS) | (refine wpl (by kernel_rfl) ?_; apply wp_store1O hS 48 _ _ rfl _ _ rfl (one_of rfl) _ _ _ _ _; (case hp => (repeat (first | with_reducible exact Pull.head | apply Pull.tail))); (case hy => (first | exact IsV.int rfl | exact IsV.bool rfl | exact IsV.slice rfl | exact IsV.pointer rfl | exact IsV.string rfl | exact IsV.map rfl | exact IsV.func rfl)); (case hv => rfl); (case hi => omega); (case hd => exact rfl); clear hS; intro w hS))
    | ((fail_if_success (with_reducible show wpList _ _ _ (_ :: _) _ _)); go_step))
  all_goals (try (have hF : False := (by omega); cases hF))
  all_goals (go_ret; first | exact ⟨rfl, hS.1⟩ | exact ⟨ret_bool (decide_eq_true (by omega)), hS.1⟩)
end Go.Proofs.Ythkdckmhmiebfaa
