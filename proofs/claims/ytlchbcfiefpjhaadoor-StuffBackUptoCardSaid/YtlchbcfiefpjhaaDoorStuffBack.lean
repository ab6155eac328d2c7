/- StuffBack: whatever bytes are stuffed are plain again; nothing in them is a mark. -/
import Derived.Test.YtlchbcfiefpjhaaDoorStuffKeep
namespace Go.Proofs.YtlchbcfiefpjhaaDoor
open Go.ChangeShapes Go.WideShapes Go.ChangeAt Go.RowKit
set_option linter.unusedVariables false
set_option maxHeartbeats 4000000 in
theorem StuffBack_walk {H : Type} {enc : TypeId × Value → H} {d0 : DataW H} {p0 : List MemPlace} {v0 : Value} {base : Nat} (W : World)
    (o0 : Value.okWide Tryd.prog W .any base 22 v0) (h0 : DataW.Trod enc Tryd.prog W 0 (fun _ => true) true 22 v0 d0 p0) (lt0 : ∀ x ∈ p0, x.block < W.heap.size)
    (hbulk : Rows.uptoSmall H [d0] = true) (hsh : W.ShapedOpen Tryd.prog) :
    Calls Tryd.prog 5 #[v0] W fun e w' => e = .returned (.bool true) ∧ Ext W w' := by
  obtain ⟨n, xs, ad, c, rfl, hs, hr, hnil, hb⟩ := op_bytesI o0 h0
  have hbk := bulk_of hbulk (d := d0) (by simp)
  have hln : xs.length = n := by have := hs.1; simpa using this
  have hk1 := stf_two xs
  have hr1 := stf_rng hr
  have hspf := spf_stf xs [] [] []
  have hml : ∃ m, W.cell? ⟨0, 0, none⟩ = some (.int .i64 m) := Tryd.laysM185.s1_3 W hsh
  obtain ⟨A, hA⟩ : ∃ A, stf xs = A := ⟨_, rfl⟩
  obtain ⟨la, hla⟩ : ∃ la, A.length = la := ⟨_, rfl⟩
  rw [hA, hla] at hk1
  rw [hA] at hr1 hspf
  have F1 := hid hA
  have F4 := hid hla
  have HS := hid hs
  have HR : Veil3 (∀ x ∈ xs, 0 ≤ x ∧ x < 256) := ⟨hr⟩
  have HR1 : Veil3 (∀ x ∈ A, 0 ≤ x ∧ x < 256) := ⟨hr1⟩
  have HN := hid hnil
  have HML : Veil3 _ := ⟨hml⟩
  have HSPF : Veil3 (spf A [] [] [] = some ([A], [])) := ⟨by simpa using hspf⟩
  have hS := St.start W
  clear hr hr1 hnil o0 h0 lt0 hbulk hsh hA hla hml hspf
  go_enter Tryd.func5, Tryd.ntmps5
  repeat' (first
    | ((with_reducible show wpList _ _ _ (⟨_, .call ⟨.value (.func 9), _, _⟩, _, _, _, _⟩ :: _) _ _); refine wpl_call (f := 9) Tryd.call9 (by kernel_rfl) ?_; refine ⟨_, (stuffed_any _), ?_⟩; rintro e w ⟨rfl, hE2⟩; replace hS := hS.ext hE2; clear hE2; refine ⟨_, rfl, ?_⟩; refine put_move ?_; go_step)
    | ((with_reducible show wpList _ _ _ (⟨_, .call ⟨.value (.func 8), _, _⟩, _, _, _, _⟩ :: _) _ _); refine wpl_call (f := 8) Tryd.call8 (by kernel_rfl) ?_; refine ⟨_, (stuff_any _ _ n c xs (HS.out.ext hS.1) HN.out HR.out (by omega)), ?_⟩; rintro e w ⟨ad6, c6, rfl, hS2⟩; replace hS := hS.call1 hS2; clear hS2; rw [F1.out, F4.out] at hS ⊢; refine ⟨_, rfl, ?_⟩; refine put_move ?_; go_step)
    | go_skip
    | go_big_skip
    | ((with_reducible show wpList _ _ _ (⟨_, .move _, _, _, _, _⟩ :: _) _ _); (first | go_big_want | go_step); go_step)
    | ((with_reducible show wpList _ _ _ (⟨_, .assign _, _, _, _, _⟩ :: _) _ _); (first | go_big_want | go_step); go_step)
    | ((with_reducible show wpList _ _ _ (⟨_, .pick _ _ _, _, _, _, _⟩ :: _) _ _); first | (refine wplPickT rfl (by kernel_rfl) ?_; go_step) | (refine wplPickF rfl (by kernel_rfl) ?_; go_step))
    | ((with_reducible show wpList _ _ _ (⟨some 10, .unOp .not _ _, _, _, _, _⟩ :: _) _ _); first | (refine wplV _ (V.notD rfl) (by kernel_rfl) ?_; go_step) | (refine wplV _ (V.not rfl) (by kernel_rfl) ?_; go_step))
    | ((fail_if_success (with_reducible show wpList _ _ _ (_ :: _) _ _)); go_step))
  have hn6 := own_nil hS .head
  repeat' (first
    | ((with_reducible show wpList _ _ _ (⟨_, .call ⟨.value (.func 11), _, _⟩, _, _, _, _⟩ :: _) _ _); refine wpl_call (f := 11) Tryd.call11 (by kernel_rfl) ?_; refine ⟨_, (plain_any _ _ la c6 A (hS.sl (by (repeat (first | with_reducible exact Pull.head | apply Pull.tail)))) hn6 HR1.out (by omega) (HML.out.imp fun m h => hS.1.cell h)), ?_⟩; rintro e w ⟨hR1, -⟩; obtain ⟨ad7, c7, rfl, hS2⟩ := hR1 xs F1.out.symm; clear hR1; replace hS := hS.call1 hS2; clear hS2; rw [hln] at hS ⊢; refine ⟨_, rfl, ?_⟩; refine put_move ?_; go_step)
    | go_skip
    | go_big_skip
    | ((with_reducible show wpList _ _ _ (⟨_, .move _, _, _, _, _⟩ :: _) _ _); (first | go_big_want | go_step); go_step)
    | ((with_reducible show wpList _ _ _ (⟨_, .assign _, _, _, _, _⟩ :: _) _ _); (first | go_big_want | go_step); go_step)
    | ((with_reducible show wpList _ _ _ (⟨_, .pick _ _ _, _, _, _, _⟩ :: _) _ _); first | (refine wplPickT rfl (by kernel_rfl) ?_; go_step) | (refine wplPickF rfl (by kernel_rfl) ?_; go_step))
    | ((with_reducible show wpList _ _ _ (⟨some 16, .extract _ _, _, _, _, _⟩ :: _) _ _); first | (refine wplV _ (V.extract rfl rfl) (by kernel_rfl) ?_; go_step))
    | ((with_reducible show wpList _ _ _ (⟨some 17, .extract _ _, _, _, _, _⟩ :: _) _ _); first | (refine wplV _ (V.extract rfl rfl) (by kernel_rfl) ?_; go_step))
    | ((fail_if_success (with_reducible show wpList _ _ _ (_ :: _) _ _)); go_step))
  repeat' (first
    | ((with_reducible show wpList _ _ _ (⟨_, .call ⟨.value (.func 12), _, _⟩, _, _, _, _⟩ :: _) _ _); refine wpl_call (f := 12) Tryd.call12 (by kernel_rfl) ?_; refine ⟨_, (split_any _ _ la c6 A (hS.sl (by (repeat (first | with_reducible exact Pull.head | apply Pull.tail)))) HR1.out (by omega)), ?_⟩; rintro e w ⟨-, hR1⟩; obtain ⟨pcs, ao, am, co, cm, lo, lm, hlo, hlm, hpc, rfl, hS2⟩ := hR1 _ _ HSPF.out; clear hR1; simp only [List.length_cons, List.length_nil] at hlo hlm; subst hlo; subst hlm; replace hS := hS.call hS2; clear hS2; simp only [List.cons_append, List.nil_append] at hS; refine ⟨_, rfl, ?_⟩; refine put_move ?_; go_step)
    | go_skip
    | go_big_skip
    | ((with_reducible show wpList _ _ _ (⟨_, .move _, _, _, _, _⟩ :: _) _ _); (first | go_big_want | go_step); go_step)
    | ((with_reducible show wpList _ _ _ (⟨_, .assign _, _, _, _, _⟩ :: _) _ _); (first | go_big_want | go_step); go_step)
    | ((with_reducible show wpList _ _ _ (⟨_, .pick _ _ _, _, _, _, _⟩ :: _) _ _); first | (refine wplPickT rfl (by kernel_rfl) ?_; go_step) | (refine wplPickF rfl (by kernel_rfl) ?_; go_step))
    | ((with_reducible show wpList _ _ _ (⟨some 21, .extract _ _, _, _, _, _⟩ :: _) _ _); first | (refine wplV _ (V.extract rfl rfl) (by kernel_rfl) ?_; go_step))
    | ((with_reducible show wpList _ _ _ (⟨some 22, .extract _ _, _, _, _, _⟩ :: _) _ _); first | (refine wplV _ (V.extract rfl rfl) (by kernel_rfl) ?_; go_step))
    | ((with_reducible show wpList _ _ _ (⟨some 23, .extract _ _, _, _, _, _⟩ :: _) _ _); first | (refine wplV _ (V.extract rfl rfl) (by kernel_rfl) ?_; go_step))
    | ((fail_if_success (with_reducible show wpList _ _ _ (_ :: _) _ _)); go_step))
  obtain ⟨pc, rfl⟩ : ∃ pc, pcs = [pc] := List.length_eq_one_iff.1 (by simpa using congrArg List.length hpc)
  have hpx : pc.xs = A := by simpa using hpc
  have hpg := pcs_get hS (pcs := [pc]) (by (repeat (first | with_reducible exact Pull.head | apply Pull.tail))) (x := pc) (by simp)
  obtain ⟨pa, pcc, px⟩ := pc
  have hpx : px = A := hpx
  subst hpx
  have hv0 : ([⟨pa, pcc, px⟩] : List Pc).map Pc.val = [.slice pa px.length pcc] := rfl
  rw [hv0] at hS
  have E1 : BSl w (.slice ad7 n c7) xs := by have := hS.sl (show Pull (own 5 1 ad7 n c7 (xs.map (Value.int .u8))) _ _ from (by (repeat (first | with_reducible exact Pull.head | apply Pull.tail)))); unfold BSl; rw [hln]; exact this
  have E2 : BSl w (.slice ad n c) xs := by have := HS.out.ext hS.1; unfold BSl; rw [hln]; exact this
  have E3 : BSl w (.slice pa px.length pcc) px := hpg
  have E4 : BSl w (.slice ad6 la c6) px := by have := hS.sl (show Pull (own 5 1 ad6 la c6 (px.map (Value.int .u8))) _ _ from (by (repeat (first | with_reducible exact Pull.head | apply Pull.tail)))); unfold BSl; rw [F4.out]; exact this
  have H1 := hid (eqByte_yes w _ _ _ _ E1 E2 rfl)
  have H2 := hid (eqByte_yes w _ _ _ _ E3 E4 rfl)
  clear E1 E2 E3 E4 hpg hpc
  have hg0 : ([Value.slice pa px.length pcc] : List Value)[0]? = some (.slice pa px.length pcc) := rfl
  repeat' (first
    | ((with_reducible show wpList _ _ _ (⟨some 29, _, _, _, _, _⟩ :: _) _ _); refine wpl_call (f := 10) Tryd.call10 (by kernel_rfl) ?_; refine ⟨_, (H1.out), ?_⟩; rintro e w ⟨rfl, rfl⟩; refine ⟨_, rfl, ?_⟩; refine put_move ?_; go_step)
    | ((with_reducible show wpList _ _ _ (⟨some 50, _, _, _, _, _⟩ :: _) _ _); refine wpl_call (f := 10) Tryd.call10 (by kernel_rfl) ?_; refine ⟨_, (H2.out), ?_⟩; rintro e w ⟨rfl, rfl⟩; refine ⟨_, rfl, ?_⟩; refine put_move ?_; go_step)
    | go_skip
    | go_big_skip
    | ((with_reducible show wpList _ _ _ (⟨_, .move _, _, _, _, _⟩ :: _) _ _); (first | go_big_want | go_step); go_step)
    | ((with_reducible show wpList _ _ _ (⟨_, .assign _, _, _, _, _⟩ :: _) _ _); (first | go_big_want | go_step); go_step)
    | ((with_reducible show wpList _ _ _ (⟨_, .pick _ _ _, _, _, _, _⟩ :: _) _ _); first | (refine wplPickT rfl (by kernel_rfl) ?_; go_step) | (refine wplPickF rfl (by kernel_rfl) ?_; go_step))
    | ((with_reducible show wpList _ _ _ (⟨some 25, .binOp .eql 27 _ _ _, _, _, _, _⟩ :: _) _ _); first | (refine wplD _ (V.eql rfl rfl) (by kernel_rfl) (fun hB => ?_) (fun hB => ?_) <;> (try (have hF : False := (by omega); cases hF)) <;> go_step) | (refine wplB _ (V.eql rfl rfl) (by kernel_rfl) (fun hB => ?_) (fun hB => ?_) <;> (try (have hF : False := (absurd hB (by decide)); cases hF)) <;> go_step))
    | ((with_reducible show wpList _ _ _ (⟨some 33, .binOp .eql 27 _ _ _, _, _, _, _⟩ :: _) _ _); first | (refine wplD _ (V.eql rfl rfl) (by kernel_rfl) (fun hB => ?_) (fun hB => ?_) <;> (try (have hF : False := (by omega); cases hF)) <;> go_step) | (refine wplB _ (V.eql rfl rfl) (by kernel_rfl) (fun hB => ?_) (fun hB => ?_) <;> (try (have hF : False := (absurd hB (by decide)); cases hF)) <;> go_step))
    | ((with_reducible show wpList _ _ _ (⟨some 38, .binOp .eql 3 _ _ _, _, _, _, _⟩ :: _) _ _); first | (refine wplD _ (V.eql rfl rfl) (by kernel_rfl) (fun hB => ?_) (fun hB => ?_) <;> (try (have hF : False := (by omega); cases hF)) <;> go_step) | (refine wplB _ (V.eql rfl rfl) (by kernel_rfl) (fun hB => ?_) (fun hB => ?_) <;> (try (have hF : False := (absurd hB (by decide)); cases hF)) <;> go_step))
    | ((with_reducible show wpList _ _ _ (⟨some 43, .binOp .eql 3 _ _ _, _, _, _, _⟩ :: _) _ _); first | (refine wplD _ (V.eql rfl rfl) (by kernel_rfl) (fun hB => ?_) (fun hB => ?_) <;> (try (have hF : False := (by omega); cases hF)) <;> go_step) | (refine wplB _ (V.eql rfl rfl) (by kernel_rfl) (fun hB => ?_) (fun hB => ?_) <;> (try (have hF : False := (absurd hB (by decide)); cases hF)) <;> go_step))
    | ((with_reducible show wpList _ _ _ (⟨some 37, .call ⟨.builtin .len, _, _⟩, _, _, _, _⟩ :: _) _ _); first | (refine wplV _ (V.len Tryd.underlying31 rfl) (by kernel_rfl) ?_; go_step))
    | ((with_reducible show wpList _ _ _ (⟨some 42, .call ⟨.builtin .len, _, _⟩, _, _, _, _⟩ :: _) _ _); first | (refine wplV _ (V.len Tryd.underlying30 rfl) (by kernel_rfl) ?_; go_step))
    | ((with_reducible show wpList _ _ _ (⟨some 47, .indexAddr 30 _ _, _, _, _, _⟩ :: _) _ _); first | (refine wplV _ (V.indexSl Tryd.underlying30 isz22 rfl rfl (show IsN 0 0 from rfl) (by omega) (show 0 * 1 = 0 from rfl) (by first | with_reducible exact Nat.zero_add _ | with_reducible exact Nat.add_zero _ | exact rfl)) (by kernel_rfl) ?_; go_step) | (refine wpl_indexW (by with_reducible assumption) Tryd.underlying30 isz22 rfl rfl (show IsN 0 0 from rfl) (by omega) rfl ?_; intro b47 o47 hc47; go_step) | (refine wpl_indexO hS rfl (by (repeat (first | with_reducible exact Pull.head | apply Pull.tail))) Tryd.underlying30 isz22 rfl (show IsN 0 0 from rfl) (by omega) (show 0 * 1 = 0 from rfl) rfl ?_; (first | (rintro b47 rfl) | (intro b47 hb47; cases hb47)); go_step))
    | ((with_reducible show wpList _ _ _ (⟨_, .load 22 _, _, _, _, _⟩ :: _) _ _); first | (refine wpl (by kernel_rfl) ?_; apply wp_load1 hS 22 _ rfl _ _ rfl (one_of rfl) _; (case hp => (repeat (first | with_reducible exact Pull.head | apply Pull.tail))); (case hc => rfl); refine put_move ?_; go_step) | (refine wpl (by kernel_rfl) ?_; apply wp_load1O hS 22 _ rfl _ _ rfl (one_of rfl) _ _ _ _ _; (case hp => (repeat (first | with_reducible exact Pull.head | apply Pull.tail))); (case hv => with_reducible assumption); refine put_move ?_; go_step) | (refine wpl (by kernel_rfl) ?_; apply wp_loadW hS 22 _ rfl _ rfl (one_of rfl) _; (case hc => with_reducible assumption); refine put_move ?_; go_step))
    | ((fail_if_success (with_reducible show wpList _ _ _ (_ :: _) _ _)); go_step))
  go_ret
  exact ⟨rfl, hS.1⟩
end Go.Proofs.YtlchbcfiefpjhaaDoor
