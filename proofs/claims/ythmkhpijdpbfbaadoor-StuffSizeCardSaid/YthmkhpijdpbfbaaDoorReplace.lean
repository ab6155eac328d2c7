/- The walk of bytes.Replace, every piece replaced. -/
import Derived.Test.YthmkhpijdpbfbaaDoorCopy
import Derived.Test.YthmkhpijdpbfbaaDoorShelf
namespace Go.Proofs.YthmkhpijdpbfbaaDoor
open Go.RowKit
set_option linter.unusedVariables false
/-- A fact that nothing looks into. -/
structure Veil3 (p : Prop) : Prop where
  out : p
/-- The first k pieces, each with what stands behind it. -/
def pre (sep : List Int) (ps : List (List Int)) (k : Nat) : List Int := (ps.take k).flatMap (· ++ sep)
theorem pre_succ (sep : List Int) (ps : List (List Int)) (k : Nat) (h : k < ps.length) : pre sep ps (k + 1) = pre sep ps k ++ (ps[k] ++ sep) := by
  simp only [pre, List.take_succ_eq_append_getElem h, List.flatMap_append, List.flatMap_cons, List.flatMap_nil, List.append_nil]
theorem pre_le (sep : List Int) (ps : List (List Int)) (j k : Nat) (h : j ≤ k) : (pre sep ps j).length ≤ (pre sep ps k).length := by
  have e : ps.take k = ps.take j ++ (ps.take k).drop j := by
    conv => lhs; rw [← List.take_append_drop j (ps.take k)]
    rw [List.take_take, Nat.min_eq_left h]
  simp only [pre]
  rw [e, List.flatMap_append, List.length_append]
  omega
theorem pre_len (old new : List Int) (ps : List (List Int)) : ∀ k, k ≤ ps.length → (pre new ps k).length + k * old.length = (pre old ps k).length + k * new.length
  | 0, _ => by simp [pre]
  | k + 1, h => by
    rw [pre_succ new ps k (by omega), pre_succ old ps k (by omega)]
    simp only [List.length_append]
    have := pre_len old new ps k (by omega)
    rw [Nat.add_mul, Nat.add_mul]
    omega
theorem pre_split (sep : List Int) (ps : List (List Int)) (k m : Nat) (hm : ps.length = m) (h : k < ps.length) : ∃ T, pre sep ps m = pre sep ps k ++ (ps[k] ++ (sep ++ T)) := by
  refine ⟨(ps.drop (k + 1)).flatMap (· ++ sep), ?_⟩
  have e : ps = ps.take k ++ (ps[k] :: ps.drop (k + 1)) := by rw [List.getElem_cons_drop, List.take_append_drop]
  unfold pre
  rw [← hm, List.take_length]
  conv => lhs; rw [e]
  rw [List.flatMap_append, List.flatMap_cons, List.append_assoc]
theorem seg_fill (X p : List Int) (L B z : Nat) (hX : X.length = B) (hp : p.length = z) (h : B + z ≤ L) : ((X ++ List.replicate (L - B) 0).map (Value.int .u8)).take B ++ p.map (Value.int .u8) ++ ((X ++ List.replicate (L - B) 0).map (Value.int .u8)).drop (B + z) = ((X ++ p) ++ List.replicate (L - (B + z)) 0).map (Value.int .u8) := by
  subst hX
  subst hp
  rw [← List.map_take, ← List.map_drop, ← List.map_append, ← List.map_append, List.take_left' rfl, ← List.drop_drop, List.drop_left' rfl, List.drop_replicate, Nat.sub_sub]
theorem cutAt_zeroR (g c : Nat) : cutAt (some ⟨g, 0, none⟩) c 0 1 = some ⟨g, 0, none⟩ := by
  unfold cutAt
  split
  · rfl
  · rw [Option.map_some, Addr.add_mid]
set_option maxRecDepth 100000 in
set_option maxHeartbeats 8000000 in
theorem replace_any (w0 : World) (a po pn : Option Addr) (n c lo co ln cn m : Nat) (ps : List (List Int)) (last old new : List Int) (hm : ps.length = m)
    (hs : Sl w0 1 (.slice a n c) n ((pre old ps m ++ last).map (Value.int .u8))) (ho : Sl w0 1 (.slice po lo co) lo (old.map (Value.int .u8))) (hw : Sl w0 1 (.slice pn ln cn) ln (new.map (Value.int .u8)))
    (hlo : 0 < lo) (hb1 : n ≤ 140737488351232) (hb2 : lo ≤ 1000) (hb3 : ln ≤ 2)
    (HC : Veil3 (∀ w, Ext w0 w → Calls Tryd.prog 11 #[.slice a n c, .slice po lo co] w fun e w' => e = .returned (.int .i64 m) ∧ Ext w w'))
    (HI : Veil3 (∀ k (h : k < ps.length) w, Ext w0 w → Calls Tryd.prog 12 #[.slice (cutAt a c (pre old ps k).length 1) (n - (pre old ps k).length) (c - (pre old ps k).length), .slice po lo co] w fun e w' => e = .returned (.int .i64 (ps[k].length : Nat)) ∧ Ext w w')) :
    Calls Tryd.prog 10 #[.slice a n c, .slice po lo co, .slice pn ln cn, .int .i64 (-1)] w0 fun e w => ∃ (ao : Option Addr) (c' : Nat), e = .returned (.slice ao (pre new ps m ++ last).length c') ∧ St w0 w [own 5 1 ao (pre new ps m ++ last).length c' ((pre new ps m ++ last).map (Value.int .u8))] := by
  have hS := St.start w0
  have hxl : (pre old ps m ++ last).length = n := by have := hs.1; simpa using this
  have hol : old.length = lo := by have := ho.1; simpa using this
  have hnl : new.length = ln := by have := hw.1; simpa using this
  have hnc : n ≤ c := by obtain ⟨_, _, _, h1, h2, _⟩ := hs; cases h1; exact h2
  have hc9 : c ≤ 9223372036854775807 := by obtain ⟨_, _, _, h1, _, h2, _⟩ := hs; cases h1; unfold maxLen at h2; exact h2
  have hpl := pre_len old new ps m (by omega)
  rw [hol, hnl] at hpl
  rw [List.length_append] at hxl
  obtain ⟨L, hL⟩ : ∃ L, (pre new ps m ++ last).length = L := ⟨_, rfl⟩
  have hL2 := hL
  rw [List.length_append] at hL2
  have hmlo : m ≤ m * lo := Nat.le_mul_of_pos_right m hlo
  have hmn : m ≤ n := by
    have : m * lo ≤ (pre old ps m).length := by
      have h0 := pre_len old [] ps m (by omega)
      rw [hol] at h0
      simp only [List.length_nil, Nat.mul_zero, Nat.add_zero] at h0
      omega
    omega
  by_cases h0 : m = 0
  · subst h0
    have e0 : pre old ps 0 ++ last = pre new ps 0 ++ last := by simp [pre]
    rw [e0] at hs
    obtain ⟨R, hR⟩ : ∃ R, pre new ps 0 ++ last = R := ⟨_, rfl⟩
    rw [hR] at hL hs ⊢
    rw [hL]
    have hLn : L = n := by have := hs.1; rw [← hL]; simpa using this
    subst hLn
    clear hpl hL2 HI hmlo hxl e0
    go_enter Tryd.func10, Tryd.ntmps10
    repeat' (first
      | ((with_reducible show wpList _ _ _ (⟨_, .call ⟨.value (.func 11), _, _⟩, _, _, _, _⟩ :: _) _ _); refine wpl_call (f := 11) Tryd.call11 (by kernel_rfl) ?_; refine ⟨_, (HC.out _ hS.1), ?_⟩; rintro e w ⟨rfl, hE2⟩; replace hS := hS.ext hE2; clear hE2; refine ⟨_, rfl, ?_⟩; refine put_move ?_; go_step)
      | go_skip
      | go_big_skip
      | ((with_reducible show wpList _ _ _ (⟨_, .move _, _, _, _, _⟩ :: _) _ _); (first | go_big_want | go_step); go_step)
      | ((with_reducible show wpList _ _ _ (⟨_, .assign _, _, _, _, _⟩ :: _) _ _); (first | go_big_want | go_step); go_step)
      | ((with_reducible show wpList _ _ _ (⟨_, .pick _ _ _, _, _, _, _⟩ :: _) _ _); first | (refine wplPickT rfl (by kernel_rfl) ?_; go_step) | (refine wplPickF rfl (by kernel_rfl) ?_; go_step))
      | ((with_reducible show wpList _ _ _ (⟨_, .binOp .neq 3 _ _ _, _, _, _, _⟩ :: _) _ _); first | (refine wplV _ (V.neq rfl rfl) (by kernel_rfl) ?_; go_step))
      | ((with_reducible show wpList _ _ _ (⟨_, .binOp .eql 3 _ _ _, _, _, _, _⟩ :: _) _ _); first | (refine wplV _ (V.eql rfl rfl) (by kernel_rfl) ?_; go_step))
      | ((with_reducible show wpList _ _ _ (⟨some 25, .call ⟨.builtin .append, _, _⟩, _, _, _, _⟩ :: _) _ _); first | (refine wpl (by kernel_rfl) ?_; apply wp_append (o := ⟨some 25, _, _, _, _, _⟩) hS _ _ 22 rfl 5 1 1 el22 _ _ _ _ rfl; (case hp => (repeat (first | with_reducible exact Pull.head | apply Pull.tail))); (case hx => exact rfl); (case hm => (first | exact hS.slBlk (by (repeat (first | with_reducible exact Pull.head | apply Pull.tail))) (by rfl) (by decide) | exact hS.sl (by (repeat (first | with_reducible exact Pull.head | apply Pull.tail))) | with_reducible assumption | exact Sl.ext (by with_reducible assumption) hS.1 | exact Sl.nil _ _ | exact Sl.ext (by assumption) hS.1 | assumption)); (case h1 => (first | exact oneAll rfl | exact oneMap _ _ | (intro u hu; cases hu))); (case h63 => unfold maxLen; omega); (case hb => omega); clear hS; intro ad25 c25 w hS; (first | simp only [mapk1] at hS | simp only [mapk2] at hS | simp only [mapk3] at hS | simp only [mapk4] at hS | simp only [mapkl] at hS | skip); refine put_move ?_; go_step) | (refine wpl (by kernel_rfl) ?_; apply wp_append (o := ⟨some 25, _, _, _, _, _⟩) (hS.nilk 5 1 .u8) _ _ 22 rfl 5 1 1 el22 _ _ _ _ rfl; (case hp => (repeat (first | with_reducible exact Pull.head | apply Pull.tail))); (case hx => exact rfl); (case hm => (first | exact hS.slBlk (by (repeat (first | with_reducible exact Pull.head | apply Pull.tail))) (by rfl) (by decide) | exact hS.sl (by (repeat (first | with_reducible exact Pull.head | apply Pull.tail))) | with_reducible assumption | exact Sl.ext (by with_reducible assumption) hS.1 | exact Sl.nil _ _ | exact Sl.ext (by assumption) hS.1 | assumption)); (case h1 => (first | exact oneAll rfl | exact oneMap _ _ | (intro u hu; cases hu))); (case h63 => unfold maxLen; omega); (case hb => omega); clear hS; intro ad25 c25 w hS; (first | simp only [mapk1] at hS | simp only [mapk2] at hS | simp only [mapk3] at hS | simp only [mapk4] at hS | simp only [mapkl] at hS | skip); refine put_move ?_; go_step))
      | ((fail_if_success (with_reducible show wpList _ _ _ (_ :: _) _ _)); go_step))
    rw [Nat.zero_add, List.nil_append] at hS
    go_ret
    refine ⟨ad25, c25, ?_, hS.sub (by (repeat (first | exact Sub.nil | with_reducible exact Sub.refl | (apply Sub.cons; (case p => (repeat (first | with_reducible exact Pull.head | apply Pull.tail)))) | apply Sub.skip)))⟩
    show Ending.returned (.slice ad25 (0 + L) c25) = _
    rw [Nat.zero_add]
  have hLb : L ≤ 281474976702464 := by
    have : m * ln ≤ m * 2 := Nat.mul_le_mul_left m hb3
    omega
  have hLe : (L : Int) = (n : Int) + (m : Int) * ((ln : Int) - (lo : Int)) := by
    have h1 : ((m : Int) * ((ln : Int) - (lo : Int))) = ((m * ln : Nat) : Int) - ((m * lo : Nat) : Int) := by push_cast; rw [Int.mul_sub]
    rw [h1]; omega
  have hmul : IntKind.i64.wrap ((m : Int) * ((ln : Int) - (lo : Int))) = (L : Int) - (n : Int) := by
    rw [show (m : Int) * ((ln : Int) - (lo : Int)) = (L : Int) - (n : Int) by omega]
    exact IntWalk.i64_in _ (by omega)
  have HMul := hid hmul
  have HXs : ∀ k, k ≤ m → (pre old ps k).length ≤ n := fun k hk => by have := pre_le old ps k m hk; omega
  have HWs : ∀ k, k ≤ m → (pre new ps k).length ≤ L := fun k hk => by have := pre_le new ps k m hk; omega
  have HXs2 : Veil3 _ := ⟨HXs⟩
  have HWs2 : Veil3 _ := ⟨HWs⟩
  have HL : Veil3 ((pre new ps m ++ last).length = L) := ⟨hL⟩
  obtain ⟨R, hR⟩ : ∃ R, pre new ps m ++ last = R := ⟨_, rfl⟩
  have HR : Veil3 (pre new ps m ++ last = R) := ⟨hR⟩
  rw [hR] at hL ⊢
  rw [hL]
  have HXL : Veil3 ((pre old ps m).length + last.length = n) := ⟨hxl⟩
  have HWL : Veil3 ((pre new ps m).length + last.length = L) := ⟨hL2⟩
  have HM : Veil3 (ps.length = m) := ⟨hm⟩
  have HPL : Veil3 _ := ⟨hpl⟩
  clear hpl hxl hL2 hmlo hLe hmul HXs HWs hR hm
  go_enter Tryd.func10, Tryd.ntmps10
  repeat' (first
    | ((with_reducible show wpList _ _ _ (⟨_, .call ⟨.value (.func 11), _, _⟩, _, _, _, _⟩ :: _) _ _); refine wpl_call (f := 11) Tryd.call11 (by kernel_rfl) ?_; refine ⟨_, (HC.out _ hS.1), ?_⟩; rintro e w ⟨rfl, hE2⟩; replace hS := hS.ext hE2; clear hE2; refine ⟨_, rfl, ?_⟩; refine put_move ?_; go_step)
    | ((with_reducible show wpList _ _ _ (⟨some 42, _, _, _, _, _⟩ :: _) _ _); refine wplV (.int .i64 ((L : Int) - (n : Int))) (V.as (V.mul rfl rfl) (by have := HMul.out; first | exact this | (rw [IntWalk.i64_in _ (by omega)]; exact this))) (by kernel_rfl) ?_; go_step)
    | ((with_reducible show wpList _ _ _ (⟨some 43, .binOp .add _ _ _ _, _, _, _, _⟩ :: _) _ _); first | (refine wplV (.int _ (((L : Nat) : Int))) (V.as (V.addI rfl rfl (by omega)) (by omega)) rfl ?_; go_step) | (refine wplV (.int _ (((L : Nat) : Int))) (V.as (V.addR (by decide) rfl rfl) (by omega)) rfl ?_; go_step))
    | go_skip
    | go_big_skip
    | ((with_reducible show wpList _ _ _ (⟨_, .move _, _, _, _, _⟩ :: _) _ _); (first | go_big_want | go_step); go_step)
    | ((with_reducible show wpList _ _ _ (⟨_, .assign _, _, _, _, _⟩ :: _) _ _); (first | go_big_want | go_step); go_step)
    | ((with_reducible show wpList _ _ _ (⟨_, .pick _ _ _, _, _, _, _⟩ :: _) _ _); first | (refine wplPickT rfl (by kernel_rfl) ?_; go_step) | (refine wplPickF rfl (by kernel_rfl) ?_; go_step))
    | ((with_reducible show wpList _ _ _ (⟨some 27, .binOp .lss _ _ _ _, _, _, _, _⟩ :: _) _ _); first | (refine wplD _ (V.lss rfl rfl) (by kernel_rfl) (fun hB => ?_) (fun hB => ?_) <;> (try (have hF : False := (by omega); cases hF)) <;> go_step) | (refine wplB _ (V.lss rfl rfl) (by kernel_rfl) (fun hB => ?_) (fun hB => ?_) <;> (try (have hF : False := (absurd hB (by decide)); cases hF)) <;> go_step))
    | ((with_reducible show wpList _ _ _ (⟨_, .binOp .neq 3 _ _ _, _, _, _, _⟩ :: _) _ _); first | (refine wplV _ (V.neq rfl rfl) (by kernel_rfl) ?_; go_step))
    | ((with_reducible show wpList _ _ _ (⟨_, .binOp .eql 3 _ _ _, _, _, _, _⟩ :: _) _ _); first | (refine wplV _ (V.eql rfl rfl) (by kernel_rfl) ?_; go_step))
    | ((with_reducible show wpList _ _ _ (⟨_, .binOp .lss _ _ _ _, _, _, _, _⟩ :: _) _ _); first | (refine wplV _ (V.lss rfl rfl) (by kernel_rfl) ?_; go_step))
    | ((with_reducible show wpList _ _ _ (⟨_, .call ⟨.builtin .len, _, _⟩, _, _, _, _⟩ :: _) _ _); first | (refine wplV _ (V.len Tryd.underlying22 rfl) (by kernel_rfl) ?_; go_step))
    | ((with_reducible show wpList _ _ _ (⟨_, .binOp .sub _ _ _ _, _, _, _, _⟩ :: _) _ _); first | (refine wplV _ (V.subI rfl rfl (by omega)) (by kernel_rfl) ?_; go_step) | (refine wplV _ (V.subR (by decide) rfl rfl) (by kernel_rfl) ?_; go_step))
    | ((with_reducible show wpList _ _ _ (⟨_, .binOp .mul _ _ _ _, _, _, _, _⟩ :: _) _ _); first | (refine wplV _ (V.mulI rfl rfl (by omega)) (by kernel_rfl) ?_; go_step) | (refine wplV _ (V.mulR (by decide) rfl rfl) (by kernel_rfl) ?_; go_step))
    | ((with_reducible show wpList _ _ _ (⟨_, .binOp .add _ _ _ _, _, _, _, _⟩ :: _) _ _); first | (refine wplV _ (V.addI rfl rfl (by omega)) (by kernel_rfl) ?_; go_step) | (refine wplV _ (V.addR (by decide) rfl rfl) (by kernel_rfl) ?_; go_step))
    | ((with_reducible show wpList _ _ _ (⟨_, .binOp .gtr _ _ _ _, _, _, _, _⟩ :: _) _ _); first | (refine wplV _ (V.gtr rfl rfl) (by kernel_rfl) ?_; go_step))
    | ((with_reducible show wpList _ _ _ (⟨some 25, .call ⟨.builtin .append, _, _⟩, _, _, _, _⟩ :: _) _ _); first | (refine wpl (by kernel_rfl) ?_; apply wp_append (o := ⟨some 25, _, _, _, _, _⟩) hS _ _ 22 rfl 5 1 1 el22 _ _ _ _ rfl; (case hp => (repeat (first | with_reducible exact Pull.head | apply Pull.tail))); (case hx => exact rfl); (case hm => (first | exact hS.slBlk (by (repeat (first | with_reducible exact Pull.head | apply Pull.tail))) (by rfl) (by decide) | exact hS.sl (by (repeat (first | with_reducible exact Pull.head | apply Pull.tail))) | with_reducible assumption | exact Sl.ext (by with_reducible assumption) hS.1 | exact Sl.nil _ _ | exact Sl.ext (by assumption) hS.1 | assumption)); (case h1 => (first | exact oneAll rfl | exact oneMap _ _ | (intro u hu; cases hu))); (case h63 => unfold maxLen; omega); (case hb => omega); clear hS; intro ad25 c25 w hS; (first | simp only [mapk1] at hS | simp only [mapk2] at hS | simp only [mapk3] at hS | simp only [mapk4] at hS | simp only [mapkl] at hS | skip); refine put_move ?_; go_step) | (refine wpl (by kernel_rfl) ?_; apply wp_append (o := ⟨some 25, _, _, _, _, _⟩) (hS.nilk 5 1 .u8) _ _ 22 rfl 5 1 1 el22 _ _ _ _ rfl; (case hp => (repeat (first | with_reducible exact Pull.head | apply Pull.tail))); (case hx => exact rfl); (case hm => (first | exact hS.slBlk (by (repeat (first | with_reducible exact Pull.head | apply Pull.tail))) (by rfl) (by decide) | exact hS.sl (by (repeat (first | with_reducible exact Pull.head | apply Pull.tail))) | with_reducible assumption | exact Sl.ext (by with_reducible assumption) hS.1 | exact Sl.nil _ _ | exact Sl.ext (by assumption) hS.1 | assumption)); (case h1 => (first | exact oneAll rfl | exact oneMap _ _ | (intro u hu; cases hu))); (case h63 => unfold maxLen; omega); (case hb => omega); clear hS; intro ad25 c25 w hS; (first | simp only [mapk1] at hS | simp only [mapk2] at hS | simp only [mapk3] at hS | simp only [mapk4] at hS | simp only [mapkl] at hS | skip); refine put_move ?_; go_step))
    | ((with_reducible show wpList _ _ _ (⟨some 44, .makeSlice 22 _ _, _, _, _, _⟩ :: _) _ _); first | (refine wpl (by kernel_rfl) ?_; apply wp_make (o := ⟨some 44, _, _, _, _, _⟩) hS 22 _ _ rfl _ _ _ _ elz22 _ _ _ _ _ _ rfl rfl; (case hi => (repeat (first | exact IsN.auto | with_reducible apply IsN.add | with_reducible apply IsN.sub | with_reducible apply IsN.mul | with_reducible apply IsN.div | with_reducible apply IsN.mod | with_reducible apply IsN.min | with_reducible apply IsN.max | (with_reducible show (_ : Nat) ≤ _; omega) | exact IsN.toNat (by omega)))); (case hj => (repeat (first | exact IsN.auto | with_reducible apply IsN.add | with_reducible apply IsN.sub | with_reducible apply IsN.mul | with_reducible apply IsN.div | with_reducible apply IsN.mod | with_reducible apply IsN.min | with_reducible apply IsN.max | (with_reducible show (_ : Nat) ≤ _; omega) | exact IsN.toNat (by omega)))); (case hnm => omega); (case hb => omega); (case h63 => unfold maxLen; omega); clear hS; intro g44 w hS; refine put_move ?_; go_step))
    | ((fail_if_success (with_reducible show wpList _ _ _ (_ :: _) _ _)); go_step))
  go_loopg [11, 12, 49] m (fun gk wv sv iv w => ∃ k : Nat, gk + k = m ∧ iv = .int .i64 k ∧ sv = .int .i64 ((pre old ps k).length : Nat) ∧ wv = .int .i64 ((pre new ps k).length : Nat) ∧ St w0 w [own 5 1 (some ⟨g44, 0, none⟩) L L ((pre new ps k ++ List.replicate (L - (pre new ps k).length) 0).map (Value.int .u8))])
  case atStart =>
    refine ⟨0, rfl, rfl, rfl, rfl, ?_⟩
    rw [Nat.mul_one] at hS
    have e : pre new ps 0 = [] := rfl
    rw [e, List.nil_append, List.length_nil, Nat.sub_zero]
    exact hS.sub (by (repeat (first | exact Sub.nil | with_reducible exact Sub.refl | (apply Sub.cons; (case p => (repeat (first | with_reducible exact Pull.head | apply Pull.tail)))) | apply Sub.skip)))
  case round =>
    clear hS
    obtain ⟨k, hk, rfl, rfl, rfl, hS⟩ := hrel
    by_cases hlt : k < m
    · have hkp : k < ps.length := by rw [HM.out]; exact hlt
      have hIk := HI.out k hkp
      have e1 := pre_succ old ps k hkp
      have e2 := pre_succ new ps k hkp
      have l1 := HXs2.out (k + 1) hlt
      have l2 := HWs2.out (k + 1) hlt
      obtain ⟨p, hp⟩ : ∃ p, ps[k] = p := ⟨_, rfl⟩
      rw [hp] at hIk e1 e2
      rw [e1] at l1
      rw [e2] at l2
      obtain ⟨T, hT⟩ := pre_split old ps k m HM.out hkp
      rw [hp] at hT
      have hxs : pre old ps m ++ last = pre old ps k ++ (p ++ (old ++ T ++ last)) := by rw [hT]; simp only [List.append_assoc]
      obtain ⟨A, hA⟩ : ∃ A, (pre old ps k).length = A := ⟨_, rfl⟩
      obtain ⟨X, hX⟩ : ∃ X, pre new ps k = X := ⟨_, rfl⟩
      rw [hX] at e2 l2 hS ⊢
      obtain ⟨B, hB⟩ : ∃ B, X.length = B := ⟨_, rfl⟩
      obtain ⟨z, hz⟩ : ∃ z, p.length = z := ⟨_, rfl⟩
      simp only [List.length_append, hA, hB, hz, hol, hnl] at l1 l2
      rw [hA, hz] at hIk
      rw [hA]
      rw [hB] at hS ⊢
      have hsp : ∀ w, Ext w0 w → Sl w 1 (.slice (cutAt a c A 1) (A + z - A) (c - A)) (A + z - A) (p.map (Value.int .u8)) := fun w hx => by
        have h1 := (hs.ext hx).cutAt A (A + z) (by omega) (by omega)
        have h2 : (((pre old ps m ++ last).map (Value.int .u8)).drop (A * 1)).take ((A + z - A) * 1) = p.map (Value.int .u8) := by
          rw [Nat.mul_one, Nat.mul_one, ← List.map_drop, ← List.map_take, hxs, List.drop_left' hA, Nat.add_sub_cancel_left, List.take_left' hz]
        rw [h2] at h1
        exact h1
      have HIK : Veil3 _ := ⟨hIk⟩
      have HSP : Veil3 _ := ⟨hsp⟩
      have F1 := hid (seg_fill X p L B z hB hz (by omega))
      have F2 := hid (seg_fill (X ++ p) new L (B + z) ln (by rw [List.length_append, hB, hz]) hnl (by omega))
      have N1 : Veil3 ((pre old ps (k + 1)).length = A + z + lo) := ⟨by rw [e1]; simp only [List.length_append, hA, hz, hol]; omega⟩
      have N2 : Veil3 (pre new ps (k + 1) = X ++ p ++ new) := ⟨by rw [e2, List.append_assoc]⟩
      have N3 : Veil3 ((X ++ p ++ new).length = B + z + ln) := ⟨by simp only [List.length_append, hB, hz, hnl]⟩
      clear hIk hsp e1 e2 hp hxs hT hA hX hB hz hkp
      repeat' (first
        | ((with_reducible show wpList _ _ _ (⟨_, .call ⟨.value (.func 12), _, _⟩, _, _, _, _⟩ :: _) _ _); refine wpl_call (f := 12) Tryd.call12 (by kernel_rfl) ?_; refine ⟨_, (HIK.out _ hS.1), ?_⟩; rintro e w ⟨rfl, hE2⟩; replace hS := hS.ext hE2; clear hE2; refine ⟨_, rfl, ?_⟩; refine put_move ?_; go_step)
        | ((with_reducible show wpList _ _ _ (⟨some 57, .binOp .add _ _ _ _, _, _, _, _⟩ :: _) _ _); first | (refine wplV (.int _ (((A + z : Nat) : Int))) (V.as (V.addI rfl rfl (by omega)) (by omega)) rfl ?_; go_step) | (refine wplV (.int _ (((A + z : Nat) : Int))) (V.as (V.addR (by decide) rfl rfl) (by omega)) rfl ?_; go_step))
        | go_skip
        | go_big_skip
        | ((with_reducible show wpList _ _ _ (⟨_, .move _, _, _, _, _⟩ :: _) _ _); (first | go_big_want | go_step); go_step)
        | ((with_reducible show wpList _ _ _ (⟨_, .assign _, _, _, _, _⟩ :: _) _ _); (first | go_big_want | go_step); go_step)
        | ((with_reducible show wpList _ _ _ (⟨_, .pick _ _ _, _, _, _, _⟩ :: _) _ _); first | (refine wplPickT rfl (by kernel_rfl) ?_; go_step) | (refine wplPickF rfl (by kernel_rfl) ?_; go_step))
        | ((with_reducible show wpList _ _ _ (⟨_, .binOp .lss _ _ _ _, _, _, _, _⟩ :: _) _ _); first | (refine wplV _ (V.lss rfl rfl) (by kernel_rfl) ?_; go_step))
        | ((with_reducible show wpList _ _ _ (⟨_, .slice 22 _ _ _ _, _, _, _, _⟩ :: _) _ _); first | (refine wplV _ (V.slice Tryd.underlying22 isz5 rfl (by (first | exact Lo.none | exact Lo.some rfl (by (repeat (first | exact IsN.auto | with_reducible apply IsN.add | with_reducible apply IsN.sub | with_reducible apply IsN.mul | with_reducible apply IsN.div | with_reducible apply IsN.mod | with_reducible apply IsN.min | with_reducible apply IsN.max | (with_reducible show (_ : Nat) ≤ _; omega) | exact IsN.toNat (by omega)))))) (by (first | exact Up.none | exact Up.some rfl (by (repeat (first | exact IsN.auto | with_reducible apply IsN.add | with_reducible apply IsN.sub | with_reducible apply IsN.mul | with_reducible apply IsN.div | with_reducible apply IsN.mod | with_reducible apply IsN.min | with_reducible apply IsN.max | (with_reducible show (_ : Nat) ≤ _; omega) | exact IsN.toNat (by omega)))))) (by omega) (by omega)) (by kernel_rfl) ?_; go_step))
        | ((with_reducible show wpList _ _ _ (⟨_, .binOp .add _ _ _ _, _, _, _, _⟩ :: _) _ _); first | (refine wplV _ (V.addI rfl rfl (by omega)) (by kernel_rfl) ?_; go_step) | (refine wplV _ (V.addR (by decide) rfl rfl) (by kernel_rfl) ?_; go_step))
        | ((fail_if_success (with_reducible show wpList _ _ _ (_ :: _) _ _)); go_step))
      refine drawn_lit [] (fun _ => True) (by kernel_rfl) ?_
      replace hS := hS.drew
      focus
        refine takeM 0 _ (by (repeat (first | with_reducible exact AtL.head | apply AtL.tail))) (by kernel_rfl) (by kernel_rfl) (by kernel_rfl) (by exact fun _ _ _ _ h => h) rfl ?_
        go_step
        refine takeM 1 _ (by (repeat (first | with_reducible exact AtL.head | apply AtL.tail))) (by kernel_rfl) (by kernel_rfl) (by kernel_rfl) (by exact fun _ _ _ _ h => h) rfl ?_
        go_step
        refine takeM 2 _ (by (repeat (first | with_reducible exact AtL.head | apply AtL.tail))) (by kernel_rfl) (by kernel_rfl) (by kernel_rfl) (by exact fun _ _ _ _ h => h) rfl ?_
        go_step
        first | (refine takeV 3 _ (by (repeat (first | with_reducible exact AtL.head | apply AtL.tail))) (by kernel_rfl) (by kernel_rfl) (by kernel_rfl) (by exact fun _ _ _ _ h => h) (V.slice Tryd.underlying22 isz5 rfl (by (first | exact Lo.none | exact Lo.some rfl (by (repeat (first | exact IsN.auto | with_reducible apply IsN.add | with_reducible apply IsN.sub | with_reducible apply IsN.mul | with_reducible apply IsN.div | with_reducible apply IsN.mod | with_reducible apply IsN.min | with_reducible apply IsN.max | (with_reducible show (_ : Nat) ≤ _; omega) | exact IsN.toNat (by omega)))))) (by (first | exact Up.none | exact Up.some rfl (by (repeat (first | exact IsN.auto | with_reducible apply IsN.add | with_reducible apply IsN.sub | with_reducible apply IsN.mul | with_reducible apply IsN.div | with_reducible apply IsN.mod | with_reducible apply IsN.min | with_reducible apply IsN.max | (with_reducible show (_ : Nat) ≤ _; omega) | exact IsN.toNat (by omega)))))) (by omega) (by omega)) rfl ?_)
        go_step
        refine takeM 4 _ (by (repeat (first | with_reducible exact AtL.head | apply AtL.tail))) (by kernel_rfl) (by kernel_rfl) (by kernel_rfl) (by exact fun _ _ _ _ h => h) rfl ?_
        go_step
        refine takeM 5 _ (by (repeat (first | with_reducible exact AtL.head | apply AtL.tail))) (by kernel_rfl) (by kernel_rfl) (by kernel_rfl) (by exact fun _ _ _ _ h => h) rfl ?_
        go_step
        refine takeM 6 _ (by (repeat (first | with_reducible exact AtL.head | apply AtL.tail))) (by kernel_rfl) (by kernel_rfl) (by kernel_rfl) (by exact fun _ _ _ _ h => h) rfl ?_
        go_step
        first | (refine takeV 7 _ (by (repeat (first | with_reducible exact AtL.head | apply AtL.tail))) (by kernel_rfl) (by kernel_rfl) (by kernel_rfl) (by exact fun _ _ _ _ h => h) (V.slice Tryd.underlying22 isz5 rfl (by (first | exact Lo.none | exact Lo.some rfl (by (repeat (first | exact IsN.auto | with_reducible apply IsN.add | with_reducible apply IsN.sub | with_reducible apply IsN.mul | with_reducible apply IsN.div | with_reducible apply IsN.mod | with_reducible apply IsN.min | with_reducible apply IsN.max | (with_reducible show (_ : Nat) ≤ _; omega) | exact IsN.toNat (by omega)))))) (by (first | exact Up.none | exact Up.some rfl (by (repeat (first | exact IsN.auto | with_reducible apply IsN.add | with_reducible apply IsN.sub | with_reducible apply IsN.mul | with_reducible apply IsN.div | with_reducible apply IsN.mod | with_reducible apply IsN.min | with_reducible apply IsN.max | (with_reducible show (_ : Nat) ≤ _; omega) | exact IsN.toNat (by omega)))))) (by omega) (by omega)) rfl ?_)
        go_step
        refine branch1 8 (by (repeat (first | with_reducible exact AtL.head | apply AtL.tail))) rfl (by kernel_rfl) ?_
        refine wp_copyO (o := ⟨some 66, _, _, _, _, _⟩) hS _ _ 22 rfl 5 1 el22 g44 B L L _ rfl (by (repeat (first | with_reducible exact Pull.head | apply Pull.tail))) _ rfl (A + z - A) _ (HSP.out _ hS.1) (by omega) (by exact oneMap _ _) ?_; clear hS; intro w hS; rw [Nat.add_sub_cancel_left, F1.out] at hS
        refine ⟨fun _ h => h, ?_⟩
        refine drawn_move ?_
        go_step
        first | (refine takeV 9 (.int _ (((B + z : Nat) : Int))) (by (repeat (first | with_reducible exact AtL.head | apply AtL.tail))) (by kernel_rfl) (by kernel_rfl) (by kernel_rfl) (by exact fun _ _ _ _ h => h) (V.as (V.addI rfl rfl (by omega)) (by omega)) rfl ?_) | (refine takeV 9 (.int _ (((B + z : Nat) : Int))) (by (repeat (first | with_reducible exact AtL.head | apply AtL.tail))) (by kernel_rfl) (by kernel_rfl) (by kernel_rfl) (by exact fun _ _ _ _ h => h) (V.as (V.addR (by decide) rfl rfl) (by omega)) rfl ?_)
        go_step
        refine takeA 10 _ (by (repeat (first | with_reducible exact AtL.head | apply AtL.tail))) (by kernel_rfl) (by kernel_rfl) (by kernel_rfl) (by exact fun _ _ _ _ h => h) rfl ?_
        go_step
        refine drawn_done (by kernel_rfl) ?_ _
      repeat' (first
        | ((with_reducible show wpList _ _ _ (⟨some 73, _, _, _, _, _⟩ :: _) _ _); refine wpl (by kernel_rfl) ?_; refine wp_copyO (o := ⟨some 73, _, _, _, _, _⟩) hS _ _ 22 rfl 5 1 el22 g44 (B + z) L L _ rfl (by (repeat (first | with_reducible exact Pull.head | apply Pull.tail))) _ rfl ln _ (hw.ext hS.1) (by omega) (by exact oneMap _ _) ?_; clear hS; intro w hS; rw [F2.out] at hS; refine put_move ?_; go_step)
        | ((with_reducible show wpList _ _ _ (⟨some 74, .binOp .add _ _ _ _, _, _, _, _⟩ :: _) _ _); first | (refine wplV (.int _ (((B + z + ln : Nat) : Int))) (V.as (V.addI rfl rfl (by omega)) (by omega)) rfl ?_; go_step) | (refine wplV (.int _ (((B + z + ln : Nat) : Int))) (V.as (V.addR (by decide) rfl rfl) (by omega)) rfl ?_; go_step))
        | ((with_reducible show wpList _ _ _ (⟨some 78, .binOp .add _ _ _ _, _, _, _, _⟩ :: _) _ _); first | (refine wplV (.int _ (((A + z + lo : Nat) : Int))) (V.as (V.addI rfl rfl (by omega)) (by omega)) rfl ?_; go_step) | (refine wplV (.int _ (((A + z + lo : Nat) : Int))) (V.as (V.addR (by decide) rfl rfl) (by omega)) rfl ?_; go_step))
        | go_skip
        | go_big_skip
        | ((with_reducible show wpList _ _ _ (⟨_, .move _, _, _, _, _⟩ :: _) _ _); (first | go_big_want | go_step); go_step)
        | ((with_reducible show wpList _ _ _ (⟨_, .assign _, _, _, _, _⟩ :: _) _ _); (first | go_big_want | go_step); go_step)
        | ((with_reducible show wpList _ _ _ (⟨_, .pick _ _ _, _, _, _, _⟩ :: _) _ _); first | (refine wplPickT rfl (by kernel_rfl) ?_; go_step) | (refine wplPickF rfl (by kernel_rfl) ?_; go_step))
        | ((with_reducible show wpList _ _ _ (⟨_, .slice 22 _ _ _ _, _, _, _, _⟩ :: _) _ _); first | (refine wplV _ (V.slice Tryd.underlying22 isz5 rfl (by (first | exact Lo.none | exact Lo.some rfl (by (repeat (first | exact IsN.auto | with_reducible apply IsN.add | with_reducible apply IsN.sub | with_reducible apply IsN.mul | with_reducible apply IsN.div | with_reducible apply IsN.mod | with_reducible apply IsN.min | with_reducible apply IsN.max | (with_reducible show (_ : Nat) ≤ _; omega) | exact IsN.toNat (by omega)))))) (by (first | exact Up.none | exact Up.some rfl (by (repeat (first | exact IsN.auto | with_reducible apply IsN.add | with_reducible apply IsN.sub | with_reducible apply IsN.mul | with_reducible apply IsN.div | with_reducible apply IsN.mod | with_reducible apply IsN.min | with_reducible apply IsN.max | (with_reducible show (_ : Nat) ≤ _; omega) | exact IsN.toNat (by omega)))))) (by omega) (by omega)) (by kernel_rfl) ?_; go_step))
        | ((with_reducible show wpList _ _ _ (⟨_, .binOp .add _ _ _ _, _, _, _, _⟩ :: _) _ _); first | (refine wplV _ (V.addI rfl rfl (by omega)) (by kernel_rfl) ?_; go_step) | (refine wplV _ (V.addR (by decide) rfl rfl) (by kernel_rfl) ?_; go_step))
        | ((with_reducible show wpList _ _ _ (⟨_, .call ⟨.builtin .len, _, _⟩, _, _, _, _⟩ :: _) _ _); first | (refine wplV _ (V.len Tryd.underlying22 rfl) (by kernel_rfl) ?_; go_step))
        | ((fail_if_success (with_reducible show wpList _ _ _ (_ :: _) _ _)); go_step))
      go_roundg (gk - 1)
      case measure => omega
      case rel =>
        refine ⟨k + 1, by omega, by go_num, by rw [N1.out], by rw [N2.out, N3.out], ?_⟩
        rw [N2.out, N3.out]
        exact hS.sub (by (repeat (first | exact Sub.nil | with_reducible exact Sub.refl | (apply Sub.cons; (case p => (repeat (first | with_reducible exact Pull.head | apply Pull.tail)))) | apply Sub.skip)))
    · obtain rfl : k = m := by omega
      have hA0 := HXL.out
      have hB0 := HWL.out
      obtain ⟨A, hA⟩ : ∃ A, (pre old ps k).length = A := ⟨_, rfl⟩
      obtain ⟨B, hB⟩ : ∃ B, (pre new ps k).length = B := ⟨_, rfl⟩
      obtain ⟨z, hz⟩ : ∃ z, last.length = z := ⟨_, rfl⟩
      rw [hA, hz] at hA0
      rw [hB, hz] at hB0
      rw [hA]
      rw [hB] at hS ⊢
      have hsp : ∀ w, Ext w0 w → Sl w 1 (.slice (cutAt a c A 1) (n - A) (c - A)) (n - A) (last.map (Value.int .u8)) := fun w hx => by
        have h1 := (hs.ext hx).cutAt A n (by omega) (Nat.le_refl _)
        have h2 : (((pre old ps k ++ last).map (Value.int .u8)).drop (A * 1)).take ((n - A) * 1) = last.map (Value.int .u8) := by
          rw [Nat.mul_one, Nat.mul_one, ← List.map_drop, ← List.map_take, List.drop_left' hA, List.take_of_length_le (by omega)]
        rw [h2] at h1
        exact h1
      have HSP : Veil3 _ := ⟨hsp⟩
      have hnA : n - A = z := by omega
      have HnA : Veil3 (n - A = z) := ⟨hnA⟩
      have F1 := hid (seg_fill (pre new ps k) last L B z hB hz (by omega))
      have F3 : Veil3 (pre new ps k ++ last ++ List.replicate (L - (B + z)) 0 = R) := ⟨by rw [HR.out, show L - (B + z) = 0 by omega]; simp⟩
      clear hsp hA hB hz hnA
      repeat' (first
        | go_skip
        | go_big_skip
        | ((with_reducible show wpList _ _ _ (⟨_, .move _, _, _, _, _⟩ :: _) _ _); (first | go_big_want | go_step); go_step)
        | ((with_reducible show wpList _ _ _ (⟨_, .assign _, _, _, _, _⟩ :: _) _ _); (first | go_big_want | go_step); go_step)
        | ((with_reducible show wpList _ _ _ (⟨_, .pick _ _ _, _, _, _, _⟩ :: _) _ _); first | (refine wplPickT rfl (by kernel_rfl) ?_; go_step) | (refine wplPickF rfl (by kernel_rfl) ?_; go_step))
        | ((with_reducible show wpList _ _ _ (⟨_, .binOp .lss _ _ _ _, _, _, _, _⟩ :: _) _ _); first | (refine wplV _ (V.lss rfl rfl) (by kernel_rfl) ?_; go_step))
        | ((fail_if_success (with_reducible show wpList _ _ _ (_ :: _) _ _)); go_step))
      refine drawn_lit [] (fun _ => True) (by kernel_rfl) ?_
      replace hS := hS.drew
      focus
        refine takeM 0 _ (by (repeat (first | with_reducible exact AtL.head | apply AtL.tail))) (by kernel_rfl) (by kernel_rfl) (by kernel_rfl) (by exact fun _ _ _ _ h => h) rfl ?_
        go_step
        refine takeM 1 _ (by (repeat (first | with_reducible exact AtL.head | apply AtL.tail))) (by kernel_rfl) (by kernel_rfl) (by kernel_rfl) (by exact fun _ _ _ _ h => h) rfl ?_
        go_step
        refine takeM 2 _ (by (repeat (first | with_reducible exact AtL.head | apply AtL.tail))) (by kernel_rfl) (by kernel_rfl) (by kernel_rfl) (by exact fun _ _ _ _ h => h) rfl ?_
        go_step
        first | (refine takeV 3 _ (by (repeat (first | with_reducible exact AtL.head | apply AtL.tail))) (by kernel_rfl) (by kernel_rfl) (by kernel_rfl) (by exact fun _ _ _ _ h => h) (V.slice Tryd.underlying22 isz5 rfl (by (first | exact Lo.none | exact Lo.some rfl (by (repeat (first | exact IsN.auto | with_reducible apply IsN.add | with_reducible apply IsN.sub | with_reducible apply IsN.mul | with_reducible apply IsN.div | with_reducible apply IsN.mod | with_reducible apply IsN.min | with_reducible apply IsN.max | (with_reducible show (_ : Nat) ≤ _; omega) | exact IsN.toNat (by omega)))))) (by (first | exact Up.none | exact Up.some rfl (by (repeat (first | exact IsN.auto | with_reducible apply IsN.add | with_reducible apply IsN.sub | with_reducible apply IsN.mul | with_reducible apply IsN.div | with_reducible apply IsN.mod | with_reducible apply IsN.min | with_reducible apply IsN.max | (with_reducible show (_ : Nat) ≤ _; omega) | exact IsN.toNat (by omega)))))) (by omega) (by omega)) rfl ?_)
        go_step
        refine takeM 4 _ (by (repeat (first | with_reducible exact AtL.head | apply AtL.tail))) (by kernel_rfl) (by kernel_rfl) (by kernel_rfl) (by exact fun _ _ _ _ h => h) rfl ?_
        go_step
        refine takeM 5 _ (by (repeat (first | with_reducible exact AtL.head | apply AtL.tail))) (by kernel_rfl) (by kernel_rfl) (by kernel_rfl) (by exact fun _ _ _ _ h => h) rfl ?_
        go_step
        first | (refine takeV 6 _ (by (repeat (first | with_reducible exact AtL.head | apply AtL.tail))) (by kernel_rfl) (by kernel_rfl) (by kernel_rfl) (by exact fun _ _ _ _ h => h) (V.slice Tryd.underlying22 isz5 rfl (by (first | exact Lo.none | exact Lo.some rfl (by (repeat (first | exact IsN.auto | with_reducible apply IsN.add | with_reducible apply IsN.sub | with_reducible apply IsN.mul | with_reducible apply IsN.div | with_reducible apply IsN.mod | with_reducible apply IsN.min | with_reducible apply IsN.max | (with_reducible show (_ : Nat) ≤ _; omega) | exact IsN.toNat (by omega)))))) (by (first | exact Up.none | exact Up.some rfl (by (repeat (first | exact IsN.auto | with_reducible apply IsN.add | with_reducible apply IsN.sub | with_reducible apply IsN.mul | with_reducible apply IsN.div | with_reducible apply IsN.mod | with_reducible apply IsN.min | with_reducible apply IsN.max | (with_reducible show (_ : Nat) ≤ _; omega) | exact IsN.toNat (by omega)))))) (by omega) (by omega)) rfl ?_)
        go_step
        refine branch1 7 (by (repeat (first | with_reducible exact AtL.head | apply AtL.tail))) rfl (by kernel_rfl) ?_
        refine wp_copyO (o := ⟨some 127, _, _, _, _, _⟩) hS _ _ 22 rfl 5 1 el22 g44 B L L _ rfl (by (repeat (first | with_reducible exact Pull.head | apply Pull.tail))) _ rfl (n - A) _ (HSP.out _ hS.1) (by omega) (by exact oneMap _ _) ?_; clear hS; intro w hS; rw [HnA.out, F1.out, F3.out] at hS
        refine ⟨fun _ h => h, ?_⟩
        refine drawn_move ?_
        go_step
        first | (refine takeV 8 (.int _ (((L : Nat) : Int))) (by (repeat (first | with_reducible exact AtL.head | apply AtL.tail))) (by kernel_rfl) (by kernel_rfl) (by kernel_rfl) (by exact fun _ _ _ _ h => h) (V.as (V.addI rfl rfl (by omega)) (by omega)) rfl ?_) | (refine takeV 8 (.int _ (((L : Nat) : Int))) (by (repeat (first | with_reducible exact AtL.head | apply AtL.tail))) (by kernel_rfl) (by kernel_rfl) (by kernel_rfl) (by exact fun _ _ _ _ h => h) (V.as (V.addR (by decide) rfl rfl) (by omega)) rfl ?_)
        go_step
        refine takeA 9 _ (by (repeat (first | with_reducible exact AtL.head | apply AtL.tail))) (by kernel_rfl) (by kernel_rfl) (by kernel_rfl) (by exact fun _ _ _ _ h => h) rfl ?_
        go_step
        refine drawn_done (by kernel_rfl) ?_ _
      repeat' (first
        | go_skip
        | go_big_skip
        | ((with_reducible show wpList _ _ _ (⟨_, .move _, _, _, _, _⟩ :: _) _ _); (first | go_big_want | go_step); go_step)
        | ((with_reducible show wpList _ _ _ (⟨_, .assign _, _, _, _, _⟩ :: _) _ _); (first | go_big_want | go_step); go_step)
        | ((with_reducible show wpList _ _ _ (⟨_, .pick _ _ _, _, _, _, _⟩ :: _) _ _); first | (refine wplPickT rfl (by kernel_rfl) ?_; go_step) | (refine wplPickF rfl (by kernel_rfl) ?_; go_step))
        | ((with_reducible show wpList _ _ _ (⟨_, .slice 22 _ _ _ _, _, _, _, _⟩ :: _) _ _); first | (refine wplV _ (V.slice Tryd.underlying22 isz5 rfl (by (first | exact Lo.none | exact Lo.some rfl (by (repeat (first | exact IsN.auto | with_reducible apply IsN.add | with_reducible apply IsN.sub | with_reducible apply IsN.mul | with_reducible apply IsN.div | with_reducible apply IsN.mod | with_reducible apply IsN.min | with_reducible apply IsN.max | (with_reducible show (_ : Nat) ≤ _; omega) | exact IsN.toNat (by omega)))))) (by (first | exact Up.none | exact Up.some rfl (by (repeat (first | exact IsN.auto | with_reducible apply IsN.add | with_reducible apply IsN.sub | with_reducible apply IsN.mul | with_reducible apply IsN.div | with_reducible apply IsN.mod | with_reducible apply IsN.min | with_reducible apply IsN.max | (with_reducible show (_ : Nat) ≤ _; omega) | exact IsN.toNat (by omega)))))) (by omega) (by omega)) (by kernel_rfl) ?_; go_step))
        | ((with_reducible show wpList _ _ _ (⟨_, .binOp .add _ _ _ _, _, _, _, _⟩ :: _) _ _); first | (refine wplV _ (V.addI rfl rfl (by omega)) (by kernel_rfl) ?_; go_step) | (refine wplV _ (V.addR (by decide) rfl rfl) (by kernel_rfl) ?_; go_step))
        | ((fail_if_success (with_reducible show wpList _ _ _ (_ :: _) _ _)); go_step))
      go_ret
      refine ⟨some ⟨g44, 0, none⟩, L, ?_, hS.sub (by (repeat (first | exact Sub.nil | with_reducible exact Sub.refl | (apply Sub.cons; (case p => (repeat (first | with_reducible exact Pull.head | apply Pull.tail)))) | apply Sub.skip)))⟩
      show Ending.returned (.slice (cutAt (some ⟨g44, 0, none⟩) L 0 1) (L - 0) (L - 0)) = _
      rw [cutAt_zeroR]
      rfl
end Go.Proofs.YthmkhpijdpbfbaaDoor
