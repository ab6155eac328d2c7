/- The law ScanOne: what its proof needs, part 3. -/
import Derived.Test.YtehbjhocgnfpmaaDoorScanOneZ2
/- The walk of bytes.Replace, every piece replaced. -/
namespace Go.Proofs.YtehbjhocgnfpmaaDoor
open Go.RowKit
set_option linter.unusedVariables false
structure Veil3 (p : Prop) : Prop where
 out : p
def pre (sep : List Int) (ps : List (List Int)) (k : Nat) : List Int := (ps.take k).flatMap (· ++ sep)
theorem pre_succ (sep : List Int) (ps : List (List Int)) (k : Nat) (h : k < ps.length) : pre sep ps (k + 1) = pre sep ps k ++ (ps[k] ++ sep) := by
 simp only [pre, List.take_succ_eq_append_getElem h, List.flatMap_append, List.flatMap_cons, List.flatMap_nil, List.append_nil]
theorem pre_le (sep : List Int) (ps : List (List Int)) (j k : Nat) (h : j ≤ k) : (pre sep ps j).length ≤ (pre sep ps k).length := by
 have e : ps.take k = ps.take j ++ (ps.take k).drop j := by
  conv => lhs; rw [← List.take_append_drop j (ps.take k)]
  rw [List.take_take, Nat.min_eq_left h]
 simp only [pre]
 rw [e, List.flatMap_append, List.length_append]
 omega
theorem pre_len (old new : List Int) (ps : List (List Int)) : ∀ k, k ≤ ps.length → (pre new ps k).length + k * old.length = (pre old ps k).length + k * new.length
 | 0, _ => by simp [pre]
 | k + 1, h => by
  rw [pre_succ new ps k (by omega), pre_succ old ps k (by omega)]
  simp only [List.length_append]
  have := pre_len old new ps k (by omega)
  rw [Nat.add_mul, Nat.add_mul]
  omega
theorem pre_split (sep : List Int) (ps : List (List Int)) (k m : Nat) (hm : ps.length = m) (h : k < ps.length) : ∃ T, pre sep ps m = pre sep ps k ++ (ps[k] ++ (sep ++ T)) := by
 refine ⟨(ps.drop (k + 1)).flatMap (· ++ sep), ?_⟩
 have e : ps = ps.take k ++ (ps[k] :: ps.drop (k + 1)) := by rw [List.getElem_cons_drop, List.take_append_drop]
 unfold pre
 rw [← hm, List.take_length]
 conv => lhs; rw [e]
 rw [List.flatMap_append, List.flatMap_cons, List.append_assoc]
theorem seg_fill (X p : List Int) (L B z : Nat) (hX : X.length = B) (hp : p.length = z) (h : B + z ≤ L) : ((X ++ List.replicate (L - B) 0).map (Value.int .u8)).take B ++ p.map (Value.int .u8) ++ ((X ++ List.replicate (L - B) 0).map (Value.int .u8)).drop (B + z) = ((X ++ p) ++ List.replicate (L - (B + z)) 0).map (Value.int .u8) := by
 subst hX
 subst hp
 rw [← List.map_take, ← List.map_drop, ← List.map_append, ← List.map_append, List.take_left' rfl, ← List.drop_drop, List.drop_left' rfl, List.drop_replicate, Nat.sub_sub]
theorem cutAt_zeroR (g c : Nat) : cutAt (some ⟨g, 0, none⟩) c 0 1 = some ⟨g, 0, none⟩ := by
 unfold cutAt
 split
 · rfl
 · rw [Option.map_some, Addr.add_mid]
set_option maxRecDepth 100000 in
set_option maxHeartbeats 8000000 in
theorem replace_any (w0 : World) (a po pn : Option Addr) (n c lo co ln cn m : Nat) (ps : List (List Int)) (last old new : List Int) (hm : ps.length = m)
 (hs : Sl w0 1 (.slice a n c) n ((pre old ps m ++ last).map (Value.int .u8))) (ho : Sl w0 1 (.slice po lo co) lo (old.map (Value.int .u8))) (hw : Sl w0 1 (.slice pn ln cn) ln (new.map (Value.int .u8)))
 (hlo : 0 < lo) (hb1 : n ≤ 1000000000) (hb2 : lo ≤ 1000) (hb3 : ln ≤ 1000)
 (HC : Veil3 (∀ w, Ext w0 w → Calls Tryd.prog 79 #[.slice a n c, .slice po lo co] w fun e w' => e = .returned (.int .i64 m) ∧ Ext w w'))
 (HI : Veil3 (∀ k (h : k < ps.length) w, Ext w0 w → Calls Tryd.prog 80 #[.slice (cutAt a c (pre old ps k).length 1) (n - (pre old ps k).length) (c - (pre old ps k).length), .slice po lo co] w fun e w' => e = .returned (.int .i64 (ps[k].length : Nat)) ∧ Ext w w')) :
 Calls Tryd.prog 60 #[.slice a n c, .slice po lo co, .slice pn ln cn, .int .i64 (-1)] w0 fun e w => ∃ (ao : Option Addr) (c' : Nat), e = .returned (.slice ao (pre new ps m ++ last).length c') ∧ St w0 w [own 5 1 ao (pre new ps m ++ last).length c' ((pre new ps m ++ last).map (Value.int .u8))] := by
 have hS := St.start w0
 have hxl : (pre old ps m ++ last).length = n := by have := hs.1; simpa using this
 have hol : old.length = lo := by have := ho.1; simpa using this
 have hnl : new.length = ln := by have := hw.1; simpa using this
 have hnc : n ≤ c := by obtain ⟨_, _, _, h1, h2, _⟩ := hs; cases h1; exact h2
 have hc9 : c ≤ 9223372036854775807 := by obtain ⟨_, _, _, h1, _, h2, _⟩ := hs; cases h1; unfold maxLen at h2; exact h2
 have hpl := pre_len old new ps m (by omega)
 rw [hol, hnl] at hpl
 rw [List.length_append] at hxl
 obtain ⟨L, hL⟩ : ∃ L, (pre new ps m ++ last).length = L := ⟨_, rfl⟩
 have hL2 := hL
 rw [List.length_append] at hL2
 have hmlo : m ≤ m * lo := Nat.le_mul_of_pos_right m hlo
 have hmn : m ≤ n := by
  have : m * lo ≤ (pre old ps m).length := by
   have h0 := pre_len old [] ps m (by omega)
   rw [hol] at h0
   simp only [List.length_nil, Nat.mul_zero, Nat.add_zero] at h0
   omega
  omega
 by_cases h0 : m = 0
 · subst h0
   have e0 : pre old ps 0 ++ last = pre new ps 0 ++ last := by simp [pre]
   rw [e0] at hs
   obtain ⟨R, hR⟩ : ∃ R, pre new ps 0 ++ last = R := ⟨_, rfl⟩
   rw [hR] at hL hs ⊢
   rw [hL]
   have hLn : L = n := by have := hs.1; rw [← hL]; simpa using this
   subst hLn
   clear hpl hL2 HI hmlo hxl e0
   go_enter Tryd.func60, Tryd.ntmps60
   repeat' (first
    | ((with_reducible refine gt9 _ (.call ⟨.value (.func 79), _, _⟩) ?_); refine wpl_call (f := 79) Tryd.call79 kr9 ?_; refine ⟨_, (HC.out _ hS.1), ?_⟩; rintro e w ⟨rfl, hE2⟩; replace hS := hS.ext hE2; clear hE2; refine ⟨_, rfl, ?_⟩; refine put_move ?_; go_step) | (refine y91 ?_) | (refine y992 ?_) | (refine y986 ?_) | ((with_reducible refine gs9 25 ?_); (refine wl9 ?_; apply wp_append (o := ⟨some 25, _, _, _, _, _⟩) (hS.nilk 5 1 .u8) _ _ 34 rfl 5 1 1 el34 _ _ _ _ rfl; (case hp => exact pl9); (case hx => exact rfl); (case hm => (first | exact hS.slBlk pl9 (by rfl) (by decide) | exact hS.sl pl9 | with_reducible assumption | exact Sl.ext (by with_reducible assumption) hS.1 | exact Sl.nil _ _ | exact Sl.ext (by assumption) hS.1 | assumption)); (case h1 => (first | exact oneAll rfl | exact oneMap _ _ | (intro u hu; cases hu))); (case h63 => unfold maxLen; omega); (case hb => omega); clear hS; intro ad25 c25 w hS; (first | simp only [mapk1] at hS | simp only [mapk2] at hS | simp only [mapk3] at hS | simp only [mapk4] at hS | simp only [mapkl] at hS | skip); refine put_move ?_; go_step)) | ((fail_if_success with_reducible refine ga9 ?_); go_step))
   rw [Nat.zero_add, List.nil_append] at hS
   go_ret
   refine ⟨ad25, c25, ?_, hS.sub sb9⟩
   show Ending.returned (.slice ad25 (0 + L) c25) = _
   rw [Nat.zero_add]
 have hLb : L ≤ 2000000000000 := by
  have : m * ln ≤ 1000000000 * 1000 := Nat.mul_le_mul (by omega) hb3
  omega
 have hLe : (L : Int) = (n : Int) + (m : Int) * ((ln : Int) - (lo : Int)) := by
  have h1 : ((m : Int) * ((ln : Int) - (lo : Int))) = ((m * ln : Nat) : Int) - ((m * lo : Nat) : Int) := by push_cast; rw [Int.mul_sub]
  rw [h1]; omega
 have hmul : IntKind.i64.wrap ((m : Int) * ((ln : Int) - (lo : Int))) = (L : Int) - (n : Int) := by
  rw [show (m : Int) * ((ln : Int) - (lo : Int)) = (L : Int) - (n : Int) by omega]
  exact IntWalk.i64_in _ (by omega)
 have HMul := hid hmul
 have HXs : ∀ k, k ≤ m → (pre old ps k).length ≤ n := fun k hk => by have := pre_le old ps k m hk; omega
 have HWs : ∀ k, k ≤ m → (pre new ps k).length ≤ L := fun k hk => by have := pre_le new ps k m hk; omega
 have HXs2 : Veil3 _ := ⟨HXs⟩
 have HWs2 : Veil3 _ := ⟨HWs⟩
 have HL : Veil3 ((pre new ps m ++ last).length = L) := ⟨hL⟩
 obtain ⟨R, hR⟩ : ∃ R, pre new ps m ++ last = R := ⟨_, rfl⟩
 have HR : Veil3 (pre new ps m ++ last = R) := ⟨hR⟩
 rw [hR] at hL ⊢
 rw [hL]
 have HXL : Veil3 ((pre old ps m).length + last.length = n) := ⟨hxl⟩
 have HWL : Veil3 ((pre new ps m).length + last.length = L) := ⟨hL2⟩
 have HM : Veil3 (ps.length = m) := ⟨hm⟩
 have HPL : Veil3 _ := ⟨hpl⟩
 clear hpl hxl hL2 hmlo hLe hmul HXs HWs hR hm
 go_enter Tryd.func60, Tryd.ntmps60
 repeat' (first
  | ((with_reducible refine gt9 _ (.call ⟨.value (.func 79), _, _⟩) ?_); refine wpl_call (f := 79) Tryd.call79 kr9 ?_; refine ⟨_, (HC.out _ hS.1), ?_⟩; rintro e w ⟨rfl, hE2⟩; replace hS := hS.ext hE2; clear hE2; refine ⟨_, rfl, ?_⟩; refine put_move ?_; go_step) | ((with_reducible refine gs9 42 ?_); refine wplV (.int .i64 ((L : Int) - (n : Int))) (V.as (V.mul rfl rfl) (by have := HMul.out; first | exact this | (rw [IntWalk.i64_in _ (by omega)]; exact this))) kr9 ?_; go_step) | ((with_reducible refine gs9 43 ?_); (refine wplV (.int _ (((L : Nat) : Int))) (V.as (V.addI rfl rfl (by omega)) (by omega)) rfl ?_; go_step)) | go_skip | (refine y91 ?_) | (refine y9140 ?_) | ((with_reducible refine gs9 27 ?_); (refine wplD _ (V.lss rfl rfl) kr9 (fun hB => ?_) (fun hB => ?_) <;> (try (have hF : False := (by omega); cases hF)) <;> go_step)) | (refine y992 ?_) | (refine y986 ?_) | (refine y9101 ?_) | (refine y995 ?_) | (refine y988 ?_) | ((with_reducible refine gs9 44 ?_); (refine wl9 ?_; apply wp_make (o := ⟨some 44, _, _, _, _, _⟩) hS 34 _ _ rfl _ _ _ _ elz34 _ _ _ _ _ _ rfl rfl; (case hi => exact isn9); (case hj => exact isn9); (case hnm => omega); (case hb => omega); (case h63 => unfold maxLen; omega); clear hS; intro g44 w hS; refine put_move ?_; go_step)) | ((fail_if_success with_reducible refine ga9 ?_); go_step))
 go_loopg [11, 12, 49] m (fun gk wv sv iv w => ∃ k : Nat, gk + k = m ∧ iv = .int .i64 k ∧ sv = .int .i64 ((pre old ps k).length : Nat) ∧ wv = .int .i64 ((pre new ps k).length : Nat) ∧ St w0 w [own 5 1 (some ⟨g44, 0, none⟩) L L ((pre new ps k ++ List.replicate (L - (pre new ps k).length) 0).map (Value.int .u8))])
 case atStart =>
  refine ⟨0, rfl, rfl, rfl, rfl, ?_⟩
  rw [Nat.mul_one] at hS
  have e : pre new ps 0 = [] := rfl
  rw [e, List.nil_append, List.length_nil, Nat.sub_zero]
  exact hS.sub sb9
 case round =>
  clear hS
  obtain ⟨k, hk, rfl, rfl, rfl, hS⟩ := hrel
  by_cases hlt : k < m
  · have hkp : k < ps.length := by rw [HM.out]; exact hlt
    have hIk := HI.out k hkp
    have e1 := pre_succ old ps k hkp
    have e2 := pre_succ new ps k hkp
    have l1 := HXs2.out (k + 1) hlt
    have l2 := HWs2.out (k + 1) hlt
    obtain ⟨p, hp⟩ : ∃ p, ps[k] = p := ⟨_, rfl⟩
    rw [hp] at hIk e1 e2
    rw [e1] at l1
    rw [e2] at l2
    obtain ⟨T, hT⟩ := pre_split old ps k m HM.out hkp
    rw [hp] at hT
    have hxs : pre old ps m ++ last = pre old ps k ++ (p ++ (old ++ T ++ last)) := by rw [hT]; simp only [List.append_assoc]
    obtain ⟨A, hA⟩ : ∃ A, (pre old ps k).length = A := ⟨_, rfl⟩
    obtain ⟨X, hX⟩ : ∃ X, pre new ps k = X := ⟨_, rfl⟩
    rw [hX] at e2 l2 hS ⊢
    obtain ⟨B, hB⟩ : ∃ B, X.length = B := ⟨_, rfl⟩
    obtain ⟨z, hz⟩ : ∃ z, p.length = z := ⟨_, rfl⟩
    simp only [List.length_append, hA, hB, hz, hol, hnl] at l1 l2
    rw [hA, hz] at hIk
    rw [hA]
    rw [hB] at hS ⊢
    have hsp : ∀ w, Ext w0 w → Sl w 1 (.slice (cutAt a c A 1) (A + z - A) (c - A)) (A + z - A) (p.map (Value.int .u8)) := fun w hx => by
     have h1 := (hs.ext hx).cutAt A (A + z) (by omega) (by omega)
     have h2 : (((pre old ps m ++ last).map (Value.int .u8)).drop (A * 1)).take ((A + z - A) * 1) = p.map (Value.int .u8) := by
      rw [Nat.mul_one, Nat.mul_one, ← List.map_drop, ← List.map_take, hxs, List.drop_left' hA, Nat.add_sub_cancel_left, List.take_left' hz]
     rw [h2] at h1
     exact h1
    have HIK : Veil3 _ := ⟨hIk⟩
    have HSP : Veil3 _ := ⟨hsp⟩
    have F1 := hid (seg_fill X p L B z hB hz (by omega))
    have F2 := hid (seg_fill (X ++ p) new L (B + z) ln (by rw [List.length_append, hB, hz]) hnl (by omega))
    have N1 : Veil3 ((pre old ps (k + 1)).length = A + z + lo) := ⟨by rw [e1]; simp only [List.length_append, hA, hz, hol]; omega⟩
    have N2 : Veil3 (pre new ps (k + 1) = X ++ p ++ new) := ⟨by rw [e2, List.append_assoc]⟩
    have N3 : Veil3 ((X ++ p ++ new).length = B + z + ln) := ⟨by simp only [List.length_append, hB, hz, hnl]⟩
    clear hIk hsp e1 e2 hp hxs hT hA hX hB hz hkp
    repeat' (first
     | ((with_reducible refine gt9 _ (.call ⟨.value (.func 80), _, _⟩) ?_); refine wpl_call (f := 80) Tryd.call80 kr9 ?_; refine ⟨_, (HIK.out _ hS.1), ?_⟩; rintro e w ⟨rfl, hE2⟩; replace hS := hS.ext hE2; clear hE2; refine ⟨_, rfl, ?_⟩; refine put_move ?_; go_step) | ((with_reducible refine gs9 57 ?_); (refine wplV (.int _ (((A + z : Nat) : Int))) (V.as (V.addI rfl rfl (by omega)) (by omega)) rfl ?_; go_step)) | (refine y91 ?_) | (refine y990 ?_) | (refine y9142 ?_) | ((fail_if_success with_reducible refine ga9 ?_); go_step))
    refine drawn_lit [] (fun _ => True) kr9 ?_
    replace hS := hS.drew
    focus
     refine takeM 0 _ al9 kr9 kr9 kr9 hq9 rfl ?_
     go_step
     refine takeM 1 _ al9 kr9 kr9 kr9 hq9 rfl ?_
     go_step
     refine takeM 2 _ al9 kr9 kr9 kr9 hq9 rfl ?_
     go_step
     (refine takeV 3 _ al9 kr9 kr9 kr9 hq9 (V.slice Tryd.underlying34 isz5 rfl (by (first | exact Lo.none | exact Lo.some rfl isn9)) (by (first | exact Up.none | exact Up.some rfl isn9)) (by omega) (by omega)) rfl ?_)
     go_step
     refine takeM 4 _ al9 kr9 kr9 kr9 hq9 rfl ?_
     go_step
     refine takeM 5 _ al9 kr9 kr9 kr9 hq9 rfl ?_
     go_step
     refine takeM 6 _ al9 kr9 kr9 kr9 hq9 rfl ?_
     go_step
     (refine takeV 7 _ al9 kr9 kr9 kr9 hq9 (V.slice Tryd.underlying34 isz5 rfl (by (first | exact Lo.none | exact Lo.some rfl isn9)) (by (first | exact Up.none | exact Up.some rfl isn9)) (by omega) (by omega)) rfl ?_)
     go_step
     refine branch1 8 al9 rfl kr9 ?_
     refine wp_copyO (o := ⟨some 66, _, _, _, _, _⟩) hS _ _ 34 rfl 5 1 el34 g44 B L L _ rfl pl9 _ rfl (A + z - A) _ (HSP.out _ hS.1) (by omega) (by exact oneMap _ _) ?_; clear hS; intro w hS; rw [Nat.add_sub_cancel_left, F1.out] at hS
     refine ⟨fun _ h => h, ?_⟩
     refine drawn_move ?_
     go_step
     (refine takeV 9 (.int _ (((B + z : Nat) : Int))) al9 kr9 kr9 kr9 hq9 (V.as (V.addI rfl rfl (by omega)) (by omega)) rfl ?_)
     go_step
     refine takeA 10 _ al9 kr9 kr9 kr9 hq9 rfl ?_
     go_step
     refine drawn_done kr9 ?_ _
    repeat' (first
     | ((with_reducible refine gs9 73 ?_); refine wl9 ?_; refine wp_copyO (o := ⟨some 73, _, _, _, _, _⟩) hS _ _ 34 rfl 5 1 el34 g44 (B + z) L L _ rfl pl9 _ rfl ln _ (hw.ext hS.1) (by omega) (by exact oneMap _ _) ?_; clear hS; intro w hS; rw [F2.out] at hS; refine put_move ?_; go_step) | ((with_reducible refine gs9 74 ?_); (refine wplV (.int _ (((B + z + ln : Nat) : Int))) (V.as (V.addI rfl rfl (by omega)) (by omega)) rfl ?_; go_step)) | ((with_reducible refine gs9 78 ?_); (refine wplV (.int _ (((A + z + lo : Nat) : Int))) (V.as (V.addI rfl rfl (by omega)) (by omega)) rfl ?_; go_step)) | (refine y91 ?_) | (refine y9142 ?_) | (refine y985 ?_) | (refine y9101 ?_) | ((fail_if_success with_reducible refine ga9 ?_); go_step))
    go_roundg (gk - 1)
    case measure => omega
    case rel =>
     refine ⟨k + 1, by omega, by go_num, by rw [N1.out], by rw [N2.out, N3.out], ?_⟩
     rw [N2.out, N3.out]
     exact hS.sub sb9
  · obtain rfl : k = m := by omega
    have hA0 := HXL.out
    have hB0 := HWL.out
    obtain ⟨A, hA⟩ : ∃ A, (pre old ps k).length = A := ⟨_, rfl⟩
    obtain ⟨B, hB⟩ : ∃ B, (pre new ps k).length = B := ⟨_, rfl⟩
    obtain ⟨z, hz⟩ : ∃ z, last.length = z := ⟨_, rfl⟩
    rw [hA, hz] at hA0
    rw [hB, hz] at hB0
    rw [hA]
    rw [hB] at hS ⊢
    have hsp : ∀ w, Ext w0 w → Sl w 1 (.slice (cutAt a c A 1) (n - A) (c - A)) (n - A) (last.map (Value.int .u8)) := fun w hx => by
     have h1 := (hs.ext hx).cutAt A n (by omega) (Nat.le_refl _)
     have h2 : (((pre old ps k ++ last).map (Value.int .u8)).drop (A * 1)).take ((n - A) * 1) = last.map (Value.int .u8) := by
      rw [Nat.mul_one, Nat.mul_one, ← List.map_drop, ← List.map_take, List.drop_left' hA, List.take_of_length_le (by omega)]
     rw [h2] at h1
     exact h1
    have HSP : Veil3 _ := ⟨hsp⟩
    have hnA : n - A = z := by omega
    have HnA : Veil3 (n - A = z) := ⟨hnA⟩
    have F1 := hid (seg_fill (pre new ps k) last L B z hB hz (by omega))
    have F3 : Veil3 (pre new ps k ++ last ++ List.replicate (L - (B + z)) 0 = R) := ⟨by rw [HR.out, show L - (B + z) = 0 by omega]; simp⟩
    clear hsp hA hB hz hnA
    repeat' (first
     | (refine y990 ?_) | ((fail_if_success with_reducible refine ga9 ?_); go_step))
    refine drawn_lit [] (fun _ => True) kr9 ?_
    replace hS := hS.drew
    focus
     refine takeM 0 _ al9 kr9 kr9 kr9 hq9 rfl ?_
     go_step
     refine takeM 1 _ al9 kr9 kr9 kr9 hq9 rfl ?_
     go_step
     refine takeM 2 _ al9 kr9 kr9 kr9 hq9 rfl ?_
     go_step
     (refine takeV 3 _ al9 kr9 kr9 kr9 hq9 (V.slice Tryd.underlying34 isz5 rfl (by (first | exact Lo.none | exact Lo.some rfl isn9)) (by (first | exact Up.none | exact Up.some rfl isn9)) (by omega) (by omega)) rfl ?_)
     go_step
     refine takeM 4 _ al9 kr9 kr9 kr9 hq9 rfl ?_
     go_step
     refine takeM 5 _ al9 kr9 kr9 kr9 hq9 rfl ?_
     go_step
     (refine takeV 6 _ al9 kr9 kr9 kr9 hq9 (V.slice Tryd.underlying34 isz5 rfl (by (first | exact Lo.none | exact Lo.some rfl isn9)) (by (first | exact Up.none | exact Up.some rfl isn9)) (by omega) (by omega)) rfl ?_)
     go_step
     refine branch1 7 al9 rfl kr9 ?_
     refine wp_copyO (o := ⟨some 127, _, _, _, _, _⟩) hS _ _ 34 rfl 5 1 el34 g44 B L L _ rfl pl9 _ rfl (n - A) _ (HSP.out _ hS.1) (by omega) (by exact oneMap _ _) ?_; clear hS; intro w hS; rw [HnA.out, F1.out, F3.out] at hS
     refine ⟨fun _ h => h, ?_⟩
     refine drawn_move ?_
     go_step
     (refine takeV 8 (.int _ (((L : Nat) : Int))) al9 kr9 kr9 kr9 hq9 (V.as (V.addI rfl rfl (by omega)) (by omega)) rfl ?_)
     go_step
     refine takeA 9 _ al9 kr9 kr9 kr9 hq9 rfl ?_
     go_step
     refine drawn_done kr9 ?_ _
    repeat' (first
     | (refine y91 ?_) | (refine y9142 ?_) | ((fail_if_success with_reducible refine ga9 ?_); go_step))
    go_ret
    refine ⟨some ⟨g44, 0, none⟩, L, ?_, hS.sub sb9⟩
    show Ending.returned (.slice (cutAt (some ⟨g44, 0, none⟩) L 0 1) (L - 0) (L - 0)) = _
    rw [cutAt_zeroR]
    rfl

end Go.Proofs.YtehbjhocgnfpmaaDoor
/- stuff.Stuff: what it computes, and its walk. -/
namespace Go.Proofs.YtehbjhocgnfpmaaDoor
set_option maxRecDepth 100000
open Go.RowKit
set_option linter.unusedVariables false
def sp1 (b : Int) : List Int → List (List Int) × List Int
 | [] => ([], [])
 | x :: l => if x = b then ([] :: (sp1 b l).1, (sp1 b l).2) else
  match (sp1 b l).1 with
  | [] => ([], x :: (sp1 b l).2)
  | p :: ps => ((x :: p) :: ps, (sp1 b l).2)
def rep1 (b : Int) (new l : List Int) : List Int := l.flatMap fun x => if x = b then new else [x]
theorem pre_all (sep : List Int) (ps : List (List Int)) : pre sep ps ps.length = ps.flatMap (· ++ sep) := by simp [pre]
theorem sp1_spec (b : Int) (new : List Int) : ∀ l, (sp1 b l).1.flatMap (· ++ [b]) ++ (sp1 b l).2 = l ∧ (sp1 b l).1.flatMap (· ++ new) ++ (sp1 b l).2 = rep1 b new l ∧ (sp1 b l).1.length = l.count b ∧ (∀ p ∈ (sp1 b l).1, b ∉ p)
 | [] => by simp [sp1, rep1]
 | x :: l => by
  obtain ⟨h1, h2, h3, h4⟩ := sp1_spec b new l
  by_cases hx : x = b
  · subst hx
    refine ⟨?_, ?_, ?_, ?_⟩
    · simp only [sp1, if_true, List.flatMap_cons, List.nil_append, List.cons_append, h1]
    · simp only [sp1, if_true, List.flatMap_cons, List.nil_append, List.append_assoc, h2]; simp [rep1]
    · simp [sp1, h3]
    · intro p hp
      simp only [sp1, if_true, List.mem_cons] at hp
      rcases hp with rfl | hp
      · simp
      · exact h4 p hp
  · cases hs : (sp1 b l).1 with
    | nil =>
     rw [hs] at h1 h2 h3
     simp only [List.flatMap_nil, List.nil_append] at h1 h2
     refine ⟨?_, ?_, ?_, ?_⟩
     · simp [sp1, if_neg hx, hs, h1]
     · simp only [sp1, if_neg hx, hs, List.flatMap_nil, List.nil_append, h2]; simp [rep1, hx]
     · simp only [sp1, if_neg hx, hs, List.length_nil]; rw [List.count_cons_of_ne (by simpa using hx)]; simpa using h3
     · simp [sp1, if_neg hx, hs]
    | cons p ps =>
     rw [hs] at h1 h2 h3 h4
     refine ⟨?_, ?_, ?_, ?_⟩
     · simp only [sp1, if_neg hx, hs, List.flatMap_cons, List.cons_append] at h1 ⊢; rw [h1]
     · simp only [sp1, if_neg hx, hs, List.flatMap_cons, List.cons_append] at h2 ⊢; rw [h2]; simp [rep1, hx]
     · simp only [sp1, if_neg hx, hs, List.length_cons] at h3 ⊢; rw [List.count_cons_of_ne (by simpa using hx)]; exact h3
     · intro q hq
       simp only [sp1, if_neg hx, hs, List.mem_cons] at hq
       rcases hq with rfl | hq
       · have := h4 p (by simp); simp only [List.mem_cons, not_or]; exact ⟨fun e => hx e.symm, this⟩
       · exact h4 q (by simp [hq])
theorem u8_eq {x b : Int} (hx : 0 ≤ x ∧ x < 256) (hb : 0 ≤ b ∧ b < 256) : (UInt8.ofNat x.toNat == UInt8.ofNat b.toNat) = decide (x = b) := by
 by_cases h : x = b
 · subst h; simp
 · rw [decide_eq_false h, beq_eq_false_iff_ne]
   intro e
   have := congrArg UInt8.toNat e
   simp only [UInt8.toNat_ofNat'] at this
   omega
theorem count_bytes {b : Int} (hb : 0 ≤ b ∧ b < 256) : ∀ (l : List Int), (∀ x ∈ l, 0 ≤ x ∧ x < 256) → Lib.countByte (Lib.bytesOf l) (UInt8.ofNat b.toNat) = l.count b
 | [], _ => rfl
 | x :: l, h => by
  have ih := count_bytes hb l fun y hy => h y (by simp [hy])
  have hx := u8_eq (h x (by simp)) hb
  simp only [Lib.countByte, Lib.bytesOf, List.map_cons, List.count_cons] at ih ⊢
  rw [ih, hx]
  by_cases e : x = b <;> simp [e]
theorem index_bytes {b : Int} (hb : 0 ≤ b ∧ b < 256) : ∀ (p T : List Int), (∀ x ∈ p, 0 ≤ x ∧ x < 256) → b ∉ p → Lib.indexByte (Lib.bytesOf (p ++ b :: T)) (UInt8.ofNat b.toNat) = (p.length : Nat)
 | [], T, _, _ => by simp [Lib.bytesOf, Lib.indexByte]
 | x :: p, T, h, hn => by
  have ih := index_bytes hb p T (fun y hy => h y (by simp [hy])) (fun e => hn (by simp [e]))
  have hx := u8_eq (h x (by simp)) hb
  have hxb : x ≠ b := fun e => hn (by simp [e])
  rw [decide_eq_false hxb] at hx
  simp only [List.cons_append, Lib.bytesOf, List.map_cons, Lib.indexByte] at ih ⊢
  rw [hx, ih]
  simp only [Bool.false_eq_true, if_false, List.length_cons]
  rw [if_neg]
  · push_cast; omega
  · simp only [beq_iff_eq]; omega
theorem cell_at {w : World} {a : Addr} {n c : Nat} {xs : List Int} (hv : Sl w 1 (.slice (some a) n c) n (xs.map (Value.int .u8))) : ∀ i, i < n → w.cell? (a.add i) = some (.int .u8 (xs.getD i 0)) := fun i hi => by
 obtain ⟨hl, a1, c1, e1, hnc, hcm, hor⟩ := hv
 cases e1
 have hln : xs.length = n := by simpa using hl
 rcases hor with h0 | ⟨b, off, h, hc⟩
 · omega
 · cases h
   rw [Addr.add_mid, hc i (by omega)]
   simp [List.getD, hln, hi]
theorem one_cell {w : World} {po : Option Addr} {co : Nat} {b : Int} (hv : Sl w 1 (.slice po 1 co) 1 ([b].map (Value.int .u8))) : ∃ b2 o2, po = some ⟨b2, o2, none⟩ ∧ w.cell? ⟨b2, o2, none⟩ = some (.int .u8 b) := by
 obtain ⟨hl, a1, c1, e1, hnc, hcm, hor⟩ := hv
 cases e1
 rcases hor with h0 | ⟨b2, off, h, hc⟩
 · omega
 · exact ⟨b2, off, h, by have := hc 0 (by decide); simpa using this⟩
theorem u8_of {b : Int} : b.toNat.toUInt8 = UInt8.ofNat b.toNat := rfl
theorem count1_any (w : World) (a po : Option Addr) (n c co : Nat) (xs : List Int) (b : Int) (hs : Sl w 1 (.slice a n c) n (xs.map (Value.int .u8))) (hnil : a = none → c = 0) (ho : Sl w 1 (.slice po 1 co) 1 ([b].map (Value.int .u8))) (hb : 0 ≤ b ∧ b < 256) (hx : ∀ x ∈ xs, 0 ≤ x ∧ x < 256) :
 Calls Tryd.prog 79 #[.slice a n c, .slice po 1 co] w fun e w' => e = .returned (.int .i64 (xs.count b : Nat)) ∧ Ext w w' := by
 obtain ⟨b2, o2, rfl, hc2⟩ := one_cell ho
 have hln : xs.length = n := by have := hs.1; simpa using this
 cases a with
 | none =>
  have hc0 := hnil rfl
  subst hc0
  have hn0 : n = 0 := by obtain ⟨_, _, _, h1, h2, _⟩ := hs; cases h1; omega
  subst hn0
  have hxs : xs = [] := List.eq_nil_of_length_eq_zero hln
  subst hxs
  exact (Tryd.bytes_Count_one_nil b2 o2 co b w hc2).mono fun e w' ⟨h1, h2⟩ => ⟨h1, h2 ▸ Ext.refl _⟩
 | some a =>
  exact (Tryd.bytes_Count_one_at a n c b2 o2 co xs b w hln (cell_at hs) hc2).mono fun e w' ⟨h1, h2⟩ => ⟨by rw [h1, u8_of, count_bytes hb xs hx], h2 ▸ Ext.refl _⟩
theorem index1_any (w : World) (a po : Option Addr) (n c co : Nat) (p T : List Int) (b : Int) (hs : Sl w 1 (.slice a n c) n ((p ++ b :: T).map (Value.int .u8))) (ho : Sl w 1 (.slice po 1 co) 1 ([b].map (Value.int .u8))) (hb : 0 ≤ b ∧ b < 256) (hx : ∀ x ∈ p, 0 ≤ x ∧ x < 256) (hp : b ∉ p) :
 Calls Tryd.prog 80 #[.slice a n c, .slice po 1 co] w fun e w' => e = .returned (.int .i64 (p.length : Nat)) ∧ Ext w w' := by
 obtain ⟨b2, o2, rfl, hc2⟩ := one_cell ho
 have hln : (p ++ b :: T).length = n := by have := hs.1; simpa using this
 cases a with
 | none =>
  obtain ⟨_, _, _, h1, h2, h3, h4⟩ := hs
  cases h1
  rcases h4 with h4 | ⟨_, _, h4, _⟩
  · rw [List.length_append, List.length_cons] at hln; omega
  · cases h4
 | some a =>
  exact (Tryd.bytes_Index_one_at a n c b2 o2 co (p ++ b :: T) b w hln (cell_at hs) hc2).mono fun e w' ⟨h1, h2⟩ => ⟨by rw [h1, u8_of, index_bytes hb p T hx hp], h2 ▸ Ext.refl _⟩
theorem replaceAll_any (w0 : World) (a po pn : Option Addr) (n c co ln cn : Nat) (xs new : List Int) (b : Int) (hs : Sl w0 1 (.slice a n c) n (xs.map (Value.int .u8))) (hnil : a = none → c = 0) (ho : Sl w0 1 (.slice po 1 co) 1 ([b].map (Value.int .u8))) (hw : Sl w0 1 (.slice pn ln cn) ln (new.map (Value.int .u8)))
 (hb : 0 ≤ b ∧ b < 256) (hx : ∀ x ∈ xs, 0 ≤ x ∧ x < 256) (hb1 : n ≤ 1000000000) (hb3 : ln ≤ 1000) :
 Calls Tryd.prog 43 #[.slice a n c, .slice po 1 co, .slice pn ln cn] w0 fun e w => ∃ (ao : Option Addr) (c' : Nat), e = .returned (.slice ao (rep1 b new xs).length c') ∧ St w0 w [own 5 1 ao (rep1 b new xs).length c' ((rep1 b new xs).map (Value.int .u8))] := by
 obtain ⟨h1, h2, h3, h4⟩ := sp1_spec b new xs
 obtain ⟨ps, hps⟩ : ∃ ps, (sp1 b xs).1 = ps := ⟨_, rfl⟩
 obtain ⟨last, hlast⟩ : ∃ l, (sp1 b xs).2 = l := ⟨_, rfl⟩
 rw [hps, hlast] at h1 h2
 rw [hps] at h3 h4
 rw [← pre_all] at h1 h2
 have hmem : ∀ k (h : k < ps.length), ∃ T, xs.drop (pre [b] ps k).length = ps[k] ++ b :: T := fun k h => by
  obtain ⟨T, hT⟩ := pre_split [b] ps k ps.length rfl h
  refine ⟨T ++ last, ?_⟩
  rw [← h1, hT, List.append_assoc, List.drop_left' rfl]
  simp
 have HC : Veil3 (∀ w, Ext w0 w → Calls Tryd.prog 79 #[.slice a n c, .slice po 1 co] w fun e w' => e = .returned (.int .i64 (ps.length : Nat)) ∧ Ext w w') := ⟨fun w hE => h3 ▸ count1_any w a po n c co xs b (hs.ext hE) hnil (ho.ext hE) hb hx⟩
 have HI : Veil3 (∀ k (h : k < ps.length) w, Ext w0 w → Calls Tryd.prog 80 #[.slice (cutAt a c (pre [b] ps k).length 1) (n - (pre [b] ps k).length) (c - (pre [b] ps k).length), .slice po 1 co] w fun e w' => e = .returned (.int .i64 (ps[k].length : Nat)) ∧ Ext w w') := ⟨fun k h w hE => by
  obtain ⟨T, hT⟩ := hmem k h
  have hln : xs.length = n := by have := hs.1; simpa using this
  have hle : (pre [b] ps k).length ≤ n := by
   have := pre_le [b] ps k ps.length (by omega)
   have h5 := congrArg List.length h1
   rw [List.length_append] at h5
   omega
  have hsl := (hs.ext hE).cutAt (pre [b] ps k).length n hle (Nat.le_refl _)
  have h6 : ((xs.map (Value.int .u8)).drop ((pre [b] ps k).length * 1)).take ((n - (pre [b] ps k).length) * 1) = (ps[k] ++ b :: T).map (Value.int .u8) := by
   rw [Nat.mul_one, Nat.mul_one, ← List.map_drop, ← List.map_take, List.take_of_length_le (by rw [List.length_drop]; omega), hT]
  rw [h6] at hsl
  refine index1_any w _ po _ _ co ps[k] T b hsl (ho.ext hE) hb (fun x hxm => hx x ?_) (h4 _ (List.getElem_mem h))
  have : x ∈ xs.drop (pre [b] ps k).length := by rw [hT]; simp [hxm]
  exact List.mem_of_mem_drop this⟩
 have HR := replace_any w0 a po pn n c 1 co ln cn ps.length ps last [b] new rfl (h1.symm ▸ hs) ho hw (by decide) hb1 (by decide) hb3 HC HI
 rw [h2] at HR
 have HRv : Veil3 _ := ⟨HR⟩
 have hS := St.start w0
 clear HC HI HR hmem h1 h2 h3 h4 hps hlast
 obtain ⟨R, hR⟩ : ∃ R, rep1 b new xs = R := ⟨_, rfl⟩
 rw [hR] at HRv ⊢
 clear hR
 go_enter Tryd.func43, Tryd.ntmps43
 repeat' (first
  | ((with_reducible refine gt9 _ (.call ⟨.value (.func 60), _, _⟩) ?_); refine wpl_call (f := 60) Tryd.call60 kr9 ?_; refine ⟨_, (HRv.out), ?_⟩; rintro e w ⟨ao, c', rfl, hS2⟩; replace hS := hS2; clear hS2; refine ⟨_, rfl, ?_⟩; refine put_move ?_; go_step) | (refine y91 ?_) | ((fail_if_success with_reducible refine ga9 ?_); go_step))
 go_ret
 exact ⟨ao, c', rfl, hS⟩
def stf (l : List Int) : List Int := rep1 255 [255, 0] l
theorem stf_len (l : List Int) : (stf l).length = l.length + l.count 255 := by
 induction l with
 | nil => rfl
 | cons x l ih =>
  have e : stf (x :: l) = (if x = 255 then [255, 0] else [x]) ++ stf l := by simp [stf, rep1]
  rw [e, List.length_append, ih, List.length_cons, List.count_cons]
  by_cases h : x = 255
  · subst h; simp; omega
  · simp [h]; omega
theorem stuff_any (w0 : World) (a : Option Addr) (n c : Nat) (xs : List Int) (hs : Sl w0 1 (.slice a n c) n (xs.map (Value.int .u8))) (hnil : a = none → c = 0) (hx : ∀ x ∈ xs, 0 ≤ x ∧ x < 256) (hb1 : n ≤ 1000000000) :
 Calls Tryd.prog 33 #[.slice a n c] w0 fun e w => ∃ (ao : Option Addr) (c' : Nat), e = .returned (.slice ao (stf xs).length c') ∧ St w0 w [own 5 1 ao (stf xs).length c' ((stf xs).map (Value.int .u8))] := by
 have hS := St.start w0
 have HX : Veil3 _ := ⟨hx⟩
 clear hx
 go_enter Tryd.func33, Tryd.ntmps33
 repeat' (first
  | ((with_reducible refine gt9 _ (.call ⟨.value (.func 43), _, _⟩) ?_); refine wpl_call (f := 43) Tryd.call43 kr9 ?_; refine ⟨_, (replaceAll_any _ a (some ⟨g4, 0, none⟩) (some ⟨g5, 0, none⟩) n c 1 2 2 xs [255, 0] 255 (hs.ext hS.1) hnil (hS.slBlk (n := 1) (cs := [.int .u8 255]) pl9 (by rfl) (by decide)) (hS.slBlk (n := 2) (cs := [.int .u8 255, .int .u8 0]) pl9 (by rfl) (by decide)) (by decide) HX.out hb1 (by decide)), ?_⟩; rintro e w ⟨ao, c', rfl, hS2⟩; replace hS := hS.call1 hS2; clear hS2; refine ⟨_, rfl, ?_⟩; refine put_move ?_; go_step) | (refine y91 ?_) | ((with_reducible refine gs9 4 ?_); (refine wl9 ?_; apply wp_buildSlice1 (o := ⟨some 4, _, _, _, _, _⟩) hS 34 1 _ rfl 5 1 1 el34 _ _; (case hvs => (repeat (first | exact Parts.nil | (apply Parts.agg; (rfl); (rfl)) | (apply Parts.one; exact isv9; (rfl); (rfl))))); (case hn => rfl); (case hn0 => decide); (case hns => decide); clear hS; intro g4 w hS; refine put_move ?_; go_step)) | ((with_reducible refine gs9 5 ?_); (refine wl9 ?_; apply wp_buildSlice1 (o := ⟨some 5, _, _, _, _, _⟩) hS 34 2 _ rfl 5 1 1 el34 _ _; (case hvs => (repeat (first | exact Parts.nil | (apply Parts.agg; (rfl); (rfl)) | (apply Parts.one; exact isv9; (rfl); (rfl))))); (case hn => rfl); (case hn0 => decide); (case hns => decide); clear hS; intro g5 w hS; refine put_move ?_; go_step)) | ((fail_if_success with_reducible refine ga9 ?_); go_step))
 go_ret
 refine ⟨ao, c', rfl, ?_⟩
 unfold stf
 exact hS.sub sb9

end Go.Proofs.YtehbjhocgnfpmaaDoor
/- stuff.Split: what it computes, and its walk. -/
namespace Go.Proofs.YtehbjhocgnfpmaaDoor
open Go.RowKit
set_option linter.unusedVariables false
structure Pc where
 ad : Option Addr
 c : Nat
 xs : List Int
def Pc.val (p : Pc) : Value := .slice p.ad p.xs.length p.c
def Pc.res (p : Pc) : Res := own 5 1 p.ad p.xs.length p.c (p.xs.map (Value.int .u8))
theorem pcs_get {W w : World} {pcs : List Pc} {rs rs' : List Res} (h : St W w rs) (p : Pull (star (pcs.map Pc.res)) rs rs') {x : Pc} (hx : x ∈ pcs) : Sl w 1 x.val x.xs.length (x.xs.map (Value.int .u8)) := by
 obtain ⟨s, hs⟩ := h.starGet p (List.mem_map.2 ⟨x, hx, rfl⟩)
 exact hs.sl (show Pull (own 5 1 x.ad x.xs.length x.c (x.xs.map (Value.int .u8))) (Pc.res x :: s) s from .head)
def spf : List Int → List (List Int) → List Int → List Int → Option (List (List Int) × List Int)
 | [], o, m, p => some (o ++ [p], m)
 | x :: l, o, m, p => if x = 255 then (match l with
  | [] => none
  | y :: l' => if y = 255 then none else if y = 0 then spf l' o m (p ++ [255, 0]) else spf l' (o ++ [p]) (m ++ [y]) []) else spf l o m (p ++ [x])
theorem spf_at (xs : List Int) (i : Nat) (o : List (List Int)) (m p : List Int) (h : i < xs.length) (hx : nth xs i ≠ 255) : spf (xs.drop i) o m p = spf (xs.drop (i + 1)) o m (p ++ [nth xs i]) := by
 have e : xs.drop i = nth xs i :: xs.drop (i + 1) := by rw [List.drop_eq_getElem_cons h]; simp [nth, List.getD, h]
 rw [e, spf.eq_def]; dsimp only; rw [if_neg hx]
theorem spf_end (xs : List Int) (i : Nat) (o : List (List Int)) (m p : List Int) (h : i + 1 = xs.length) (hx : nth xs i = 255) : spf (xs.drop i) o m p = none := by
 have e : xs.drop i = nth xs i :: xs.drop (i + 1) := by rw [List.drop_eq_getElem_cons (by omega)]; simp [nth, List.getD, show i < xs.length by omega]
 rw [e, List.drop_of_length_le (by omega)]; simp only [spf]; rw [if_pos hx]
theorem spf_two (xs : List Int) (i : Nat) (o : List (List Int)) (m p : List Int) (h : i + 1 < xs.length) (hx : nth xs i = 255) :
 spf (xs.drop i) o m p = if nth xs (i + 1) = 255 then none else if nth xs (i + 1) = 0 then spf (xs.drop (i + 2)) o m (p ++ [255, 0]) else spf (xs.drop (i + 2)) (o ++ [p]) (m ++ [nth xs (i + 1)]) [] := by
 have e : xs.drop i = nth xs i :: xs.drop (i + 1) := by rw [List.drop_eq_getElem_cons (by omega)]; simp [nth, List.getD, show i < xs.length by omega]
 have e2 : xs.drop (i + 1) = nth xs (i + 1) :: xs.drop (i + 2) := by rw [List.drop_eq_getElem_cons h]; simp [nth, List.getD, h]
 rw [e, e2]; simp only [spf]; rw [if_pos hx]
theorem spf_out (xs : List Int) (i : Nat) (o : List (List Int)) (m p : List Int) (h : xs.length ≤ i) : spf (xs.drop i) o m p = some (o ++ [p], m) := by
 rw [List.drop_of_length_le h, spf]
set_option maxRecDepth 100000 in
set_option maxHeartbeats 8000000 in
theorem split_any (w0 : World) (a : Option Addr) (n c : Nat) (xs : List Int) (hs : Sl w0 1 (.slice a n c) n (xs.map (Value.int .u8))) (hx : ∀ x ∈ xs, 0 ≤ x ∧ x < 256) (hb : n ≤ 1000000000) :
 Calls Tryd.prog 19 #[.slice a n c] w0 fun e w => (spf xs [] [] [] = none → e = .returned (.tuple #[.slice none 0 0, .slice none 0 0, .int .i64 4]) ∧ Ext w0 w) ∧
  (∀ ps ms, spf xs [] [] [] = some (ps, ms) → ∃ (pcs : List Pc) (ao am : Option Addr) (co cm lo lm : Nat), lo = ps.length ∧ lm = ms.length ∧ pcs.map (·.xs) = ps ∧ e = .returned (.tuple #[.slice ao lo co, .slice am lm cm, .int .i64 0]) ∧
   St w0 w [own 34 1 ao lo co (pcs.map Pc.val), own 3 1 am lm cm (ms.map (Value.int .i64)), star (pcs.map Pc.res)]) := by
 have hS := St.start w0
 have hln : xs.length = n := by have := hs.1; simpa using this
 have hcell : ∃ b0 o0, ∀ i, i < n → a = some ⟨b0, o0, none⟩ ∧ w0.cell? ⟨b0, o0 + i, none⟩ = some (.int .u8 (nth xs i)) := by
  obtain ⟨_, a1, c1, e1, _, _, hor⟩ := hs
  cases e1
  rcases hor with h0 | ⟨b0, o0, e2, hc⟩
  · exact ⟨0, 0, fun i hi => by omega⟩
  · refine ⟨b0, o0, fun i hi => ⟨e2, ?_⟩⟩
    rw [hc i (by omega), List.getElem?_map, get_nth xs i (by omega)]; rfl
 obtain ⟨b0, o0, hcell⟩ := hcell
 have hrng : ∀ i, i < n → 0 ≤ nth xs i ∧ nth xs i < 256 := fun i hi => hx _ (by simp [nth, List.getD, show i < xs.length by omega])
 have HC := hid hcell
 have HR := hid hrng
 have HT : Hid (∃ T, spf xs [] [] [] = T) := ⟨_, rfl⟩
 obtain ⟨T, hT⟩ := HT.out
 rw [hT]
 clear hcell hrng HT hx hs
 go_enter Tryd.func19, Tryd.ntmps19
 repeat' (first
  | (refine y92 ?_) | ((fail_if_success with_reducible refine ga9 ?_); go_step))
 go_loopg [5, 6, 7, 8] n (fun gk ov mv pv iv w => ∃ (i lo lm lp : Nat) (pcs : List Pc) (m p : List Int) (ao am ap : Option Addr) (co cm cp : Nat), gk + i = n ∧ lo = pcs.length ∧ lm = m.length ∧ lp = p.length ∧ lo ≤ i ∧ lm ≤ i ∧ lp ≤ i ∧ ov = .slice ao lo co ∧ mv = .slice am lm cm ∧ pv = .slice ap lp cp ∧ iv = .int .i64 i ∧
  spf (xs.drop i) (pcs.map (·.xs)) m p = T ∧ St w0 w [own 34 1 ao lo co (pcs.map Pc.val), own 3 1 am lm cm (m.map (Value.int .i64)), own 5 1 ap lp cp (p.map (Value.int .u8)), star (pcs.map Pc.res)])
 case atStart => exact ⟨0, 0, 0, 0, [], [], [], none, none, none, 0, 0, 0, by omega, rfl, rfl, rfl, by omega, by omega, by omega, rfl, rfl, rfl, rfl, hT, (((hS.star0).nilk 5 1 .u8).nilk 3 1 .i64).nil 34 1⟩
 case round =>
  clear hS hT
  obtain ⟨i, lo, lm, lp, pcs, m, p, ao, am, ap, co, cm, cp, hi, hlo, hlm, hlp, hlo2, hlm2, hlp2, rfl, rfl, rfl, rfl, hT, hS⟩ := hrel
  by_cases hlt : i < n
  · obtain ⟨rfl, hc0⟩ := HC.out i hlt
    by_cases hx : nth xs i = 255
    · by_cases hend : i + 1 = n
      · rw [spf_end xs i _ _ _ (by omega) hx] at hT
        have HT := hid hT
        rw [hx] at hc0
        clear hT hx
        repeat' (first
         | (refine y9146 ?_) | (refine y96 ?_) | (refine y913 ?_) | ((fail_if_success with_reducible refine ga9 ?_); go_step))
        repeat' (first
         | (refine y9146 ?_) | (refine y934 ?_) | (refine y939 ?_) | (refine y9128 ?_) | ((fail_if_success with_reducible refine ga9 ?_); go_step))
        repeat' (first
         | (refine y951 ?_) | (refine y91 ?_) | ((fail_if_success with_reducible refine ga9 ?_); go_step))
        repeat' (first
         | go_big_skip | ((first | (with_reducible refine mv9 ?_) | (with_reducible refine as9 ?_)); (first | go_big_want | go_step); go_step) | ((with_reducible refine gt9 _ (.pick _ _ _) ?_); (refine wplPickT rfl kr9 ?_; go_step)) | ((with_reducible refine gs9 45 ?_); (refine wplD _ (V.eql rfl rfl) kr9 (fun hB => ?_) (fun hB => ?_) <;> (try (have hF : False := (by omega); cases hF)) <;> go_step)) | ((with_reducible refine gs9 44 ?_); (refine wvv9 (V.len Tryd.underlying34 rfl) ?_; go_step)) | ((fail_if_success with_reducible refine ga9 ?_); go_step))
        refine ret_all (xs := [_, _, _]) rfl (.cons (OneRes.tmp rfl) (.cons (OneRes.tmp rfl) (.cons (OneRes.tmp rfl) (.nil)))) (by simp) rfl ?_
        exact ⟨fun _ => ⟨rfl, hS.1⟩, fun ps ms h => by rw [← HT.out] at h; cases h⟩
      · rw [spf_two xs i _ _ _ (by omega) hx] at hT
        obtain ⟨_, hc1⟩ := HC.out (i + 1) (by omega)
        have hr := HR.out (i + 1) (by omega)
        rw [hx] at hc0
        obtain ⟨y, hy⟩ : ∃ y, nth xs (i + 1) = y := ⟨_, rfl⟩
        rw [hy] at hT hc1 hr
        clear hx hy
        by_cases hy255 : y = 255
        · rw [if_pos hy255] at hT
          have HT := hid hT
          clear hT
          repeat' (first
           | (refine y9146 ?_) | (refine y96 ?_) | (refine y913 ?_) | ((fail_if_success with_reducible refine ga9 ?_); go_step))
          repeat' (first
           | (refine y9146 ?_) | (refine y934 ?_) | (refine y939 ?_) | (refine y9128 ?_) | ((fail_if_success with_reducible refine ga9 ?_); go_step))
          repeat' (first
           | (refine y951 ?_) | (refine y91 ?_) | ((fail_if_success with_reducible refine ga9 ?_); go_step))
          repeat' (first
           | (refine y91 ?_) | (refine y9139 ?_) | ((with_reducible refine gs9 45 ?_); (refine wplD _ (V.eql rfl rfl) kr9 (fun hB => ?_) (fun hB => ?_) <;> (try (have hF : False := (by omega); cases hF)) <;> go_step)) | (refine y963 ?_) | (refine y965 ?_) | (refine y968 ?_) | (refine y9128 ?_) | ((fail_if_success with_reducible refine ga9 ?_); go_step))
          refine ret_all (xs := [_, _, _]) rfl (.cons (OneRes.tmp rfl) (.cons (OneRes.tmp rfl) (.cons (OneRes.tmp rfl) (.nil)))) (by simp) rfl ?_
          exact ⟨fun _ => ⟨rfl, hS.1⟩, fun ps ms h => by rw [← HT.out] at h; cases h⟩
        · rw [if_neg hy255] at hT
          by_cases hy0 : y = 0
          · rw [if_pos hy0] at hT
            have HT := hid hT
            clear hT
            repeat' (first
             | (refine y9146 ?_) | (refine y96 ?_) | (refine y913 ?_) | ((fail_if_success with_reducible refine ga9 ?_); go_step))
            repeat' (first
             | (refine y9146 ?_) | (refine y934 ?_) | (refine y939 ?_) | (refine y9128 ?_) | ((fail_if_success with_reducible refine ga9 ?_); go_step))
            repeat' (first
             | (refine y951 ?_) | (refine y91 ?_) | ((fail_if_success with_reducible refine ga9 ?_); go_step))
            repeat' (first
             | (refine y91 ?_) | (refine y9139 ?_) | ((with_reducible refine gs9 45 ?_); (refine wplD _ (V.eql rfl rfl) kr9 (fun hB => ?_) (fun hB => ?_) <;> (try (have hF : False := (by omega); cases hF)) <;> go_step)) | (refine y963 ?_) | (refine y965 ?_) | (refine y968 ?_) | (refine y9128 ?_) | ((fail_if_success with_reducible refine ga9 ?_); go_step))
            repeat' (first
             | (refine y91 ?_) | (refine y976 ?_) | ((with_reducible refine gs9 58 ?_); (refine wvv9 (V.eql rfl rfl) ?_; go_step)) | (refine y9128 ?_) | ((with_reducible refine gs9 60 ?_); (refine wl9 ?_; apply wp_buildSlice1 (o := ⟨some 60, _, _, _, _, _⟩) hS 34 2 _ rfl 5 1 1 el34 _ _; (case hvs => (repeat (first | exact Parts.nil | (apply Parts.agg; (rfl); (rfl)) | (apply Parts.one; exact isv9; (rfl); (rfl))))); (case hn => rfl); (case hn0 => decide); (case hns => decide); clear hS; intro g60 w hS; refine put_move ?_; go_step)) | ((with_reducible refine gs9 61 ?_); (refine wl9 ?_; apply wp_append (o := ⟨some 61, _, _, _, _, _⟩) hS _ _ 34 rfl 5 1 1 el34 _ _ _ _ rfl; (case hp => exact pl9); (case hx => exact rfl); (case hm => (first | exact hS.slBlk pl9 (by rfl) (by decide) | exact hS.sl pl9 | with_reducible assumption | exact Sl.ext (by with_reducible assumption) hS.1 | exact Sl.nil _ _ | exact Sl.ext (by assumption) hS.1 | assumption)); (case h1 => (first | exact oneAll rfl | exact oneMap _ _ | (intro u hu; cases hu))); (case h63 => unfold maxLen; omega); (case hb => omega); clear hS; intro ad61 c61 w hS; (first | simp only [mapk1] at hS | simp only [mapk2] at hS | simp only [mapk3] at hS | simp only [mapk4] at hS | simp only [mapkl] at hS | skip); refine put_move ?_; go_step)) | ((fail_if_success with_reducible refine ga9 ?_); go_step))
            repeat' (first
             | (refine y924 ?_) | (refine y92 ?_) | ((fail_if_success with_reducible refine ga9 ?_); go_step))
            go_roundg (gk - 2)
            case measure => omega
            case rel => exact ⟨i + 2, lo, lm, lp + 2, pcs, m, p ++ [255, 0], _, _, _, _, _, _, by omega, hlo, hlm, by simp; omega, by omega, by omega, by omega, rfl, rfl, rfl, by go_num, HT.out, hS.sub sb9⟩
          · rw [if_neg hy0] at hT
            have HT := hid hT
            clear hT
            repeat' (first
             | (refine y9146 ?_) | (refine y96 ?_) | (refine y913 ?_) | ((fail_if_success with_reducible refine ga9 ?_); go_step))
            repeat' (first
             | (refine y9146 ?_) | (refine y934 ?_) | (refine y939 ?_) | (refine y9128 ?_) | ((fail_if_success with_reducible refine ga9 ?_); go_step))
            repeat' (first
             | (refine y951 ?_) | (refine y91 ?_) | ((fail_if_success with_reducible refine ga9 ?_); go_step))
            repeat' (first
             | (refine y91 ?_) | (refine y9139 ?_) | ((with_reducible refine gs9 45 ?_); (refine wplD _ (V.eql rfl rfl) kr9 (fun hB => ?_) (fun hB => ?_) <;> (try (have hF : False := (by omega); cases hF)) <;> go_step)) | (refine y963 ?_) | (refine y965 ?_) | (refine y968 ?_) | (refine y9128 ?_) | ((fail_if_success with_reducible refine ga9 ?_); go_step))
            repeat' (first
             | (refine y92 ?_) | (refine y976 ?_) | ((with_reducible refine gs9 58 ?_); (refine wvv9 (V.eql rfl rfl) ?_; go_step)) | (refine y9128 ?_) | ((fail_if_success with_reducible refine ga9 ?_); go_step))
            refine drawn_lit [10, 11] (fun w => St w0 w []) kr9 ?_
            replace hS := hS.drew
            focus
             refine takeM 0 _ al9 kr9 kr9 kr9 hq9 rfl ?_
             go_step
             refine takeM 1 _ al9 kr9 kr9 kr9 hq9 rfl ?_
             go_step
             refine takeM 4 _ al9 kr9 kr9 kr9 hq9 rfl ?_
             go_step
             refine takeM 5 _ al9 kr9 kr9 kr9 hq9 rfl ?_
             go_step
             refine takeM 6 _ al9 kr9 kr9 kr9 hq9 rfl ?_
             go_step
             (refine takeV 7 _ al9 kr9 kr9 kr9 hq9 (V.indexSl Tryd.underlying34 isz5 rfl rfl isn9 (by omega) (Nat.mul_one _) nq9) rfl ?_)
             go_step
             apply takeS 8 al9 kr9 kr9 kr9 hq9 [9, 10, 11, 12, 13, 14] kr9 (hS.sub sb9)
             case hfr => intro w hS; ((refine wl9 ?_; apply wp_loadW hS 5 _ rfl _ rfl (one_of rfl) _; (case hc => with_reducible assumption); refine put_move ?_; go_step)); refine wpList_nil ?_; exact ⟨rfl, rfl⟩
             case hd => rfl
             (refine takeV 9 _ al9 kr9 kr9 kr9 hq9 (V.convI (by rw [Tryd.underlying5]; rfl) Tryd.underlying3 rfl (IntWalk.i64_in _ (by omega))) rfl ?_)
             go_step
             refine branch [2, 10] kr9 (by simp) (.cons al9 rfl ?_ (.cons al9 rfl ?_ (.nil)))
             rotate_left 1
             focus
              (refine wp_buildSlice1 (o := ⟨some 39, _, _, _, _, _⟩) hS 24 1 _ rfl 3 1 8 el24 _ _ (by (repeat (first | exact Parts.nil | (apply Parts.agg; (rfl); (rfl)) | (apply Parts.one; exact isv9; (rfl); (rfl))))) (by rfl) (by decide) (by decide) ?_; clear hS; intro g39 w hS)
              refine ⟨fun h => absurd (by decide) h, ?_⟩
              refine drawn_move ?_
              go_step
              refine branch1 2 al9 rfl kr9 ?_
              (refine wp_buildSlice1 (o := ⟨some 31, _, _, _, _, _⟩) hS 37 1 _ rfl 34 1 24 el37 _ _ (by (repeat (first | exact Parts.nil | (apply Parts.agg; (rfl); (rfl)) | (apply Parts.one; exact isv9; (rfl); (rfl))))) (by rfl) (by decide) (by decide) ?_; clear hS; intro g31 w hS)
              refine ⟨fun _ _ => hS.sub sb9, ?_⟩
              refine drawn_move ?_
              go_step
              refine branch1 3 al9 rfl kr9 ?_
              (refine wp_append (o := ⟨some 32, _, _, _, _, _⟩) hS _ _ 37 rfl 34 1 24 el37 _ _ _ _ rfl pl9 _ rfl _ _ (by (first | exact hS.slBlk pl9 (by rfl) (by decide) | exact hS.sl pl9 | with_reducible assumption | exact Sl.ext (by with_reducible assumption) hS.1 | exact Sl.nil _ _ | exact Sl.ext (by assumption) hS.1 | assumption)) (by (first | exact oneAll rfl | exact oneMap _ _ | (intro u hu; cases hu))) (by unfold maxLen; omega) (by omega) ?_; clear hS; intro ad32 c32 w hS; (first | simp only [mapk1] at hS | simp only [mapk2] at hS | simp only [mapk3] at hS | simp only [mapk4] at hS | simp only [mapkl] at hS | skip))
              refine ⟨fun _ _ => hS.sub sb9, ?_⟩
              refine drawn_move ?_
              go_step
              refine branch1 11 al9 rfl kr9 ?_
              (refine wp_append (o := ⟨some 40, _, _, _, _, _⟩) hS _ _ 24 rfl 3 1 8 el24 _ _ _ _ rfl pl9 _ rfl _ _ (by (first | exact hS.slBlk pl9 (by rfl) (by decide) | exact hS.sl pl9 | with_reducible assumption | exact Sl.ext (by with_reducible assumption) hS.1 | exact Sl.nil _ _ | exact Sl.ext (by assumption) hS.1 | assumption)) (by (first | exact oneAll rfl | exact oneMap _ _ | (intro u hu; cases hu))) (by unfold maxLen; omega) (by omega) ?_; clear hS; intro ad40 c40 w hS; (first | simp only [mapk1] at hS | simp only [mapk2] at hS | simp only [mapk3] at hS | simp only [mapk4] at hS | simp only [mapkl] at hS | skip))
              refine ⟨fun h => absurd (by decide) h, ?_⟩
              refine drawn_move ?_
              go_step
              refine takeA 12 _ al9 kr9 kr9 kr9 hq9 rfl ?_
              go_step
              refine takeA 13 _ al9 kr9 kr9 kr9 hq9 rfl ?_
              go_step
              refine takeA 14 _ al9 kr9 kr9 kr9 hq9 rfl ?_
              go_step
              refine drawn_done kr9 ?_ _
             rotate_right 1
             focus
              (refine wp_buildSlice1 (o := ⟨some 31, _, _, _, _, _⟩) hS 37 1 _ rfl 34 1 24 el37 _ _ (by (repeat (first | exact Parts.nil | (apply Parts.agg; (rfl); (rfl)) | (apply Parts.one; exact isv9; (rfl); (rfl))))) (by rfl) (by decide) (by decide) ?_; clear hS; intro g31 w hS)
              refine ⟨fun _ _ => hS.sub sb9, ?_⟩
              refine drawn_move ?_
              go_step
              refine branch [3, 10] kr9 (by simp) (.cons al9 rfl ?_ (.cons al9 rfl ?_ (.nil)))
              rotate_left 1
              focus
               (refine wp_buildSlice1 (o := ⟨some 39, _, _, _, _, _⟩) hS 24 1 _ rfl 3 1 8 el24 _ _ (by (repeat (first | exact Parts.nil | (apply Parts.agg; (rfl); (rfl)) | (apply Parts.one; exact isv9; (rfl); (rfl))))) (by rfl) (by decide) (by decide) ?_; clear hS; intro g39 w hS)
               refine ⟨fun h => absurd (by decide) h, ?_⟩
               refine drawn_move ?_
               go_step
               refine branch1 3 al9 rfl kr9 ?_
               (refine wp_append (o := ⟨some 32, _, _, _, _, _⟩) hS _ _ 37 rfl 34 1 24 el37 _ _ _ _ rfl pl9 _ rfl _ _ (by (first | exact hS.slBlk pl9 (by rfl) (by decide) | exact hS.sl pl9 | with_reducible assumption | exact Sl.ext (by with_reducible assumption) hS.1 | exact Sl.nil _ _ | exact Sl.ext (by assumption) hS.1 | assumption)) (by (first | exact oneAll rfl | exact oneMap _ _ | (intro u hu; cases hu))) (by unfold maxLen; omega) (by omega) ?_; clear hS; intro ad32 c32 w hS; (first | simp only [mapk1] at hS | simp only [mapk2] at hS | simp only [mapk3] at hS | simp only [mapk4] at hS | simp only [mapkl] at hS | skip))
               refine ⟨fun _ _ => hS.sub sb9, ?_⟩
               refine drawn_move ?_
               go_step
               refine branch1 11 al9 rfl kr9 ?_
               (refine wp_append (o := ⟨some 40, _, _, _, _, _⟩) hS _ _ 24 rfl 3 1 8 el24 _ _ _ _ rfl pl9 _ rfl _ _ (by (first | exact hS.slBlk pl9 (by rfl) (by decide) | exact hS.sl pl9 | with_reducible assumption | exact Sl.ext (by with_reducible assumption) hS.1 | exact Sl.nil _ _ | exact Sl.ext (by assumption) hS.1 | assumption)) (by (first | exact oneAll rfl | exact oneMap _ _ | (intro u hu; cases hu))) (by unfold maxLen; omega) (by omega) ?_; clear hS; intro ad40 c40 w hS; (first | simp only [mapk1] at hS | simp only [mapk2] at hS | simp only [mapk3] at hS | simp only [mapk4] at hS | simp only [mapkl] at hS | skip))
               refine ⟨fun h => absurd (by decide) h, ?_⟩
               refine drawn_move ?_
               go_step
               refine takeA 12 _ al9 kr9 kr9 kr9 hq9 rfl ?_
               go_step
               refine takeA 13 _ al9 kr9 kr9 kr9 hq9 rfl ?_
               go_step
               refine takeA 14 _ al9 kr9 kr9 kr9 hq9 rfl ?_
               go_step
               refine drawn_done kr9 ?_ _
              rotate_right 1
              focus
               (refine wp_append (o := ⟨some 32, _, _, _, _, _⟩) hS _ _ 37 rfl 34 1 24 el37 _ _ _ _ rfl pl9 _ rfl _ _ (by (first | exact hS.slBlk pl9 (by rfl) (by decide) | exact hS.sl pl9 | with_reducible assumption | exact Sl.ext (by with_reducible assumption) hS.1 | exact Sl.nil _ _ | exact Sl.ext (by assumption) hS.1 | assumption)) (by (first | exact oneAll rfl | exact oneMap _ _ | (intro u hu; cases hu))) (by unfold maxLen; omega) (by omega) ?_; clear hS; intro ad32 c32 w hS; (first | simp only [mapk1] at hS | simp only [mapk2] at hS | simp only [mapk3] at hS | simp only [mapk4] at hS | simp only [mapkl] at hS | skip))
               refine ⟨fun _ _ => hS.sub sb9, ?_⟩
               refine drawn_move ?_
               go_step
               refine branch1 10 al9 rfl kr9 ?_
               (refine wp_buildSlice1 (o := ⟨some 39, _, _, _, _, _⟩) hS 24 1 _ rfl 3 1 8 el24 _ _ (by (repeat (first | exact Parts.nil | (apply Parts.agg; (rfl); (rfl)) | (apply Parts.one; exact isv9; (rfl); (rfl))))) (by rfl) (by decide) (by decide) ?_; clear hS; intro g39 w hS)
               refine ⟨fun h => absurd (by decide) h, ?_⟩
               refine drawn_move ?_
               go_step
               refine branch1 11 al9 rfl kr9 ?_
               (refine wp_append (o := ⟨some 40, _, _, _, _, _⟩) hS _ _ 24 rfl 3 1 8 el24 _ _ _ _ rfl pl9 _ rfl _ _ (by (first | exact hS.slBlk pl9 (by rfl) (by decide) | exact hS.sl pl9 | with_reducible assumption | exact Sl.ext (by with_reducible assumption) hS.1 | exact Sl.nil _ _ | exact Sl.ext (by assumption) hS.1 | assumption)) (by (first | exact oneAll rfl | exact oneMap _ _ | (intro u hu; cases hu))) (by unfold maxLen; omega) (by omega) ?_; clear hS; intro ad40 c40 w hS; (first | simp only [mapk1] at hS | simp only [mapk2] at hS | simp only [mapk3] at hS | simp only [mapk4] at hS | simp only [mapkl] at hS | skip))
               refine ⟨fun h => absurd (by decide) h, ?_⟩
               refine drawn_move ?_
               go_step
               refine takeA 12 _ al9 kr9 kr9 kr9 hq9 rfl ?_
               go_step
               refine takeA 13 _ al9 kr9 kr9 kr9 hq9 rfl ?_
               go_step
               refine takeA 14 _ al9 kr9 kr9 kr9 hq9 rfl ?_
               go_step
               refine drawn_done kr9 ?_ _
            all_goals
             repeat' (first
              | (refine y924 ?_) | (refine y91 ?_) | ((fail_if_success with_reducible refine ga9 ?_); go_step))
             subst hlp
             have h2 := (hS.sub (xs := [star (pcs.map Pc.res), own 5 1 ap p.length cp (p.map (Value.int .u8)), own 34 1 ad32 (lo + 1) c32 (pcs.map Pc.val ++ [.slice ap p.length cp]), own 3 1 ad40 (lm + 1) c40 ((m ++ [y]).map (Value.int .i64))]) sb9).starPut Pull.head
             go_roundg (gk - 2)
             case measure => omega
             case rel =>
              refine ⟨i + 2, lo + 1, lm + 1, 0, pcs ++ [⟨ap, cp, p⟩], m ++ [y], [], _, _, _, _, _, _, by omega, by simp; omega, by simp; omega, rfl, by omega, by omega, by omega, rfl, rfl, rfl, by go_num, by rw [List.map_append]; exact HT.out, ?_⟩
              rw [show (pcs ++ [(⟨ap, cp, p⟩ : Pc)]).map Pc.val = pcs.map Pc.val ++ [.slice ap p.length cp] by rw [List.map_append]; rfl, show (pcs ++ [(⟨ap, cp, p⟩ : Pc)]).map Pc.res = pcs.map Pc.res ++ [own 5 1 ap p.length cp (p.map (Value.int .u8))] by rw [List.map_append]; rfl]
              exact (h2.nilk 5 1 .u8).sub sb9
    · rw [spf_at xs i _ _ _ (by omega) hx] at hT
      have HT := hid hT
      obtain ⟨x, hxx⟩ : ∃ x, nth xs i = x := ⟨_, rfl⟩
      rw [hxx] at HT hc0 hx
      clear hT hxx
      repeat' (first
       | (refine y9146 ?_) | (refine y96 ?_) | (refine y913 ?_) | ((fail_if_success with_reducible refine ga9 ?_); go_step))
      repeat' (first
       | (refine y91 ?_) | (refine y934 ?_) | (refine y939 ?_) | ((with_reducible refine gs9 23 ?_); (refine wvv9 (V.indexSl Tryd.underlying34 isz5 rfl rfl isn9 (by omega) (Nat.mul_one _) nq9) ?_; go_step)) | (refine y9128 ?_) | ((with_reducible refine gs9 25 ?_); (refine wl9 ?_; apply wp_buildSlice1 (o := ⟨some 25, _, _, _, _, _⟩) hS 34 1 _ rfl 5 1 1 el34 _ _; (case hvs => (repeat (first | exact Parts.nil | (apply Parts.agg; (rfl); (rfl)) | (apply Parts.one; exact isv9; (rfl); (rfl))))); (case hn => rfl); (case hn0 => decide); (case hns => decide); clear hS; intro g25 w hS; refine put_move ?_; go_step)) | ((with_reducible refine gs9 26 ?_); (refine wl9 ?_; apply wp_append (o := ⟨some 26, _, _, _, _, _⟩) hS _ _ 34 rfl 5 1 1 el34 _ _ _ _ rfl; (case hp => exact pl9); (case hx => exact rfl); (case hm => (first | exact hS.slBlk pl9 (by rfl) (by decide) | exact hS.sl pl9 | with_reducible assumption | exact Sl.ext (by with_reducible assumption) hS.1 | exact Sl.nil _ _ | exact Sl.ext (by assumption) hS.1 | assumption)); (case h1 => (first | exact oneAll rfl | exact oneMap _ _ | (intro u hu; cases hu))); (case h63 => unfold maxLen; omega); (case hb => omega); clear hS; intro ad26 c26 w hS; (first | simp only [mapk1] at hS | simp only [mapk2] at hS | simp only [mapk3] at hS | simp only [mapk4] at hS | simp only [mapkl] at hS | skip); refine put_move ?_; go_step)) | ((fail_if_success with_reducible refine ga9 ?_); go_step))
      repeat' (first
       | ((with_reducible refine gs9 14 ?_); (refine wplV (.int _ (((i + 1 : Nat) : Int))) (V.as (V.addI rfl rfl (by omega)) (by omega)) rfl ?_; go_step)) | (refine y92 ?_) | ((fail_if_success with_reducible refine ga9 ?_); go_step))
      go_roundg (gk - 1)
      case measure => omega
      case rel => exact ⟨i + 1, lo, lm, lp + 1, pcs, m, p ++ [x], _, _, _, _, _, _, by omega, hlo, hlm, by simp; omega, by omega, by omega, by omega, rfl, rfl, rfl, by go_num, HT.out, hS.sub sb9⟩
  · rw [spf_out xs i _ _ _ (by omega)] at hT
    have HT := hid hT
    clear hT
    repeat' (first
     | (refine y9146 ?_) | (refine y96 ?_) | (refine y913 ?_) | ((fail_if_success with_reducible refine ga9 ?_); go_step))
    repeat' (first
     | (refine y91 ?_) | ((with_reducible refine gs9 64 ?_); (refine wl9 ?_; apply wp_buildSlice1 (o := ⟨some 64, _, _, _, _, _⟩) hS 37 1 _ rfl 34 1 24 el37 _ _; (case hvs => (repeat (first | exact Parts.nil | (apply Parts.agg; (rfl); (rfl)) | (apply Parts.one; exact isv9; (rfl); (rfl))))); (case hn => rfl); (case hn0 => decide); (case hns => decide); clear hS; intro g64 w hS; refine put_move ?_; go_step)) | ((with_reducible refine gs9 65 ?_); (refine wl9 ?_; apply wp_append (o := ⟨some 65, _, _, _, _, _⟩) hS _ _ 37 rfl 34 1 24 el37 _ _ _ _ rfl; (case hp => exact pl9); (case hx => exact rfl); (case hm => (first | exact hS.slBlk pl9 (by rfl) (by decide) | exact hS.sl pl9 | with_reducible assumption | exact Sl.ext (by with_reducible assumption) hS.1 | exact Sl.nil _ _ | exact Sl.ext (by assumption) hS.1 | assumption)); (case h1 => (first | exact oneAll rfl | exact oneMap _ _ | (intro u hu; cases hu))); (case h63 => unfold maxLen; omega); (case hb => omega); clear hS; intro ad65 c65 w hS; (first | simp only [mapk1] at hS | simp only [mapk2] at hS | simp only [mapk3] at hS | simp only [mapk4] at hS | simp only [mapkl] at hS | skip); refine put_move ?_; go_step)) | ((fail_if_success with_reducible refine ga9 ?_); go_step))
    refine ret_all (xs := [_, _, _]) rfl (.cons (OneRes.tmp rfl) (.cons (OneRes.tmp rfl) (.cons (OneRes.tmp rfl) (.nil)))) (by simp) rfl ?_
    subst hlp
    refine ⟨fun h => (by rw [← HT.out] at h; cases h), fun ps ms h => ?_⟩
    rw [← HT.out] at h
    cases h
    have h2 := (hS.sub (xs := [star (pcs.map Pc.res), own 5 1 ap p.length cp (p.map (Value.int .u8)), own 34 1 ad65 (lo + 1) c65 (pcs.map Pc.val ++ [.slice ap p.length cp]), own 3 1 am lm cm (m.map (Value.int .i64))]) sb9).starPut Pull.head
    refine ⟨pcs ++ [⟨ap, cp, p⟩], _, _, _, _, _, _, by simp; omega, hlm, by simp, rfl, ?_⟩
    rw [show (pcs ++ [(⟨ap, cp, p⟩ : Pc)]).map Pc.val = pcs.map Pc.val ++ [.slice ap p.length cp] by rw [List.map_append]; rfl, show (pcs ++ [(⟨ap, cp, p⟩ : Pc)]).map Pc.res = pcs.map Pc.res ++ [own 5 1 ap p.length cp (p.map (Value.int .u8))] by rw [List.map_append]; rfl]
    exact h2.sub sb9

theorem stf_nil : stf [] = [] := rfl
theorem stf_cons (x : Int) (l : List Int) : stf (x :: l) = (if x = 255 then [255, 0] else [x]) ++ stf l := by simp [stf, rep1]
theorem stf_inj : ∀ (a b : List Int), stf a = stf b → a = b
 | [], [], _ => rfl
 | [], y :: b, h => by rw [stf_nil, stf_cons] at h; split at h <;> simp at h
 | x :: a, [], h => by rw [stf_nil, stf_cons] at h; split at h <;> simp at h
 | x :: a, y :: b, h => by
  rw [stf_cons, stf_cons] at h
  by_cases hx : x = 255
  · by_cases hy : y = 255
    · rw [if_pos hx, if_pos hy] at h
      simp only [List.cons_append, List.nil_append, List.cons.injEq, true_and] at h
      rw [hx, hy, stf_inj a b h]
    · rw [if_pos hx, if_neg hy] at h
      simp only [List.cons_append, List.nil_append, List.cons.injEq] at h
      exact absurd h.1.symm hy
  · by_cases hy : y = 255
    · rw [if_neg hx, if_pos hy] at h
      simp only [List.cons_append, List.nil_append, List.cons.injEq] at h
      exact absurd h.1 hx
    · rw [if_neg hx, if_neg hy] at h
      simp only [List.cons_append, List.nil_append, List.cons.injEq] at h
      rw [h.1, stf_inj a b h.2]
theorem spf_stf : ∀ (c : List Int) (o : List (List Int)) (m p : List Int), spf (stf c) o m p = some (o ++ [p ++ stf c], m)
 | [], o, m, p => by rw [stf_nil, spf, List.append_nil]
 | x :: c, o, m, p => by
  rw [stf_cons]
  by_cases h : x = 255
  · subst h
    rw [if_pos rfl, spf.eq_def]
    simp only [List.cons_append, List.nil_append, if_true]
    rw [if_neg (by decide), spf_stf c]
    simp
  · rw [if_neg h, spf.eq_def]
    simp only [List.cons_append, List.nil_append]
    rw [if_neg h, spf_stf c]
    simp
theorem spf_spec : ∀ (k : Nat) (b : List Int) (o : List (List Int)) (m p : List Int) (ps : List (List Int)) (ms : List Int), b.length ≤ k → spf b o m p = some (ps, ms) →
 ∃ (q : List Int) (r : List (Int × List Int)), ps = o ++ ((p ++ q) :: r.map (·.2)) ∧ ms = m ++ r.map (·.1) ∧ b = q ++ r.flatMap (fun y => 255 :: y.1 :: y.2) ∧ (∃ c, q = stf c) ∧ ∀ y ∈ r, y.1 ≠ 0 ∧ y.1 ≠ 255 ∧ ∃ c, y.2 = stf c
 | k, [], o, m, p, ps, ms, hk, h => by
  rw [spf] at h
  cases h
  exact ⟨[], [], by simp, by simp, by simp, ⟨[], rfl⟩, fun y hy => by cases hy⟩
 | 0, x :: b, o, m, p, ps, ms, hk, h => by simp at hk
 | k + 1, x :: b, o, m, p, ps, ms, hk, h => by
  rw [spf.eq_def] at h
  dsimp only at h
  by_cases hx : x = 255
  · rw [if_pos hx] at h
    cases b with
    | nil => cases h
    | cons y b =>
     dsimp only at h
     by_cases h1 : y = 255
     · rw [if_pos h1] at h; cases h
     · rw [if_neg h1] at h
       by_cases h2 : y = 0
       · rw [if_pos h2] at h
         obtain ⟨q, r, e1, e2, e3, ⟨c, e4⟩, e5⟩ := spf_spec k b _ _ _ _ _ (by simp at hk; omega) h
         refine ⟨255 :: 0 :: q, r, by rw [e1]; simp, e2, by rw [hx, h2, e3]; simp, ⟨255 :: c, by rw [stf_cons, if_pos rfl, e4]; rfl⟩, e5⟩
       · rw [if_neg h2] at h
         obtain ⟨q, r, e1, e2, e3, e4, e5⟩ := spf_spec k b _ _ _ _ _ (by simp at hk; omega) h
         refine ⟨[], (y, q) :: r, by rw [e1]; simp, by rw [e2]; simp, by rw [hx, e3]; simp, ⟨[], rfl⟩, fun z hz => ?_⟩
         rcases List.mem_cons.1 hz with rfl | hz
         · exact ⟨h2, h1, e4⟩
         · exact e5 z hz
  · rw [if_neg hx] at h
    obtain ⟨q, r, e1, e2, e3, ⟨c, e4⟩, e5⟩ := spf_spec k b _ _ _ _ _ (by simp at hk; omega) h
    exact ⟨x :: q, r, by rw [e1]; simp, e2, by rw [e3]; simp, ⟨x :: c, by rw [stf_cons, if_neg hx, e4]; rfl⟩, e5⟩
theorem spf_plain {b : List Int} {ps : List (List Int)} (h : spf b [] [] [] = some (ps, [])) : ∃ c, b = stf c := by
 obtain ⟨q, r, e1, e2, e3, ⟨c, e4⟩, e5⟩ := spf_spec b.length b _ _ _ _ _ (Nat.le_refl _) h
 have hr : r = [] := by
  have := congrArg List.length e2
  simp at this
  exact List.eq_nil_of_length_eq_zero (by omega)
 subst hr
 exact ⟨c, by rw [e3, e4]; simp⟩
theorem byte_ne {x : Int} (hx : 0 ≤ x ∧ x < 256) (h : x ≠ 255) : ((255 : UInt8) == UInt8.ofNat x.toNat) = false := by
 rw [beq_eq_false_iff_ne]
 intro e
 have := congrArg UInt8.toNat e
 simp at this
 omega
theorem idx2 : ∀ (p T : List Int), (∀ x ∈ p, 0 ≤ x ∧ x < 256) → (255 : Int) ∉ p → Lib.index (Lib.bytesOf (p ++ 255 :: 0 :: T)) (Lib.bytesOf [255, 0]) = (p.length : Nat)
 | [], T, _, _ => by
  simp only [List.nil_append, Lib.bytesOf, List.map_cons, List.map_nil]
  unfold Lib.index
  rw [if_pos (by simp [List.isPrefixOf])]
  rfl
 | x :: p, T, h, hn => by
  have ih := idx2 p T (fun y hy => h y (by simp [hy])) (fun e => hn (by simp [e]))
  have hx : x ≠ 255 := fun e => hn (by simp [e])
  have hb := byte_ne (h x (by simp)) hx
  simp only [List.cons_append, Lib.bytesOf, List.map_cons, List.map_nil] at ih ⊢
  unfold Lib.index
  rw [if_neg, ih, if_neg]
  · simp
  · simp
  · simp only [List.isPrefixOf]
    have : (UInt8.ofNat (Int.toNat 255) == UInt8.ofNat x.toNat) = false := hb
    rw [this]; simp
theorem idx2_no : ∀ (p : List Int), (∀ x ∈ p, 0 ≤ x ∧ x < 256) → (255 : Int) ∉ p → Lib.index (Lib.bytesOf p) (Lib.bytesOf [255, 0]) = -1
 | [], _, _ => rfl
 | x :: p, h, hn => by
  have ih := idx2_no p (fun y hy => h y (by simp [hy])) (fun e => hn (by simp [e]))
  have hx : x ≠ 255 := fun e => hn (by simp [e])
  have hb := byte_ne (h x (by simp)) hx
  simp only [Lib.bytesOf, List.map_cons, List.map_nil] at ih ⊢
  unfold Lib.index
  rw [if_neg, ih]
  · rfl
  · simp only [List.isPrefixOf]
    have : (UInt8.ofNat (Int.toNat 255) == UInt8.ofNat x.toNat) = false := hb
    rw [this]; simp
theorem cnt2 : ∀ (ps : List (List Int)) (last : List Int) (f : Nat), (∀ p ∈ ps, (∀ x ∈ p, 0 ≤ x ∧ x < 256) ∧ (255 : Int) ∉ p) → (∀ x ∈ last, 0 ≤ x ∧ x < 256) → (255 : Int) ∉ last → ps.length < f →
 Lib.countFrom (Lib.bytesOf [255, 0]) f (Lib.bytesOf (ps.flatMap (· ++ [255, 0]) ++ last)) = ps.length
 | _, _, 0, _, _, _, hf => by omega
 | [], last, f + 1, _, h1, h2, _ => by
  simp only [List.flatMap_nil, List.nil_append]
  rw [Lib.countFrom, idx2_no last h1 h2]; rfl
 | p :: ps, last, f + 1, h, h1, h2, hf => by
  obtain ⟨k1, k2⟩ := h p (by simp)
  have e : (p :: ps).flatMap (· ++ [255, 0]) ++ last = p ++ 255 :: 0 :: (ps.flatMap (· ++ [255, 0]) ++ last) := by simp
  have e2 : (Lib.bytesOf (p ++ 255 :: 0 :: (ps.flatMap (· ++ [255, 0]) ++ last))).drop (((p.length : Nat) : Int).toNat + (Lib.bytesOf [255, 0]).length) = Lib.bytesOf (ps.flatMap (· ++ [255, 0]) ++ last) := by
   have e0 : p.length + 2 = (Lib.bytesOf (p ++ [255, 0])).length := by simp [Lib.bytesOf]
   have e3 : p ++ 255 :: 0 :: (ps.flatMap (· ++ [255, 0]) ++ last) = (p ++ [255, 0]) ++ (ps.flatMap (· ++ [255, 0]) ++ last) := by simp
   have e4 : ∀ a b : List Int, Lib.bytesOf (a ++ b) = Lib.bytesOf a ++ Lib.bytesOf b := fun a b => by simp [Lib.bytesOf]
   rw [Int.toNat_natCast, show (Lib.bytesOf [255, 0]).length = 2 from rfl, e0, e3, e4 (p ++ [255, 0]), List.drop_left' rfl]
  rw [e, Lib.countFrom, idx2 p _ k1 k2, e2, if_neg (by simp), cnt2 ps last f (fun q hq => h q (by simp [hq])) h1 h2 (by simp at hf; omega), List.length_cons]
  omega
theorem sp1_rng (b : Int) : ∀ (l : List Int), (∀ x ∈ l, 0 ≤ x ∧ x < 256) → (∀ p ∈ (sp1 b l).1, ∀ x ∈ p, 0 ≤ x ∧ x < 256) ∧ (∀ x ∈ (sp1 b l).2, 0 ≤ x ∧ x < 256) ∧ b ∉ (sp1 b l).2 := by
 intro l h
 obtain ⟨h1, _, h3, h4⟩ := sp1_spec b [] l
 have hm : ∀ p ∈ (sp1 b l).1, ∀ x ∈ p, x ∈ l := fun p hp x hx => by
  rw [← h1]; exact List.mem_append_left _ (List.mem_flatMap.2 ⟨p, hp, List.mem_append_left _ hx⟩)
 refine ⟨fun p hp x hx => h x (hm p hp x hx), fun x hx => h x (by rw [← h1]; exact List.mem_append_right _ hx), fun hb => ?_⟩
 have hc := congrArg (List.count b) h1
 rw [List.count_append] at hc
 have e : ∀ ps : List (List Int), (∀ p ∈ ps, b ∉ p) → (ps.flatMap (· ++ [b])).count b = ps.length := by
  intro ps
  induction ps with
  | nil => intro _; rfl
  | cons p ps ih =>
   intro hp
   rw [List.flatMap_cons, List.count_append, List.count_append, ih fun q hq => hp q (by simp [hq]), List.count_eq_zero.2 (hp p (by simp)), List.length_cons]
   simp; omega
 rw [e _ h4, h3] at hc
 have := List.count_pos_iff.2 hb
 omega
theorem ext_drewN {w w' : World} (h : ∃ q, w' = w.drewN q) : Ext w w' := by obtain ⟨q, rfl⟩ := h; exact (Ext.refl w).drewN
theorem cells_at {w : World} {a : Addr} {n c k : Nat} {xs : List Int} (hv : Sl w 1 (.slice (some a) n c) n (xs.map (Value.int .u8))) : n ≤ c ∧ c ≤ 9223372036854775807 := by
 obtain ⟨_, _, _, e, h1, h2, _⟩ := hv
 cases e
 unfold maxLen at h2
 exact ⟨h1, h2⟩
set_option maxRecDepth 100000 in
set_option maxHeartbeats 4000000 in
theorem unstuff_any (w0 : World) (a : Option Addr) (g1 g2 : Nat) (n c : Nat) (xs cc : List Int) (hs : Sl w0 1 (.slice a n c) n (xs.map (Value.int .u8))) (hnil : a = none → c = 0) (he : xs = stf cc)
 (ho : Sl w0 1 (.slice (some ⟨g1, 0, none⟩) 2 2) 2 (([255, 0] : List Int).map (Value.int .u8))) (hw : Sl w0 1 (.slice (some ⟨g2, 0, none⟩) 1 1) 1 (([255] : List Int).map (Value.int .u8)))
 (hx : ∀ x ∈ xs, 0 ≤ x ∧ x < 256) (hb1 : n ≤ 1000000000) (hml : ∃ m, w0.cell? ⟨0, 0, none⟩ = some (.int .i64 m)) :
 Calls Tryd.prog 43 #[.slice a n c, .slice (some ⟨g1, 0, none⟩) 2 2, .slice (some ⟨g2, 0, none⟩) 1 1] w0 fun e w => ∃ (ao : Option Addr) (c' : Nat), e = .returned (.slice ao cc.length c') ∧ St w0 w [own 5 1 ao cc.length c' (cc.map (Value.int .u8))] := by
 obtain ⟨ml, hml⟩ := hml
 have hxc : ∀ x ∈ cc, 0 ≤ x ∧ x < 256 := fun x hxm => by
  by_cases h : x = 255
  · omega
  · refine hx x ?_
    rw [he, stf, rep1, List.mem_flatMap]
    exact ⟨x, hxm, by rw [if_neg h]; simp⟩
 obtain ⟨h1, h2, h3, h4⟩ := sp1_spec 255 [255, 0] cc
 obtain ⟨r1, r2, r3⟩ := sp1_rng 255 cc hxc
 obtain ⟨ps, hps⟩ : ∃ ps, (sp1 255 cc).1 = ps := ⟨_, rfl⟩
 obtain ⟨last, hlast⟩ : ∃ l, (sp1 255 cc).2 = l := ⟨_, rfl⟩
 rw [hps, hlast] at h1 h2
 rw [hps] at h3 h4 r1
 rw [hlast] at r2 r3
 have h2' : ps.flatMap (· ++ [255, 0]) ++ last = xs := by rw [he]; exact h2
 have h5 := h2'
 rw [← pre_all] at h1 h2'
 have hln : xs.length = n := by have := hs.1; simpa using this
 have hadd : ∀ (g i : Nat), ((⟨g, 0, none⟩ : Addr).add i) = ⟨g, 0 + i, none⟩ := fun g i => Addr.add_mid ..
 have hmem : ∀ k (h : k < ps.length), ∃ T, xs.drop (pre [255, 0] ps k).length = ps[k] ++ 255 :: 0 :: T := fun k h => by
  obtain ⟨T, hT⟩ := pre_split [255, 0] ps k ps.length rfl h
  refine ⟨T ++ last, ?_⟩
  rw [← h2', hT, List.append_assoc, List.drop_left' rfl]
  simp
 have hpl : ps.length ≤ n := by
  have hq : ∀ qs : List (List Int), qs.length ≤ (qs.flatMap (· ++ [255, 0])).length := fun qs => by
   induction qs with
   | nil => exact Nat.le_refl _
   | cons q qs ih => rw [List.flatMap_cons, List.length_append, List.length_append, List.length_cons, List.length_cons]; omega
  have := hq ps
  have e := congrArg List.length h5
  rw [List.length_append] at e
  omega
 have HC : Veil3 (∀ w, Ext w0 w → Calls Tryd.prog 79 #[.slice a n c, .slice (some ⟨g1, 0, none⟩) 2 2] w fun e w' => e = .returned (.int .i64 (ps.length : Nat)) ∧ Ext w w') := ⟨fun w hE => by
  cases a with
  | none =>
   have hc0 := hnil rfl
   subst hc0
   have hn0 : n = 0 := by obtain ⟨_, _, _, h1, h2, _⟩ := hs; cases h1; omega
   subst hn0
   have : ps.length = 0 := by omega
   rw [this]
   exact (Tryd.bytes_Count_nil (some ⟨g1, 0, none⟩) 2 2 w (by decide) (by decide)).mono fun e w' ⟨e1, e2⟩ => ⟨e1, e2 ▸ Ext.refl _⟩
  | some a =>
   obtain ⟨c1, c2⟩ := cells_at (k := 0) (hs.ext hE)
   refine (Tryd.bytes_Count_at a ⟨g1, 0, none⟩ n c 2 2 xs [255, 0] ml w hln rfl hx (by intro y hy; simp at hy; rcases hy with rfl | rfl <;> omega) (cell_at (hs.ext hE)) (cell_at (ho.ext hE)) c1 (by omega) (by decide) (by decide) (hE.cell hml)).mono fun e w' ⟨e1, e2⟩ => ⟨?_, ext_drewN e2⟩
   rw [e1]
   have : Lib.count (Lib.bytesOf xs) (Lib.bytesOf [255, 0]) = ps.length := by
    rw [← h5, Lib.count]
    refine cnt2 ps last _ (fun p hp => ⟨r1 p hp, h4 p hp⟩) r2 r3 ?_
    rw [h5]; simp [Lib.bytesOf]; omega
   rw [this]⟩
 have HI : Veil3 (∀ k (h : k < ps.length) w, Ext w0 w → Calls Tryd.prog 80 #[.slice (cutAt a c (pre [255, 0] ps k).length 1) (n - (pre [255, 0] ps k).length) (c - (pre [255, 0] ps k).length), .slice (some ⟨g1, 0, none⟩) 2 2] w fun e w' => e = .returned (.int .i64 (ps[k].length : Nat)) ∧ Ext w w') := ⟨fun k h w hE => by
  obtain ⟨T, hT⟩ := hmem k h
  have hle : (pre [255, 0] ps k).length ≤ n := by
   have := pre_le [255, 0] ps k ps.length (by omega)
   have h6 := congrArg List.length h2'
   rw [List.length_append] at h6
   omega
  have hsl := (hs.ext hE).cutAt (pre [255, 0] ps k).length n hle (Nat.le_refl _)
  have h6 : ((xs.map (Value.int .u8)).drop ((pre [255, 0] ps k).length * 1)).take ((n - (pre [255, 0] ps k).length) * 1) = (ps[k] ++ 255 :: 0 :: T).map (Value.int .u8) := by
   rw [Nat.mul_one, Nat.mul_one, ← List.map_drop, ← List.map_take, List.take_of_length_le (by rw [List.length_drop]; omega), hT]
  rw [h6] at hsl
  have hlen := hsl.1
  have hrng : ∀ x ∈ ps[k] ++ 255 :: 0 :: T, 0 ≤ x ∧ x < 256 := fun x hxm => hx x (by rw [← hT] at hxm; exact List.mem_of_mem_drop hxm)
  cases hca : cutAt a c (pre [255, 0] ps k).length 1 with
  | none =>
   rw [hca] at hsl
   obtain ⟨_, _, _, k1, k2, k3, k4⟩ := hsl
   cases k1
   rcases k4 with k4 | ⟨_, _, k4, _⟩
   · simp at hlen; omega
   · cases k4
  | some a1 =>
   rw [hca] at hsl
   obtain ⟨c1, c2⟩ := cells_at (k := 0) hsl
   refine (Tryd.bytes_Index_at a1 ⟨g1, 0, none⟩ _ _ 2 2 (ps[k] ++ 255 :: 0 :: T) [255, 0] ml w (by simpa using hlen) rfl hrng (by intro y hy; simp at hy; rcases hy with rfl | rfl <;> omega) (cell_at hsl) (cell_at (ho.ext hE)) c1 (by omega) (by decide) (hE.cell hml)).mono fun e w' ⟨e1, e2⟩ => ⟨?_, ext_drewN e2⟩
   rw [e1, idx2 ps[k] T (fun x hxm => r1 _ (List.getElem_mem h) x hxm) (h4 _ (List.getElem_mem h))]⟩
 have HRp := replace_any w0 a (some ⟨g1, 0, none⟩) (some ⟨g2, 0, none⟩) n c 2 2 1 1 ps.length ps last [255, 0] [255] rfl (h2'.symm ▸ hs) ho hw (by decide) hb1 (by decide) (by decide) HC HI
 rw [h1] at HRp
 have HRv : Veil3 _ := ⟨HRp⟩
 have hS := St.start w0
 clear HC HI HRp hmem h1 h2 h2' h3 h4 h5 hps hlast r1 r2 r3 hx hxc he hpl
 go_enter Tryd.func43, Tryd.ntmps43
 repeat' (first
  | ((with_reducible refine gt9 _ (.call ⟨.value (.func 60), _, _⟩) ?_); refine wpl_call (f := 60) Tryd.call60 kr9 ?_; refine ⟨_, (HRv.out), ?_⟩; rintro e w ⟨ao, c', rfl, hS2⟩; replace hS := hS2; clear hS2; refine ⟨_, rfl, ?_⟩; refine put_move ?_; go_step) | (refine y91 ?_) | ((fail_if_success with_reducible refine ga9 ?_); go_step))
 go_ret
 exact ⟨ao, c', rfl, hS⟩
set_option maxRecDepth 100000 in
set_option maxHeartbeats 4000000 in
theorem plain_any (w0 : World) (a : Option Addr) (n c : Nat) (xs : List Int) (hs : Sl w0 1 (.slice a n c) n (xs.map (Value.int .u8))) (hnil : a = none → c = 0) (hx : ∀ x ∈ xs, 0 ≤ x ∧ x < 256) (hb1 : n ≤ 1000000000) (hml : ∃ m, w0.cell? ⟨0, 0, none⟩ = some (.int .i64 m)) :
 Calls Tryd.prog 20 #[.slice a n c] w0 fun e w => (∀ cc, xs = stf cc → ∃ (ao : Option Addr) (c' : Nat), e = .returned (.tuple #[.slice ao cc.length c', .int .i64 0]) ∧ St w0 w [own 5 1 ao cc.length c' (cc.map (Value.int .u8))]) ∧
  ((∀ cc, xs ≠ stf cc) → e = .returned (.tuple #[.slice none 0 0, .int .i64 4]) ∧ Ext w0 w) := by
 have hS := St.start w0
 have HSP := hid (split_any w0 a n c xs hs hx hb1)
 obtain ⟨T, hT⟩ : ∃ T, spf xs [] [] [] = T := ⟨_, rfl⟩
 rw [hT] at HSP
 have HX : Veil3 (∀ x ∈ xs, 0 ≤ x ∧ x < 256) := ⟨hx⟩
 have HML : Veil3 _ := ⟨hml⟩
 clear hx hml
 cases T with
 | none =>
  have hno : ∀ cc, xs ≠ stf cc := fun cc e => by rw [e, spf_stf] at hT; cases hT
  have HNO : Veil3 _ := ⟨hno⟩
  clear hno hT
  go_enter Tryd.func20, Tryd.ntmps20
  repeat' (first
   | ((with_reducible refine gt9 _ (.call ⟨.value (.func 19), _, _⟩) ?_); refine wpl_call (f := 19) Tryd.call19 kr9 ?_; refine ⟨_, (HSP.out), ?_⟩; rintro e w ⟨hR1, -⟩; obtain ⟨rfl, hE⟩ := hR1 rfl; clear hR1; replace hS := hS.ext hE; clear hE; refine ⟨_, rfl, ?_⟩; refine put_move ?_; go_step) | go_skip | (refine y91 ?_) | (refine y9139 ?_) | ((with_reducible refine gs9 14 ?_); (refine wplD _ (V.eql rfl rfl) kr9 (fun hB => ?_) (fun hB => ?_) <;> (try (have hF : False := (by omega); cases hF)) <;> go_step)) | (refine y93 ?_) | (refine y94 ?_) | (refine y912 ?_) | ((fail_if_success with_reducible refine ga9 ?_); go_step))
  all_goals
   repeat' (first
    | (refine y91 ?_) | (refine y945 ?_) | ((fail_if_success with_reducible refine ga9 ?_); go_step))
  all_goals
   refine ret_all (xs := [_, _]) rfl (.cons (OneRes.tmp rfl) (.cons (OneRes.tmp rfl) (.nil))) (by simp) rfl ?_
   exact ⟨fun cc e => absurd e (HNO.out cc), fun _ => ⟨rfl, hS.1⟩⟩
 | some T =>
  obtain ⟨ps, ms⟩ := T
  by_cases hm : ms = []
  · subst hm
    obtain ⟨cc, he⟩ := spf_plain hT
    have HE := hid he
    clear hT he
    go_enter Tryd.func20, Tryd.ntmps20
    repeat' (first
     | ((with_reducible refine gt9 _ (.call ⟨.value (.func 19), _, _⟩) ?_); refine wpl_call (f := 19) Tryd.call19 kr9 ?_; refine ⟨_, (HSP.out), ?_⟩; rintro e w ⟨-, hR1⟩; obtain ⟨pcs, ao, am, co, cm, lo, lm, hlo, hlm, -, rfl, hS2⟩ := hR1 ps [] rfl; clear hR1; rw [List.length_nil] at hlm; subst hlm; replace hS := hS.call hS2; clear hS2; simp only [List.cons_append, List.nil_append] at hS; refine ⟨_, rfl, ?_⟩; refine put_move ?_; go_step) | (refine y91 ?_) | (refine y9140 ?_) | ((with_reducible refine gs9 14 ?_); (refine wplD _ (V.eql rfl rfl) kr9 (fun hB => ?_) (fun hB => ?_) <;> (try (have hF : False := (by omega); cases hF)) <;> go_step)) | (refine y93 ?_) | (refine y94 ?_) | (refine y912 ?_) | (refine y935 ?_) | ((with_reducible refine gs9 18 ?_); (refine wvv9 (V.gtr rfl rfl) ?_; go_step)) | ((fail_if_success with_reducible refine ga9 ?_); go_step))
    all_goals
     repeat' (first
      | (refine y9146 ?_) | (refine y945 ?_) | ((fail_if_success with_reducible refine ga9 ?_); go_step))
    all_goals
     repeat' (first
      | ((with_reducible refine gt9 _ (.call ⟨.value (.func 43), _, _⟩) ?_); refine wpl_call (f := 43) Tryd.call43 kr9 ?_; refine ⟨_, (unstuff_any _ a _ _ n c xs cc (hs.ext hS.1) hnil HE.out (hS.slBlk (n := 2) (cs := [.int .u8 255, .int .u8 0]) pl9 (by rfl) (by decide)) (hS.slBlk (n := 1) (cs := [.int .u8 255]) pl9 (by rfl) (by decide)) HX.out hb1 (HML.out.imp fun m h => hS.1.cell h)), ?_⟩; rintro e w ⟨ao, c', rfl, hS2⟩; replace hS := hS.call1 hS2; clear hS2; refine ⟨_, rfl, ?_⟩; refine put_move ?_; go_step) | (refine y92 ?_) | ((with_reducible refine gs9 24 ?_); (refine wl9 ?_; apply wp_buildSlice1 (o := ⟨some 24, _, _, _, _, _⟩) hS 34 2 _ rfl 5 1 1 el34 _ _; (case hvs => (repeat (first | exact Parts.nil | (apply Parts.agg; (rfl); (rfl)) | (apply Parts.one; exact isv9; (rfl); (rfl))))); (case hn => rfl); (case hn0 => decide); (case hns => decide); clear hS; intro g24 w hS; refine put_move ?_; go_step)) | ((with_reducible refine gs9 25 ?_); (refine wl9 ?_; apply wp_buildSlice1 (o := ⟨some 25, _, _, _, _, _⟩) hS 34 1 _ rfl 5 1 1 el34 _ _; (case hvs => (repeat (first | exact Parts.nil | (apply Parts.agg; (rfl); (rfl)) | (apply Parts.one; exact isv9; (rfl); (rfl))))); (case hn => rfl); (case hn0 => decide); (case hns => decide); clear hS; intro g25 w hS; refine put_move ?_; go_step)) | ((fail_if_success with_reducible refine ga9 ?_); go_step))
    all_goals
     refine ret_all (xs := [_, _]) rfl (.cons (OneRes.tmp rfl) (.cons (OneRes.tmp rfl) (.nil))) (by simp) rfl ?_
     refine ⟨fun cc2 e => ?_, fun h => absurd HE.out (h cc)⟩
     obtain rfl := stf_inj _ _ (HE.out.symm.trans e)
     exact ⟨_, _, rfl, hS.sub sb9⟩
  · have hno : ∀ cc, xs ≠ stf cc := fun cc e => by rw [e, spf_stf] at hT; cases hT; exact hm rfl
    have HNO : Veil3 _ := ⟨hno⟩
    have hml2 : 0 < ms.length := List.length_pos_iff.2 hm
    clear hno hT hm
    go_enter Tryd.func20, Tryd.ntmps20
    repeat' (first
     | ((with_reducible refine gt9 _ (.call ⟨.value (.func 19), _, _⟩) ?_); refine wpl_call (f := 19) Tryd.call19 kr9 ?_; refine ⟨_, (HSP.out), ?_⟩; rintro e w ⟨-, hR1⟩; obtain ⟨pcs, ao, am, co, cm, lo, lm, hlo, hlm, -, rfl, hS2⟩ := hR1 ps ms rfl; clear hR1; replace hS := hS.call hS2; clear hS2; simp only [List.cons_append, List.nil_append] at hS; refine ⟨_, rfl, ?_⟩; refine put_move ?_; go_step) | (refine y91 ?_) | (refine y9140 ?_) | ((with_reducible refine gs9 14 ?_); (refine wplD _ (V.eql rfl rfl) kr9 (fun hB => ?_) (fun hB => ?_) <;> (try (have hF : False := (by omega); cases hF)) <;> go_step)) | (refine y93 ?_) | (refine y94 ?_) | (refine y912 ?_) | (refine y935 ?_) | ((with_reducible refine gs9 18 ?_); (refine wvv9 (V.gtr rfl rfl) ?_; go_step)) | ((fail_if_success with_reducible refine ga9 ?_); go_step))
    all_goals
     repeat' (first
      | (refine y91 ?_) | (refine y945 ?_) | ((fail_if_success with_reducible refine ga9 ?_); go_step))
    all_goals
     refine ret_all (xs := [_, _]) rfl (.cons (OneRes.tmp rfl) (.cons (OneRes.tmp rfl) (.nil))) (by simp) rfl ?_
     exact ⟨fun cc e => absurd e (HNO.out cc), fun _ => ⟨rfl, hS.1⟩⟩

end Go.Proofs.YtehbjhocgnfpmaaDoor
/- The walk of seg.Encode. -/
namespace Go.Proofs.YtehbjhocgnfpmaaDoor
open Go.RowKit
set_option maxRecDepth 100000
set_option linter.unusedVariables false
def tkBits (L1 L2 : List (Int × Nat × Nat)) (x : Tok × Bool) : List Bool := wb (if x.2 then L1 else L2) x.1.1 ++ bitsOf x.1.2.1.toNat x.1.2.2.toNat
def encStep (L1 L2 : List (Int × Nat × Nat)) (bs : List Bool) (t : Tok) (b : Bool) : Int × List Bool := if (symW (if b then L1 else L2) t.1).isSome then (0, bs ++ tkBits L1 L2 (t, b)) else (5, bs)
theorem of_any (W w0 : World) (rs rs' : List Res) (g g1 g2 : Nat) (b : Bool) (hS : St W w0 rs) (hp : Pull (blk g [.pointer (some ⟨g1, 0, none⟩), .pointer (some ⟨g2, 0, none⟩)]) rs rs') :
 Calls Tryd.prog 39 #[.pointer (some ⟨g, 0, none⟩), .bool b] w0 fun e w => e = .returned (.pointer (some ⟨if b then g1 else g2, 0, none⟩)) ∧ Ext w0 w := by
 have h0 := St.start w0
 have hc := (hS.blk hp).1
 have c0 : w0.cell? ⟨g, 0, none⟩ = some (.pointer (some ⟨g1, 0, none⟩)) := by rw [hc.cell]; rfl
 have c1 : w0.cell? ⟨g, 1, none⟩ = some (.pointer (some ⟨g2, 0, none⟩)) := by rw [hc.cell]; rfl
 clear hS hc hp
 have hS := h0
 clear h0
 cases b
 · go_enter Tryd.func39, Tryd.ntmps39
   repeat' (first
    | (refine y91 ?_) | ((fail_if_success with_reducible refine ga9 ?_); go_step))
   repeat' (first
    | (refine y92 ?_) | (refine y9138 ?_) | ((with_reducible refine gt9 _ (.fieldAddr 120 _ 1) ?_); (refine wvv9 (V.fieldAddr fo120_1 rfl nq9) ?_; go_step)) | (refine y9135 ?_) | ((fail_if_success with_reducible refine ga9 ?_); go_step))
   all_goals (go_ret; exact ⟨rfl, hS.1⟩)
 · go_enter Tryd.func39, Tryd.ntmps39
   repeat' (first
    | (refine y91 ?_) | (refine y9138 ?_) | ((with_reducible refine gt9 _ (.fieldAddr 120 _ 0) ?_); (refine wvv9 (V.fieldAddr fo120_0 rfl nq9) ?_; go_step)) | (refine y9135 ?_) | ((fail_if_success with_reducible refine ga9 ?_); go_step))
   all_goals (go_ret; exact ⟨rfl, hS.1⟩)
def encR (g6 g8 gc gw : Nat) (L1 L2 : List (Int × Nat × Nat)) (bs : List Bool) : Res := star [blk g6 [.pointer (some ⟨gc, 0, none⟩)], blk g8 [.pointer (some ⟨gw, 0, none⟩)], cdr gc L1 L2, wr gw bs]
set_option maxHeartbeats 4000000 in
theorem encClo_any (W w0 : World) (rs rs' : List Res) (g6 g8 gc gw : Nat) (L1 L2 : List (Int × Nat × Nat)) (bs : List Bool) (t0 t1 t2 : Int) (b : Bool) (hL1 : Good L1) (hL2 : Good L2) (hS : St W w0 rs) (hp : Pull (encR g6 g8 gc gw L1 L2 bs) rs rs') (hb : bs.length ≤ 1000000000) (ht : okT (t0, t1, t2)) :
 Calls Tryd.prog 38 #[.agg #[.int .i64 t0, .int .i64 t1, .int .i64 t2], .bool b, .pointer (some ⟨g6, 0, none⟩), .pointer (some ⟨g8, 0, none⟩)] w0 fun e w => e = .returned (.int .i64 (encStep L1 L2 bs (t0, t1, t2) b).1) ∧ St W w (encR g6 g8 gc gw L1 L2 (encStep L1 L2 bs (t0, t1, t2) b).2 :: rs') := by
 obtain ⟨_, hS⟩ := (hS.pull hp).open
 obtain ⟨⟨g1, g2⟩, hS⟩ := (hS.pull (.tail (.tail .head))).open
 replace hS : St W w0 (blk gc [.pointer (some ⟨g1, 0, none⟩), .pointer (some ⟨g2, 0, none⟩)] :: cod g1 L1 :: cod g2 L2 :: blk g6 [.pointer (some ⟨gc, 0, none⟩)] :: blk g8 [.pointer (some ⟨gw, 0, none⟩)] :: wr gw bs :: rs') := hS
 clear hp
 obtain ⟨h1, h2, h3, h4⟩ := ht
 dsimp only at h1 h2 h3 h4
 obtain ⟨k, rfl⟩ : ∃ k : Nat, t1 = (k : Int) := ⟨t1.toNat, by omega⟩
 obtain ⟨v, rfl⟩ : ∃ v : Nat, t2 = (v : Int) := ⟨t2.toNat, by omega⟩
 have hv : v < 2 ^ k := by rw [Int.toNat_natCast] at h4; exact_mod_cast h4
 clear h4 h3
 obtain ⟨L, hL⟩ : ∃ L, (if b then L1 else L2) = L := ⟨_, rfl⟩
 obtain ⟨gb, hgb⟩ : ∃ x, (if b then g1 else g2) = x := ⟨_, rfl⟩
 have hGL : Good L := by rw [← hL]; cases b <;> assumption
 have HL := hid hL
 have HGB := hid hgb
 have HLen := hid (wb_len hGL t0)
 obtain ⟨r2, hS2, hC⟩ : ∃ r2, St W w0 (cod gb L :: r2 :: blk gc [.pointer (some ⟨g1, 0, none⟩), .pointer (some ⟨g2, 0, none⟩)] :: blk g6 [.pointer (some ⟨gc, 0, none⟩)] :: blk g8 [.pointer (some ⟨gw, 0, none⟩)] :: wr gw bs :: rs') ∧ ∀ w rs, St W w (cod gb L :: r2 :: blk gc [.pointer (some ⟨g1, 0, none⟩), .pointer (some ⟨g2, 0, none⟩)] :: rs) → St W w (cdr gc L1 L2 :: rs) := by
  cases b
  · obtain rfl : L2 = L := by simpa using hL
    obtain rfl : g2 = gb := by simpa using hgb
    refine ⟨cod g1 L1, hS.sub sb9, fun w rs h => St.close (g1, g2) ?_⟩
    dsimp only [List.cons_append, List.nil_append]
    exact h.sub sb9
  · obtain rfl : L1 = L := by simpa using hL
    obtain rfl : g1 = gb := by simpa using hgb
    refine ⟨cod g2 L2, hS.sub sb9, fun w rs h => St.close (g1, g2) ?_⟩
    dsimp only [List.cons_append, List.nil_append]
    exact h.sub sb9
 clear hS hL hgb
 have hS := hS2
 have HC := hid hC
 clear hS2 hC
 obtain ⟨I, hI⟩ : ∃ I, (symW L t0).isSome = I := ⟨_, rfl⟩
 have HI := hid hI
 cases I
 · have HR := hid (show encStep L1 L2 bs (t0, (k : Int), (v : Int)) b = (5, bs) by unfold encStep; dsimp only; rw [HL.out, hI]; rfl)
   clear hI
   go_enter Tryd.func38, Tryd.ntmps38
   repeat' (first
    | (refine y92 ?_) | ((with_reducible refine gs9 4 ?_); (refine wl9 ?_; apply wp_boxG (o := ⟨some 4, _, _, _, _, _⟩) hS 69 _ rfl _ rfl; clear hS; intro g4 w hS; refine put_move ?_; go_step)) | ((fail_if_success with_reducible refine ga9 ?_); go_step))
   refine drawn_lit [6] (fun w => St W w [blk g6 [.pointer (some ⟨gc, 0, none⟩)], blk g8 [.pointer (some ⟨gw, 0, none⟩)], blk g4 [.int .i64 t0, .int .i64 (k : Nat), .int .i64 (v : Nat)]]) kr9 ?_
   replace hS := hS.drew
   focus
    apply takeS 0 al9 kr9 kr9 kr9 hq9 [2, 6, 7] kr9 (hS.sub sb9)
    case hfr => intro w hS; ((refine wl9 ?_; apply wp_load1 hS 72 _ rfl _ _ rfl (one_of rfl) _; (case hp => exact pl9); (case hc => rfl); refine put_move ?_; go_step)); refine wpList_nil ?_; exact ⟨rfl, rfl⟩
    case hd => rfl
    refine takeM 1 _ al9 kr9 kr9 kr9 hq9 rfl ?_
    go_step
    apply takeS 3 al9 kr9 kr9 kr9 hq9 [6, 7] kr9 (hS.sub sb9)
    case hfr => intro w hS; ((refine wl9 ?_; apply wp_load1 hS 75 _ rfl _ _ rfl (one_of rfl) _; (case hp => exact pl9); (case hc => rfl); refine put_move ?_; go_step)); refine wpList_nil ?_; exact ⟨rfl, rfl⟩
    case hd => rfl
    (refine takeV 4 _ al9 kr9 kr9 kr9 hq9 (V.fieldAddr fo69_0 rfl nq9) rfl ?_)
    go_step
    apply takeS 5 al9 kr9 kr9 kr9 hq9 [6, 7] kr9 (hS.sub sb9)
    case hfr => intro w hS; ((refine wl9 ?_; apply wp_load1 hS 3 _ rfl _ _ rfl (one_of rfl) _; (case hp => exact pl9); (case hc => rfl); refine put_move ?_; go_step)); refine wpList_nil ?_; exact ⟨rfl, rfl⟩
    case hd => rfl
    refine branch1 2 al9 rfl kr9 ?_
    refine wp_callF (f := 39) rfl Tryd.call39 (of_any W _ _ _ gc g1 g2 b hS pl9) ?_; rintro e w ⟨rfl, hE⟩; replace hS := hS.ext hE; clear hE; rw [HGB.out]; refine ⟨_, rfl, ?_⟩
    refine ⟨fun _ _ => hS.sub sb9, ?_⟩
    refine drawn_move ?_
    go_step
    refine branch1 6 al9 rfl kr9 ?_
    refine wp_callF (f := 40) rfl Tryd.call40 (codPut_any W _ _ _ _ gb gw L bs t0 hGL hS pl9 pl9 (by omega)) ?_; clear hS; rintro e w ⟨rfl, hS⟩; rw [HI.out]; refine ⟨_, rfl, ?_⟩
    refine ⟨fun h => absurd (by decide) h, ?_⟩
    refine drawn_move ?_
    go_step
    (refine takeV 7 _ al9 kr9 kr9 kr9 hq9 (V.not rfl) rfl ?_)
    go_step
    refine drawn_done kr9 ?_ _
   all_goals
    repeat' (first
     | (refine y92 ?_) | ((fail_if_success with_reducible refine ga9 ?_); go_step))
    go_ret
    rw [HR.out]
    have hwb : wb L t0 = [] := by unfold wb; cases hs : symW L t0 with
     | none => rfl
     | some y => have := HI.out; rw [hs] at this; cases this
    rw [hwb, List.append_nil] at hS
    refine ⟨rfl, St.close () ?_⟩
    dsimp only [List.cons_append, List.nil_append]
    exact (HC.out _ _ (hS.sub (xs := cod gb L :: r2 :: blk gc [.pointer (some ⟨g1, 0, none⟩), .pointer (some ⟨g2, 0, none⟩)] :: blk g6 [.pointer (some ⟨gc, 0, none⟩)] :: blk g8 [.pointer (some ⟨gw, 0, none⟩)] :: wr gw bs :: rs') sb9)).sub sb9
 · have HR := hid (show encStep L1 L2 bs (t0, (k : Int), (v : Int)) b = (0, bs ++ (wb L t0 ++ bitsOf k v)) by unfold encStep tkBits; dsimp only; rw [HL.out, hI, Int.toNat_natCast, Int.toNat_natCast]; rfl)
   clear hI
   go_enter Tryd.func38, Tryd.ntmps38
   repeat' (first
    | (refine y92 ?_) | ((with_reducible refine gs9 4 ?_); (refine wl9 ?_; apply wp_boxG (o := ⟨some 4, _, _, _, _, _⟩) hS 69 _ rfl _ rfl; clear hS; intro g4 w hS; refine put_move ?_; go_step)) | ((fail_if_success with_reducible refine ga9 ?_); go_step))
   refine drawn_lit [6] (fun w => St W w [blk g6 [.pointer (some ⟨gc, 0, none⟩)], blk g8 [.pointer (some ⟨gw, 0, none⟩)], blk g4 [.int .i64 t0, .int .i64 (k : Nat), .int .i64 (v : Nat)]]) kr9 ?_
   replace hS := hS.drew
   focus
    apply takeS 0 al9 kr9 kr9 kr9 hq9 [2, 6, 7] kr9 (hS.sub sb9)
    case hfr => intro w hS; ((refine wl9 ?_; apply wp_load1 hS 72 _ rfl _ _ rfl (one_of rfl) _; (case hp => exact pl9); (case hc => rfl); refine put_move ?_; go_step)); refine wpList_nil ?_; exact ⟨rfl, rfl⟩
    case hd => rfl
    refine takeM 1 _ al9 kr9 kr9 kr9 hq9 rfl ?_
    go_step
    apply takeS 3 al9 kr9 kr9 kr9 hq9 [6, 7] kr9 (hS.sub sb9)
    case hfr => intro w hS; ((refine wl9 ?_; apply wp_load1 hS 75 _ rfl _ _ rfl (one_of rfl) _; (case hp => exact pl9); (case hc => rfl); refine put_move ?_; go_step)); refine wpList_nil ?_; exact ⟨rfl, rfl⟩
    case hd => rfl
    (refine takeV 4 _ al9 kr9 kr9 kr9 hq9 (V.fieldAddr fo69_0 rfl nq9) rfl ?_)
    go_step
    apply takeS 5 al9 kr9 kr9 kr9 hq9 [6, 7] kr9 (hS.sub sb9)
    case hfr => intro w hS; ((refine wl9 ?_; apply wp_load1 hS 3 _ rfl _ _ rfl (one_of rfl) _; (case hp => exact pl9); (case hc => rfl); refine put_move ?_; go_step)); refine wpList_nil ?_; exact ⟨rfl, rfl⟩
    case hd => rfl
    refine branch1 2 al9 rfl kr9 ?_
    refine wp_callF (f := 39) rfl Tryd.call39 (of_any W _ _ _ gc g1 g2 b hS pl9) ?_; rintro e w ⟨rfl, hE⟩; replace hS := hS.ext hE; clear hE; rw [HGB.out]; refine ⟨_, rfl, ?_⟩
    refine ⟨fun _ _ => hS.sub sb9, ?_⟩
    refine drawn_move ?_
    go_step
    refine branch1 6 al9 rfl kr9 ?_
    refine wp_callF (f := 40) rfl Tryd.call40 (codPut_any W _ _ _ _ gb gw L bs t0 hGL hS pl9 pl9 (by omega)) ?_; clear hS; rintro e w ⟨rfl, hS⟩; rw [HI.out]; refine ⟨_, rfl, ?_⟩
    refine ⟨fun h => absurd (by decide) h, ?_⟩
    refine drawn_move ?_
    go_step
    (refine takeV 7 _ al9 kr9 kr9 kr9 hq9 (V.not rfl) rfl ?_)
    go_step
    refine drawn_done kr9 ?_ _
   all_goals
    repeat' (first
     | ((with_reducible refine gs9 20 ?_); refine wpl_call (f := 41) Tryd.call41 kr9 ?_; refine ⟨_, (put_any W _ _ _ gw (bs ++ wb L t0) k v hS pl9 (by omega) hv (by have := HLen.out; rw [List.length_append]; omega)), ?_⟩; clear hS; rintro e w ⟨rfl, hS⟩; refine ⟨_, rfl, ?_⟩; refine put_move ?_; go_step) | (refine y92 ?_) | (refine y9111 ?_) | (refine y9112 ?_) | (refine y9134 ?_) | (refine y9121 ?_) | ((fail_if_success with_reducible refine ga9 ?_); go_step))
    go_ret
    rw [HR.out]
    refine ⟨rfl, St.close () ?_⟩
    dsimp only [List.cons_append, List.nil_append]
    rw [List.append_assoc] at hS
    exact (HC.out _ _ (hS.sub (xs := cod gb L :: r2 :: blk gc [.pointer (some ⟨g1, 0, none⟩), .pointer (some ⟨g2, 0, none⟩)] :: blk g6 [.pointer (some ⟨gc, 0, none⟩)] :: blk g8 [.pointer (some ⟨gw, 0, none⟩)] :: wr gw (bs ++ (wb L t0 ++ bitsOf k v)) :: rs') sb9)).sub sb9
theorem tkBits_len {L1 L2 : List (Int × Nat × Nat)} (h1 : Good L1) (h2 : Good L2) (t : Tok) (b : Bool) (ht : okT t) : (tkBits L1 L2 (t, b)).length ≤ 28 := by
 obtain ⟨_, h3, _⟩ := ht
 unfold tkBits
 dsimp only
 rw [List.length_append, bitsOf_len]
 have h4 : (wb (if b then L1 else L2) t.1).length ≤ 16 := wb_len (by cases b <;> assumption) _
 omega
theorem encStep_cases (L1 L2 : List (Int × Nat × Nat)) (bs : List Bool) (t : Tok) (b : Bool) : (encStep L1 L2 bs t b).2 = bs ++ tkBits L1 L2 (t, b) ∨ (encStep L1 L2 bs t b).2 = bs := by
 unfold encStep
 by_cases h : (symW (if b then L1 else L2) t.1).isSome = true
 · rw [if_pos h]; exact .inl rfl
 · rw [if_neg h]; exact .inr rfl
theorem enc_res {W w : World} {g6 g8 gc gw : Nat} {L1 L2 : List (Int × Nat × Nat)} {rs : List Res} (h : St W w rs) (s : Sub [blk gw [.slice none 0 0, .int .u64 0, .int .i64 0], blk g6 [.pointer (some ⟨gc, 0, none⟩)], blk g8 [.pointer (some ⟨gw, 0, none⟩)], cdr gc L1 L2] rs) : St W w [encR g6 g8 gc gw L1 L2 []] := by
 have h2 := wr_new (h.sub s)
 refine St.close () ?_
 dsimp only [List.cons_append, List.nil_append]
 exact h2.sub sb9
def encClo (W : World) (g6 g8 gc gw : Nat) (L1 L2 : List (Int × Nat × Nat)) (h1 : Good L1) (h2 : Good L2) : Clo W (List Bool) where
 step := encStep L1 L2
 res := encR g6 g8 gc gw L1 L2
 ok bs m := bs.length + 28 * m ≤ 1000000000
 K := 38
 caps := #[.pointer (some ⟨g6, 0, none⟩), .pointer (some ⟨g8, 0, none⟩)]
 inv := Tryd.call38
 okS s m t b h ht _ := by
  have := tkBits_len h1 h2 t b ht
  rcases encStep_cases L1 L2 s t b with h4 | h4
  · rw [h4, List.length_append]; omega
  · rw [h4]; omega
 okM s m k h hk := by omega
 call w rs rs' s m t0 t1 t2 b er s' hS hp h ht hst := by
  have h3 := encClo_any W w rs rs' g6 g8 gc gw L1 L2 s t0 t1 t2 b h1 h2 hS hp (by omega) ht
  rw [hst] at h3
  exact h3
def segE (C1 S1 C2 S2 l : List Int) (n : Nat) : Int := if tbE C1 S1 C2 S2 = 0 then if blkE l n = 0 then (ech (encStep (wds C1 S1) (wds C2 S2)) (tfl l 0 n) []).1 else blkE l n else tbE C1 S1 C2 S2
def segBits (C1 S1 C2 S2 l : List Int) (n : Nat) : List Bool := (ech (encStep (wds C1 S1) (wds C2 S2)) (tfl l 0 n) []).2
def byI (l : List Nat) : List Int := l.map fun (x : Nat) => (x : Int)
theorem bv_byI (l : List Nat) : bv l = (byI l).map (Value.int .u8) := by simp [bv, byI]
def segB (C1 S1 C2 S2 l : List Int) (n : Nat) : List Int := if segE C1 S1 C2 S2 l n = 0 then stf (byI (bytesOf (segBits C1 S1 C2 S2 l n))) else []
theorem ech_ok {σ : Type} (step : σ → Tok → Bool → Int × σ) (ok : σ → Nat → Prop) (h1 : ∀ s m t b, ok s (m + 1) → okT t → ok (step s t b).2 m) (hm : ∀ s m k, ok s m → k ≤ m → ok s k) : ∀ (T : List (Tok × Bool)) (s : σ) (m : Nat), (∀ x ∈ T, okT x.1) → T.length ≤ m → ok s m → ok (ech step T s).2 0
 | [], s, m, _, _, h => hm s m 0 h (by omega)
 | x :: r, s, m, ht, hl, h => by
  rw [List.length_cons] at hl
  have h2 := h1 s (m - 1) x.1 x.2 (by rw [show m - 1 + 1 = m by omega]; exact h) (ht x (by simp))
  rw [ech]
  split
  · exact ech_ok step ok h1 hm r _ (m - 1) (fun y hy => ht y (by simp [hy])) (by omega) h2
  · exact hm _ _ 0 h2 (by omega)
theorem tfl_okT {l : List Int} {n : Nat} (hl : l.length = n * 64) : ∀ (f k : Nat), k + f ≤ n → (∀ x ∈ tfl l k f, okT x.1) ∧ (tfl l k f).length ≤ 64 * f
 | 0, k, _ => ⟨fun x hx => (by cases hx), by simp [tfl]⟩
 | f + 1, k, h => by
  obtain ⟨h1, h2⟩ := tfl_okT hl f (k + 1) (by omega)
  have hs : (seg l 64 k).length = 64 := seg_len l 64 k n hl (by omega)
  have h3 : ∀ t ∈ tkb l k, okT t := tokL_okT hs
  have h4 : (tkb l k).length ≤ 64 := tokL_le hs
  refine ⟨fun x hx => ?_, by rw [tfl, List.length_append, mark_len]; omega⟩
  rw [tfl] at hx
  rcases List.mem_append.1 hx with hx | hx
  · unfold mark at hx
    split at hx
    · cases hx
    · rename_i t r heq
      rcases List.mem_cons.1 hx with rfl | hx
      · exact h3 t (by rw [heq]; simp)
      · obtain ⟨y, hy, rfl⟩ := List.mem_map.1 hx
        exact h3 y (by rw [heq]; simp [hy])
  · exact h1 x hx
theorem segBits_len {C1 S1 C2 S2 l : List Int} {n : Nat} (h1 : tabE C1 S1 = 0) (h2 : tabE C2 S2 = 0) (hl : l.length = n * 64) (hn : n ≤ 400) : (segBits C1 S1 C2 S2 l n).length ≤ 1000000 := by
 have h3 := ech_ok (encStep (wds C1 S1) (wds C2 S2)) (fun bs m => bs.length + 28 * m ≤ 1000000) (fun s m t b h ht => by
  have := tkBits_len (wds_good h1) (wds_good h2) t b ht
  rcases encStep_cases (wds C1 S1) (wds C2 S2) s t b with h4 | h4
  · rw [h4, List.length_append]; omega
  · rw [h4]; omega) (fun s m k h hk => by omega) (tfl l 0 n) [] 25600 (tfl_okT hl n 0 (by omega)).1 (by have := (tfl_okT hl n 0 (by omega)).2; omega) (by simp)
 unfold segBits
 have h4 : (ech (encStep (wds C1 S1) (wds C2 S2)) (tfl l 0 n) []).2.length + 28 * 0 ≤ 1000000 := h3
 omega
theorem byI_in (bs : List Bool) : ∀ x ∈ byI (bytesOf bs), 0 ≤ x ∧ x < 256 := fun x hx => by
 obtain ⟨y, hy, rfl⟩ := List.mem_map.1 hx
 have := bytesOf_lt bs y hy
 omega
theorem blkE_400 {l : List Int} {n : Nat} (h : blkE l n = 0) : n ≤ 400 := by
 unfold blkE at h
 split at h
 · cases h
 · omega
def SegEnc (w0 : World) (E : Int) (B : List Int) (e : Ending) (w : World) : Prop :=
 ∃ ao c m, B.length = m ∧ e = .returned (.tuple #[.slice ao m c, .int .i64 E]) ∧ St w0 w [own 5 1 ao m c (B.map (Value.int .u8))]
theorem enc_err {w0 w : World} {E : Int} {B : List Int} (E' : Int) (h : E = E') (hB : B = []) (hE : Ext w0 w) : SegEnc w0 E B (.returned (.tuple #[.slice none 0 0, .int .i64 E'])) w := by
 subst h; subst hB
 exact ⟨none, 0, 0, rfl, rfl, (St.of_ext hE).nil _ _⟩
theorem encEach (W w0 : World) (rs rs' : List Res) (g6 g8 gc gw : Nat) (L1 L2 : List (Int × Nat × Nat)) (h1 : Good L1) (h2 : Good L2) (ad : Option Addr) (n c : Nat) (l : List Int) (E : Int) (bs : List Bool) (hE : blkE l n = 0 → ech (encStep L1 L2) (tfl l 0 n) [] = (E, bs)) (hE2 : blkE l n ≠ 0 → blkE l n = E) (hn : n ≤ 9223372036854775807) (hv : Sl W 64 (.slice ad n c) n (l.map (Value.int .i64))) (hS : St W w0 rs) (hp : Pull (encR g6 g8 gc gw L1 L2 []) rs rs') :
 Calls Tryd.prog 34 #[.slice ad n c, .func (.func 38) #[] #[.pointer (some ⟨g6, 0, none⟩), .pointer (some ⟨g8, 0, none⟩)]] w0 fun e w => e = .returned (.int .i64 E) ∧ ∃ s', (E = 0 → s' = bs) ∧ St W w (encR g6 g8 gc gw L1 L2 s' :: rs') := by
 refine (each_any (encClo W g6 g8 gc gw L1 L2 h1 h2) w0 rs rs' [] ad n c l hn hv hS hp (by show (0 + 28 * 25600 ≤ 1000000000); omega)).mono ?_
 rintro e w ⟨s', hs', rfl, hS⟩
 by_cases h0 : blkE l n = 0
 · have h3 : ech (encClo W g6 g8 gc gw L1 L2 h1 h2).step (tfl l 0 n) [] = (E, bs) := hE h0
   rw [h3] at hs' ⊢
   rw [if_pos h0]
   exact ⟨rfl, s', fun _ => hs' h0, hS⟩
 · rw [if_neg h0, hE2 h0]
   exact ⟨rfl, s', fun h => absurd ((hE2 h0).trans h) h0, hS⟩
set_option maxHeartbeats 8000000 in
theorem segEncode_any (w0 : World) (C1 C2 S1 S2 : List Int) (a1 a2 : Option Addr) (n1 n2 k1 k2 : Nat) (hC1 : Len C1 16) (hC2 : Len C2 16) (hs1 : Sl w0 1 (.slice a1 n1 k1) n1 (S1.map (Value.int .i64))) (hs2 : Sl w0 1 (.slice a2 n2 k2) n2 (S2.map (Value.int .i64))) (hn1 : n1 ≤ 9223372036854775807) (hn2 : n2 ≤ 9223372036854775807) (ad : Option Addr) (n c : Nat) (l : List Int) (hn : n ≤ 9223372036854775807) (hv : Sl w0 64 (.slice ad n c) n (l.map (Value.int .i64))) :
 Calls Tryd.prog 18 #[.agg (pcells [.ints C1, .val (.slice a1 n1 k1), .ints C2, .val (.slice a2 n2 k2)]).toArray, .slice ad n c] w0 (SegEnc w0 (segE C1 S1 C2 S2 l n) (segB C1 S1 C2 S2 l n)) := by
 have hl : l.length = n * 64 := by have := hv.1; simpa using this
 have HLl := hid hl
 have hS := St.start w0
 by_cases hT : tbE C1 S1 C2 S2 = 0
 case neg =>
  obtain ⟨E, hE⟩ : ∃ E, tbE C1 S1 C2 S2 = E := ⟨_, rfl⟩
  have h0 : E ≠ 0 := by rw [← hE]; exact hT
  have HE := hid hE
  have HR := hid (show segE C1 S1 C2 S2 l n = E by unfold segE; rw [if_neg hT]; exact hE)
  have HB := hid (show segB C1 S1 C2 S2 l n = [] by unfold segB; rw [if_neg (by rw [HR.out]; exact h0)])
  clear hE hT hl
  go_enter Tryd.func18, Tryd.ntmps18
  repeat' (first
   | ((with_reducible refine gs9 11 ?_); refine wpl_call (f := 37) Tryd.call37 kr9 ?_; refine ⟨_, (made_bad _ C1 C2 S1 S2 a1 a2 n1 n2 k1 k2 hC1 hC2 (hs1.ext hS.1) (hs2.ext hS.1) hn1 hn2 E HE.out h0), ?_⟩; rintro e w ⟨rfl, hE2⟩; replace hS := hS.ext hE2; clear hE2; refine ⟨_, rfl, ?_⟩; refine put_move ?_; go_step) | (refine y91 ?_) | (refine y9105 ?_) | (refine y991 ?_) | ((with_reducible refine gs9 2 ?_); (refine wl9 ?_; apply wp_boxP (o := ⟨some 2, _, _, _, _, _⟩) hS 33 _ rfl _ rfl; clear hS; intro g2 w hS; refine put_move ?_; go_step)) | (refine y9127 ?_) | ((with_reducible refine gs9 6 ?_); (refine wl9 ?_; apply wp_alloc (o := ⟨some 6, _, _, _, _, _⟩) hS 72 rfl (.pointer none) [.pointer none] (fun w => Tryd.zeroValue72 w) rfl; clear hS; intro g6 w hS; refine put_move ?_; go_step)) | ((with_reducible refine gt9 _ (.store 72 _ _) ?_); (refine wl9 ?_; apply wp_store1 hS 72 _ _ rfl _ _ rfl (one_of rfl) _ _; (case hp => exact pl9); (case hy => exact isv9); (case hv => rfl); (case hc => (repeat (first | with_reducible exact SetAt.head | apply SetAt.tail))); (case hd => exact rfl); clear hS; intro w hS)) | ((fail_if_success with_reducible refine ga9 ?_); go_step))
  all_goals (try (have hF : False := (by omega); cases hF))
  refine ret_all (xs := [_, _]) rfl (.cons (OneRes.tmp rfl) (.cons (OneRes.tmp rfl) (.nil))) (by simp) rfl ?_
  exact enc_err E HR.out HB.out hS.1
 have hT1 : tabE C1 S1 = 0 := by
  unfold tbE at hT
  split at hT
  · assumption
  · assumption
 have hT2 : tabE C2 S2 = 0 := by
  unfold tbE at hT
  rw [if_pos hT1] at hT; exact hT
 obtain ⟨⟨E, bs⟩, hech⟩ : ∃ y, (if blkE l n = 0 then ech (encStep (wds C1 S1) (wds C2 S2)) (tfl l 0 n) [] else (blkE l n, [])) = y := ⟨_, rfl⟩
 have HA := hid (show blkE l n = 0 → ech (encStep (wds C1 S1) (wds C2 S2)) (tfl l 0 n) [] = (E, bs) from fun h => by rw [if_pos h] at hech; exact hech)
 have HA2 := hid (show blkE l n ≠ 0 → blkE l n = E from fun h => by rw [if_neg h] at hech; exact congrArg Prod.fst hech)
 have HR := hid (show segE C1 S1 C2 S2 l n = E by
  unfold segE
  rw [if_pos hT]
  by_cases h0 : blkE l n = 0
  · rw [if_pos h0, HA.out h0]
  · rw [if_neg h0]; exact HA2.out h0)
 have HG1 := hid (wds_good hT1)
 have HG2 := hid (wds_good hT2)
 have HT1 := hid hT1
 have HT2 := hid hT2
 clear hT hech
 by_cases h0 : E = 0
 case neg =>
  have HB := hid (show segB C1 S1 C2 S2 l n = [] by unfold segB; rw [if_neg (by rw [HR.out]; exact h0)])
  clear hl hT1 hT2
  go_enter Tryd.func18, Tryd.ntmps18
  repeat' (first
   | ((with_reducible refine gs9 11 ?_); refine wpl_call (f := 37) Tryd.call37 kr9 ?_; refine ⟨_, (made_ok _ C1 C2 S1 S2 a1 a2 n1 n2 k1 k2 hC1 hC2 (hs1.ext hS.1) (hs2.ext hS.1) hn1 hn2 HT1.out HT2.out), ?_⟩; rintro e w ⟨gc, rfl, hS2⟩; replace hS := hS.call1 hS2; clear hS2; refine ⟨_, rfl, ?_⟩; refine put_move ?_; go_step) | (refine y91 ?_) | (refine y9105 ?_) | (refine y991 ?_) | ((with_reducible refine gs9 2 ?_); (refine wl9 ?_; apply wp_boxP (o := ⟨some 2, _, _, _, _, _⟩) hS 33 _ rfl _ rfl; clear hS; intro g2 w hS; refine put_move ?_; go_step)) | (refine y9127 ?_) | ((with_reducible refine gs9 6 ?_); (refine wl9 ?_; apply wp_alloc (o := ⟨some 6, _, _, _, _, _⟩) hS 72 rfl (.pointer none) [.pointer none] (fun w => Tryd.zeroValue72 w) rfl; clear hS; intro g6 w hS; refine put_move ?_; go_step)) | ((with_reducible refine gt9 _ (.store 72 _ _) ?_); (refine wl9 ?_; apply wp_store1 hS 72 _ _ rfl _ _ rfl (one_of rfl) _ _; (case hp => exact pl9); (case hy => exact isv9); (case hv => rfl); (case hc => (repeat (first | with_reducible exact SetAt.head | apply SetAt.tail))); (case hd => exact rfl); clear hS; intro w hS)) | ((fail_if_success with_reducible refine ga9 ?_); go_step))
  all_goals (try (have hF : False := (by omega); cases hF))
  repeat' (first
   | (refine y943 ?_) | ((with_reducible refine gs9 21 ?_); refine wpl_call (f := 34) Tryd.call34 kr9 ?_; refine ⟨_, (encEach w0 w _ _ g6 g8 gc g18 _ _ HG1.out HG2.out ad n c l E bs HA.out HA2.out hn hv (enc_res hS sb9) Pull.head), ?_⟩; clear hS; rintro e w ⟨rfl, s', hs', hS⟩; clear hs'; refine ⟨_, rfl, ?_⟩; refine put_move ?_; go_step) | (refine y91 ?_) | ((with_reducible refine gs9 17 ?_); (refine wvv9 (V.build (vs := []) rfl (bl78_)) ?_; go_step)) | (refine y991 ?_) | ((with_reducible refine gs9 18 ?_); (refine wl9 ?_; apply wp_boxG (o := ⟨some 18, _, _, _, _, _⟩) hS 78 _ rfl _ rfl; clear hS; intro g18 w hS; refine put_move ?_; go_step)) | ((with_reducible refine gs9 8 ?_); (refine wl9 ?_; apply wp_alloc (o := ⟨some 8, _, _, _, _, _⟩) hS 75 rfl (.pointer none) [.pointer none] (fun w => Tryd.zeroValue75 w) rfl; clear hS; intro g8 w hS; refine put_move ?_; go_step)) | ((with_reducible refine gt9 _ (.store 75 _ _) ?_); (refine wl9 ?_; apply wp_store1 hS 75 _ _ rfl _ _ rfl (one_of rfl) _ _; (case hp => exact pl9); (case hy => exact isv9); (case hv => rfl); (case hc => (repeat (first | with_reducible exact SetAt.head | apply SetAt.tail))); (case hd => exact rfl); clear hS; intro w hS)) | ((fail_if_success with_reducible refine ga9 ?_); go_step))
  all_goals (try (have hF : False := (by omega); cases hF))
  refine ret_all (xs := [_, _]) rfl (.cons (OneRes.tmp rfl) (.cons (OneRes.tmp rfl) (.nil))) (by simp) rfl ?_
  exact enc_err E HR.out HB.out hS.1
 subst h0
 have hz : blkE l n = 0 := by
  by_cases h0 : blkE l n = 0
  · exact h0
  · exact HA2.out h0
 have hbs : segBits C1 S1 C2 S2 l n = bs := by unfold segBits; rw [HA.out hz]
 have hbl : bs.length ≤ 1000000 := by rw [← hbs]; exact segBits_len hT1 hT2 hl (blkE_400 hz)
 have HB := hid (show segB C1 S1 C2 S2 l n = stf (byI (bytesOf bs)) by unfold segB; rw [if_pos HR.out, hbs])
 have hbyl : (byI (bytesOf bs)).length = (bs.length + 7) / 8 := by unfold byI; rw [List.length_map, bytesOf_len]
 have HBI := hid (byI_in bs)
 have HBV := hid (bv_byI (bytesOf bs))
 clear hl hT1 hT2 hbs hz
 go_enter Tryd.func18, Tryd.ntmps18
 repeat' (first
  | ((with_reducible refine gs9 11 ?_); refine wpl_call (f := 37) Tryd.call37 kr9 ?_; refine ⟨_, (made_ok _ C1 C2 S1 S2 a1 a2 n1 n2 k1 k2 hC1 hC2 (hs1.ext hS.1) (hs2.ext hS.1) hn1 hn2 HT1.out HT2.out), ?_⟩; rintro e w ⟨gc, rfl, hS2⟩; replace hS := hS.call1 hS2; clear hS2; refine ⟨_, rfl, ?_⟩; refine put_move ?_; go_step) | (refine y91 ?_) | (refine y9105 ?_) | (refine y991 ?_) | ((with_reducible refine gs9 2 ?_); (refine wl9 ?_; apply wp_boxP (o := ⟨some 2, _, _, _, _, _⟩) hS 33 _ rfl _ rfl; clear hS; intro g2 w hS; refine put_move ?_; go_step)) | (refine y9127 ?_) | ((with_reducible refine gs9 6 ?_); (refine wl9 ?_; apply wp_alloc (o := ⟨some 6, _, _, _, _, _⟩) hS 72 rfl (.pointer none) [.pointer none] (fun w => Tryd.zeroValue72 w) rfl; clear hS; intro g6 w hS; refine put_move ?_; go_step)) | ((with_reducible refine gt9 _ (.store 72 _ _) ?_); (refine wl9 ?_; apply wp_store1 hS 72 _ _ rfl _ _ rfl (one_of rfl) _ _; (case hp => exact pl9); (case hy => exact isv9); (case hv => rfl); (case hc => (repeat (first | with_reducible exact SetAt.head | apply SetAt.tail))); (case hd => exact rfl); clear hS; intro w hS)) | ((fail_if_success with_reducible refine ga9 ?_); go_step))
 all_goals (try (have hF : False := (by omega); cases hF))
 repeat' (first
  | (refine y943 ?_) | ((with_reducible refine gs9 21 ?_); refine wpl_call (f := 34) Tryd.call34 kr9 ?_; refine ⟨_, (encEach w0 w _ _ g6 g8 gc g18 _ _ HG1.out HG2.out ad n c l 0 bs HA.out HA2.out hn hv (enc_res hS sb9) Pull.head), ?_⟩; clear hS; rintro e w ⟨rfl, s', hs', hS⟩; obtain rfl := hs' rfl; clear hs'; obtain ⟨_, hS⟩ := hS.open; dsimp only [List.cons_append, List.nil_append] at hS; refine ⟨_, rfl, ?_⟩; refine put_move ?_; go_step) | (refine y91 ?_) | ((with_reducible refine gs9 17 ?_); (refine wvv9 (V.build (vs := []) rfl (bl78_)) ?_; go_step)) | (refine y991 ?_) | ((with_reducible refine gs9 18 ?_); (refine wl9 ?_; apply wp_boxG (o := ⟨some 18, _, _, _, _, _⟩) hS 78 _ rfl _ rfl; clear hS; intro g18 w hS; refine put_move ?_; go_step)) | ((with_reducible refine gs9 8 ?_); (refine wl9 ?_; apply wp_alloc (o := ⟨some 8, _, _, _, _, _⟩) hS 75 rfl (.pointer none) [.pointer none] (fun w => Tryd.zeroValue75 w) rfl; clear hS; intro g8 w hS; refine put_move ?_; go_step)) | ((with_reducible refine gt9 _ (.store 75 _ _) ?_); (refine wl9 ?_; apply wp_store1 hS 75 _ _ rfl _ _ rfl (one_of rfl) _ _; (case hp => exact pl9); (case hy => exact isv9); (case hv => rfl); (case hc => (repeat (first | with_reducible exact SetAt.head | apply SetAt.tail))); (case hd => exact rfl); clear hS; intro w hS)) | ((fail_if_success with_reducible refine ga9 ?_); go_step))
 all_goals (try (have hF : False := (by omega); cases hF))
 repeat' (first
  | ((with_reducible refine gs9 26 ?_); refine wpl_call (f := 42) Tryd.call42 kr9 ?_; refine ⟨_, (bytes_any w0 _ _ _ g18 s' hS pl9 (by omega)), ?_⟩; clear hS; rintro e w ⟨ab, cb, rfl, hS⟩; rw [HBV.out] at hS; refine ⟨_, rfl, ?_⟩; refine put_move ?_; go_step) | ((with_reducible refine gs9 27 ?_); refine wpl_call (f := 33) Tryd.call33 kr9 ?_; refine ⟨_, (stuff_any _ ab _ cb (byI (bytesOf s')) (hS.sl pl9) (fun h => own_nil hS Pull.head h) HBI.out (by omega)), ?_⟩; rintro e w ⟨ao, co, rfl, hS2⟩; replace hS := hS.call1 hS2; clear hS2; refine ⟨_, rfl, ?_⟩; refine put_move ?_; go_step) | (refine y92 ?_) | (refine y9134 ?_) | ((fail_if_success with_reducible refine ga9 ?_); go_step))
 refine ret_all (xs := [_, _]) rfl (.cons (OneRes.tmp rfl) (.cons (OneRes.tmp rfl) (.nil))) (by simp) rfl ?_
 refine ⟨ao, co, _, by rw [HB.out], by rw [HR.out]; rfl, ?_⟩
 rw [HB.out]
 exact hS.sub sb9

set_option maxRecDepth 100000
set_option linter.unusedVariables false
def rdo (g : Nat) (ad : Option Addr) (n c i : Nat) (l : List Nat) : Res := star [rd g ad n c i, own 5 1 ad n c (bv l)]
def GetOwn (W : World) (rs : List Res) (g : Nat) (ad : Option Addr) (n c i m : Nat) (l : List Nat) (e : Ending) (w : World) : Prop :=
 (8 * n < i + m → e = .returned (.tuple #[.int .i64 0, .bool false]) ∧ St W w (rdo g ad n c i l :: rs)) ∧
 (i + m ≤ 8 * n → e = .returned (.tuple #[.int .i64 (numAt l i m : Nat), .bool true]) ∧ St W w (rdo g ad n c (i + m) l :: rs))
set_option maxHeartbeats 4000000 in
theorem get_own (W w0 : World) (rs rs' : List Res) (g n c i m : Nat) (ad : Option Addr) (l : List Nat) (hS : St W w0 rs) (hp : Pull (rdo g ad n c i l) rs rs') (hl : ∀ x ∈ l, x < 256) (hn : n ≤ 1000000000000000000) (hi : i ≤ 8 * n) (hm : m ≤ 60) :
 Calls Tryd.prog 51 #[.pointer (some ⟨g, 0, none⟩), .int .i64 m] w0 (GetOwn W rs' g ad n c i m l) := by
 obtain ⟨_, hS⟩ := (hS.pull hp).open
 dsimp only [List.cons_append, List.nil_append] at hS
 have hll : l.length = n := by have := hS.ownLen (.tail .head); simpa [bv] using this
 have HLt := hid hl
 have HLen := hid hll
 clear hl hll
 by_cases hb : 8 * n < i + m
 · have c0 : w0.cell? ⟨g, 0, none⟩ = some (.slice ad n c) := by rw [(hS.blk Pull.head).1.cell]; rfl
   have c1 : w0.cell? ⟨g, 1, none⟩ = some (.int .i64 (i : Nat)) := by rw [(hS.blk Pull.head).1.cell]; rfl
   have HL := hid (left_any w0 g n c i ad c0 c1 hn hi)
   clear c0 c1
   go_enter Tryd.func51, Tryd.ntmps51
   repeat' (first
    | ((with_reducible refine gt9 _ (.call ⟨.value (.func 50), _, _⟩) ?_); refine wpl_call (f := 50) Tryd.call50 kr9 ?_; refine ⟨_, (HL.out), ?_⟩; rintro e w ⟨rfl, hE⟩; replace hS := hS.ext hE; clear hE; refine ⟨_, rfl, ?_⟩; refine put_move ?_; go_step) | (refine y91 ?_) | (refine y988 ?_) | ((fail_if_success with_reducible refine ga9 ?_); go_step))
   go_ret2
   exact ⟨fun _ => ⟨rfl, St.close () (by dsimp only [List.cons_append, List.nil_append]; exact hS)⟩, fun h => absurd h (by omega)⟩
 · have hb2 : i + m ≤ 8 * n := by omega
   have c0 : w0.cell? ⟨g, 0, none⟩ = some (.slice ad n c) := by rw [(hS.blk Pull.head).1.cell]; rfl
   have c1 : w0.cell? ⟨g, 1, none⟩ = some (.int .i64 (i : Nat)) := by rw [(hS.blk Pull.head).1.cell]; rfl
   have HL := hid (left_any w0 g n c i ad c0 c1 hn hi)
   clear c0 c1
   go_enter Tryd.func51, Tryd.ntmps51
   repeat' (first
    | ((with_reducible refine gt9 _ (.call ⟨.value (.func 50), _, _⟩) ?_); refine wpl_call (f := 50) Tryd.call50 kr9 ?_; refine ⟨_, (HL.out), ?_⟩; rintro e w ⟨rfl, hE⟩; replace hS := hS.ext hE; clear hE; refine ⟨_, rfl, ?_⟩; refine put_move ?_; go_step) | (refine y91 ?_) | (refine y988 ?_) | ((fail_if_success with_reducible refine ga9 ?_); go_step))
   go_loopg [6, 12] m (fun gk nv kv w => ∃ (k : Nat), gk + k = m ∧ kv = .int .i64 k ∧ nv = .int .i64 (numAt l i k : Nat) ∧ St W w (rd g ad n c (i + k) :: own 5 1 ad n c (bv l) :: rs'))
   case atStart => exact ⟨0, rfl, rfl, rfl, hS⟩
   case round =>
    clear hS
    obtain ⟨k, hk, rfl, rfl, hS⟩ := hrel
    by_cases hlt : k < m
    · have hN : numAt l i k < 4611686018427387904 := by
       refine Nat.lt_of_lt_of_le (numAt_lt l i k) ?_
       exact Nat.le_trans (Nat.pow_le_pow_right (n := 2) (by omega) (show k ≤ 62 by omega)) (by decide)
      have HOr := hid (or_bit (numAt l i k) (bitAt l (i + k)) hN (Nat.mod_lt _ (by omega)))
      have HOr2 := hid (or_bit2 (numAt l i k) (bitAt l (i + k)) hN (Nat.mod_lt _ (by omega)))
      have HAnd := hid (bit_and l (i + k) HLt.out)
      have HSucc := hid (numAt_succ l i k (by rw [HLen.out]; omega))
      have hbit : bitAt l (i + k) < 2 := Nat.mod_lt _ (by omega)
      have h8 : (i + k) / 8 < n := by omega
      unfold rd at hS
      obtain ⟨b, rfl⟩ := own_some (a := ad) hS pl9 (by omega)
      have hcell : (bv l)[(i + k) / 8]? = some (.int .u8 ((l.getD ((i + k) / 8) 0 : Nat) : Int)) := by
       unfold bv
       rw [List.getElem?_map, List.getElem?_eq_getElem (by rw [HLen.out]; exact h8)]
       simp [List.getD, HLen.out, h8]
      clear HL
      repeat' (first
       | (refine y990 ?_) | ((fail_if_success with_reducible refine ga9 ?_); go_step))
      refine drawn_lit [] (fun w => St W w (blk g [.slice (some ⟨b, 0, none⟩) n c, .int .i64 ((i + k : Nat) : Int)] :: own 5 1 (some ⟨b, 0, none⟩) n c (bv l) :: rs')) kr9 ?_
      replace hS := hS.drew
      focus
       refine takeM 0 _ al9 kr9 kr9 kr9 hq9 rfl ?_
       go_step
       (refine takeV 1 _ al9 kr9 kr9 kr9 hq9 (V.shlI rfl rfl isn9 (by omega) (by omega)) rfl ?_)
       go_step
       refine takeM 2 _ al9 kr9 kr9 kr9 hq9 rfl ?_
       go_step
       (refine takeV 3 _ al9 kr9 kr9 kr9 hq9 (V.nilCheck rfl) rfl ?_)
       go_step
       (refine takeV 4 _ al9 kr9 kr9 kr9 hq9 (V.fieldAddr fo140_0 rfl nq9) rfl ?_)
       go_step
       apply takeS 5 al9 kr9 kr9 kr9 hq9 [11, 12, 19, 20, 21, 22, 23] kr9 (hS.sub sb9)
       case hfr => intro w hS; ((refine wl9 ?_; apply wp_load1 hS 34 _ rfl _ _ rfl (one_of rfl) _; (case hp => exact pl9); (case hc => rfl); refine put_move ?_; go_step)); refine wpList_nil ?_; exact ⟨rfl, rfl⟩
       case hd => rfl
       refine takeM 6 _ al9 kr9 kr9 kr9 hq9 rfl ?_
       go_step
       (refine takeV 7 _ al9 kr9 kr9 kr9 hq9 (V.nilCheck rfl) rfl ?_)
       go_step
       (refine takeV 8 _ al9 kr9 kr9 kr9 hq9 (V.fieldAddr fo140_1 rfl nq9) rfl ?_)
       go_step
       apply takeS 9 al9 kr9 kr9 kr9 hq9 [10, 11, 12, 19, 20, 21, 22, 23] kr9 (hS.sub sb9)
       case hfr => intro w hS; ((refine wl9 ?_; apply wp_load1 hS 3 _ rfl _ _ rfl (one_of rfl) _; (case hp => exact pl9); (case hc => rfl); refine put_move ?_; go_step)); refine wpList_nil ?_; exact ⟨rfl, rfl⟩
       case hd => rfl
       (refine takeV 10 _ al9 kr9 kr9 kr9 hq9 (V.quo rfl rfl (by omega) (by omega)) rfl ?_)
       go_step
       (refine takeV 11 _ al9 kr9 kr9 kr9 hq9 (V.indexSl Tryd.underlying34 isz5 rfl rfl isn9 (by omega) (Nat.mul_one _) nq9) rfl ?_)
       go_step
       apply takeS 12 al9 kr9 kr9 kr9 hq9 [19, 20, 21, 22, 23] kr9 (hS.sub sb9)
       case hfr => intro w hS; ((refine wl9 ?_; apply wp_load1O hS 5 _ rfl _ _ rfl (one_of rfl) _ _ _ _ _; (case hp => exact pl9); (case hv => with_reducible assumption); refine put_move ?_; go_step)); refine wpList_nil ?_; exact ⟨rfl, rfl⟩
       case hd => rfl
       refine takeM 13 _ al9 kr9 kr9 kr9 hq9 rfl ?_
       go_step
       (refine takeV 14 _ al9 kr9 kr9 kr9 hq9 (V.nilCheck rfl) rfl ?_)
       go_step
       (refine takeV 15 _ al9 kr9 kr9 kr9 hq9 (V.fieldAddr fo140_1 rfl nq9) rfl ?_)
       go_step
       apply takeS 16 al9 kr9 kr9 kr9 hq9 [17, 18, 19, 20, 21, 22, 23] kr9 (hS.sub sb9)
       case hfr => intro w hS; ((refine wl9 ?_; apply wp_load1 hS 3 _ rfl _ _ rfl (one_of rfl) _; (case hp => exact pl9); (case hc => rfl); refine put_move ?_; go_step)); refine wpList_nil ?_; exact ⟨rfl, rfl⟩
       case hd => rfl
       (refine takeV 17 _ al9 kr9 kr9 kr9 hq9 (V.rem rfl rfl (by omega) (by omega)) rfl ?_)
       go_step
       (refine takeV 18 _ al9 kr9 kr9 kr9 hq9 (V.subI rfl rfl (by omega)) rfl ?_)
       go_step
       (refine takeV 19 _ al9 kr9 kr9 kr9 hq9 (V.shrB (N := 8) rfl rfl isn9 (by omega) rfl) rfl ?_)
       go_step
       (refine takeV 20 (.int _ (((bitAt l (i + k) : Nat) : Int))) al9 kr9 kr9 kr9 hq9 (V.as (V.and rfl rfl) (by exact HAnd.out)) rfl ?_)
       go_step
       (refine takeV 21 _ al9 kr9 kr9 kr9 hq9 (V.convI (by rw [Tryd.underlying5]; rfl) Tryd.underlying3 rfl (IntWalk.i64_in _ (by omega))) rfl ?_)
       go_step
       (refine takeV 22 (.int _ (((2 * numAt l i k + bitAt l (i + k) : Nat) : Int))) al9 kr9 kr9 kr9 hq9 (V.as (V.or rfl rfl) (by exact HOr2.out)) rfl ?_)
       go_step
       refine takeA 23 _ al9 kr9 kr9 kr9 hq9 rfl ?_
       go_step
       refine drawn_done kr9 ?_ _
      repeat' (first
       | (refine y9146 ?_) | (refine y9138 ?_) | ((with_reducible refine gt9 _ (.fieldAddr 140 _ 1) ?_); (refine wvv9 (V.fieldAddr fo140_1 rfl nq9) ?_; go_step)) | (refine y985 ?_) | (refine y9121 ?_) | ((with_reducible refine gt9 _ (.store 3 _ _) ?_); (refine wl9 ?_; apply wp_store1 hS 3 _ _ rfl _ _ rfl (one_of rfl) _ _; (case hp => exact pl9); (case hy => exact isv9); (case hv => rfl); (case hc => (repeat (first | with_reducible exact SetAt.head | apply SetAt.tail))); (case hd => exact rfl); clear hS; intro w hS)) | ((fail_if_success with_reducible refine ga9 ?_); go_step))
      go_roundg (gk - 1)
      case measure => omega
      case rel => exact ⟨k + 1, by omega, by go_num, by rw [HSucc.out], by unfold rd; exact hS⟩
    · obtain rfl : k = m := by omega
      repeat' (first
       | (refine y91 ?_) | (refine y990 ?_) | ((fail_if_success with_reducible refine ga9 ?_); go_step))
      go_ret2
      exact ⟨fun h => absurd h (by omega), fun _ => ⟨rfl, St.close () (by dsimp only [List.cons_append, List.nil_append]; exact hS)⟩⟩
theorem rdo_len {W w0 : World} {rs rs' rs2 : List Res} {r : Res} {g n c i : Nat} {ad : Option Addr} {l : List Nat} (hS : St W w0 rs) (hp : Pull r rs rs') (hp2 : Pull (rdo g ad n c i l) rs' rs2) : l.length = n := by
 obtain ⟨_, h⟩ := ((hS.pull hp).drop.pull hp2).open
 have := h.ownLen (.tail .head)
 simpa [bv] using this
set_option maxRecDepth 100000 in
set_option maxHeartbeats 4000000 in
theorem codGet_own (W w0 : World) (rs rs' rs2 : List Res) (g g2 n c i : Nat) (ad : Option Addr) (L : List (Int × Nat × Nat)) (l : List Nat) (hS : St W w0 rs) (hp : Pull (cod g L) rs rs') (hp2 : Pull (rdo g2 ad n c i l) rs' rs2)
 (hl : ∀ x ∈ l, x < 256) (hn : n ≤ 1000000000000000000) (hi : i ≤ 8 * n) :
 Calls Tryd.prog 131 #[.pointer (some ⟨g, 0, none⟩), .pointer (some ⟨g2, 0, none⟩)] w0 fun e w => e = .returned (.tuple #[.int .i64 (gtW L l i 16 0).1, .int .i64 (gtW L l i 16 0).2.1]) ∧ (gtW L l i 16 0).2.2 ≤ 8 * n ∧ St W w (cod g L :: rdo g2 ad n c (gtW L l i 16 0).2.2 l :: rs2) := by
 have hll : l.length = n := rdo_len hS hp hp2
 obtain ⟨⟨m1, m2⟩, hS⟩ := (hS.pull hp).open
 dsimp only [List.cons_append, List.nil_append] at hS
 have hp3 : Pull (rdo g2 ad n c i l) (blk g [.map (some m1), .map (some m2)] :: mp ik m1 (symF L) :: mp pk m2 (codF L) :: rs') (blk g [.map (some m1), .map (some m2)] :: mp ik m1 (symF L) :: mp pk m2 (codF L) :: rs2) := .tail (.tail (.tail hp2))
 replace hS := hS.pull hp3
 have HLt := hid hl
 have HLl := hid hll
 clear hl hll hp hp2 hp3
 obtain ⟨R, hR⟩ : ∃ R, gtW L l i 16 0 = R := ⟨_, rfl⟩
 rw [hR]
 have HR := hid hR
 clear hR
 go_enter Tryd.func131, Tryd.ntmps131
 repeat' (first
  | (refine y92 ?_) | ((fail_if_success with_reducible refine ga9 ?_); go_step))
 go_loopg [6, 7] 16 (fun gk cv kv w => ∃ d : Nat, gk + d = 16 ∧ kv = .int .i64 ((d : Int) + 1) ∧ cv = .int .i64 (numAt l i d : Nat) ∧ i + d ≤ 8 * n ∧ Hid (gtW L l i gk d = R) ∧ St W w (rdo g2 ad n c (i + d) l :: blk g [.map (some m1), .map (some m2)] :: mp ik m1 (symF L) :: mp pk m2 (codF L) :: rs2))
 case atStart => exact ⟨0, rfl, rfl, by rw [show numAt l i 0 = 0 by unfold numAt; rw [List.take_zero]; rfl]; rfl, hi, HR, hS⟩
 case round =>
  clear hS
  obtain ⟨d, hd, rfl, rfl, hid2, HG, hS⟩ := hrel
  by_cases hlt : d < 16
  · obtain ⟨gk', rfl⟩ : ∃ k, gk = k + 1 := ⟨gk - 1, by omega⟩
    have hg := HG.out
    rw [gtW, HLl.out] at hg
    by_cases hsh : 8 * n < i + d + 1
    · rw [if_pos (by omega)] at hg
      have HG2 := hid hg
      clear hg HG
      repeat' (first
       | ((with_reducible refine gs9 18 ?_); refine wpl_call (f := 51) Tryd.call51 kr9 ?_; refine ⟨_, (get_own W _ _ _ g2 n c (i + d) 1 ad l hS pl9 HLt.out hn hid2 (by omega)), ?_⟩; rintro e w ⟨hG, _⟩; obtain ⟨rfl, hS2⟩ := hG (by omega); clear hG hS; have hS := hS2; clear hS2; refine ⟨_, rfl, ?_⟩; refine put_move ?_; go_step) | (refine y91 ?_) | (refine y989 ?_) | (refine y9105 ?_) | (refine y9145 ?_) | ((fail_if_success with_reducible refine ga9 ?_); go_step))
      refine ret_all (xs := [_, _]) rfl (.cons (OneRes.tmp rfl) (.cons (OneRes.tmp rfl) (.nil))) (by simp) rfl ?_
      rw [← HG2.out]
      refine ⟨rfl, hid2, St.close (m1, m2) ?_⟩
      exact hS.sub sb9
    · rw [if_neg (by omega)] at hg
      have HCat := hid (numAt_cat l i d (by rw [HLl.out]; omega))
      have hb1 : numAt l (i + d) 1 < 2 := numAt_lt l (i + d) 1
      have hN : numAt l i d < 65536 := Nat.lt_of_lt_of_le (numAt_lt l i d) (Nat.pow_le_pow_right (n := 2) (j := 16) (by omega) (by omega))
      obtain ⟨N1, hN1⟩ : ∃ x, numAt l i (d + 1) = x := ⟨_, rfl⟩
      rw [hN1] at hg HCat
      have HN1 := hid hN1
      clear hN1
      have HOr := hid (or_bit2 (numAt l i d) (numAt l (i + d) 1) (by omega) hb1)
      rw [← HCat.out] at HOr
      cases hc : codW L (((d + 1 : Nat) : Int), (N1 : Int)) with
      | some s =>
       rw [hc] at hg
       dsimp only at hg
       have HG2 := hid hg
       have hf : codF L ((d : Int) + 1, (N1 : Int)) = some (.int .i64 s) := by
        unfold codF; rw [show (d : Int) + 1 = ((d + 1 : Nat) : Int) by omega, hc]; rfl
       clear hg HG hc
       repeat' (first
        | ((with_reducible refine gs9 18 ?_); refine wpl_call (f := 51) Tryd.call51 kr9 ?_; refine ⟨_, (get_own W _ _ _ g2 n c (i + d) 1 ad l hS pl9 HLt.out hn hid2 (by omega)), ?_⟩; rintro e w ⟨_, hG⟩; obtain ⟨rfl, hS2⟩ := hG (by omega); clear hG hS; have hS := hS2; clear hS2; refine ⟨_, rfl, ?_⟩; refine put_move ?_; go_step) | (refine y948 ?_) | (refine y91 ?_) | (refine y989 ?_) | (refine y9105 ?_) | (refine y9145 ?_) | (refine y994 ?_) | (refine y9138 ?_) | ((with_reducible refine gt9 _ (.fieldAddr 125 _ 1) ?_); (refine wvv9 (V.fieldAddr fo125_1 rfl nq9) ?_; go_step)) | ((with_reducible refine gs9 34 ?_); (refine wvv9 (V.build (vs := [(0, _), (1, _)]) rfl (bl154_0_1 _ _)) ?_; go_step)) | (refine y9116 ?_) | ((with_reducible refine gs9 35 ?_); (refine wl9 ?_; apply wp_lookupS2 (enc := pk) hS 123 _ _ rfl _ rfl (_, _) rfl Tryd.underlying123 (keyLaw_pair Tryd.underlying154 Tryd.underlying3 isz3) (.int .i64 0) (fun w => Tryd.zeroValue3 w) _; (case hp => exact pl9); (case hf => with_reducible assumption); refine put_move ?_; go_step)) | ((fail_if_success with_reducible refine ga9 ?_); go_step))
       refine ret_all (xs := [_, _]) rfl (.cons (OneRes.tmp rfl) (.cons (OneRes.tmp rfl) (.nil))) (by simp) rfl ?_
       rw [← HG2.out]
       refine ⟨rfl, by show i + (d + 1) ≤ 8 * n; omega, St.close (m1, m2) ?_⟩
       dsimp only
       rw [show i + d + 1 = i + (d + 1) by omega] at hS
       exact hS.sub sb9
      | none =>
       rw [hc] at hg
       dsimp only at hg
       have HG2 := hid hg
       have hf : codF L ((d : Int) + 1, (N1 : Int)) = none := by
        unfold codF; rw [show (d : Int) + 1 = ((d + 1 : Nat) : Int) by omega, hc]; rfl
       clear hg HG hc
       repeat' (first
        | ((with_reducible refine gs9 18 ?_); refine wpl_call (f := 51) Tryd.call51 kr9 ?_; refine ⟨_, (get_own W _ _ _ g2 n c (i + d) 1 ad l hS pl9 HLt.out hn hid2 (by omega)), ?_⟩; rintro e w ⟨_, hG⟩; obtain ⟨rfl, hS2⟩ := hG (by omega); clear hG hS; have hS := hS2; clear hS2; refine ⟨_, rfl, ?_⟩; refine put_move ?_; go_step) | (refine y948 ?_) | (refine y91 ?_) | (refine y989 ?_) | (refine y985 ?_) | (refine y9105 ?_) | (refine y9145 ?_) | (refine y994 ?_) | (refine y9138 ?_) | ((with_reducible refine gt9 _ (.fieldAddr 125 _ 1) ?_); (refine wvv9 (V.fieldAddr fo125_1 rfl nq9) ?_; go_step)) | ((with_reducible refine gs9 34 ?_); (refine wvv9 (V.build (vs := [(0, _), (1, _)]) rfl (bl154_0_1 _ _)) ?_; go_step)) | (refine y9116 ?_) | ((with_reducible refine gs9 35 ?_); (refine wl9 ?_; apply wp_lookupN2 (enc := pk) hS 123 _ _ rfl _ rfl (_, _) rfl Tryd.underlying123 (keyLaw_pair Tryd.underlying154 Tryd.underlying3 isz3) (.int .i64 0) (fun w => Tryd.zeroValue3 w) _; (case hp => exact pl9); (case hf => with_reducible assumption); refine put_move ?_; go_step)) | ((fail_if_success with_reducible refine ga9 ?_); go_step))
       go_roundg gk'
       case measure => omega
       case rel => exact ⟨d + 1, by omega, by go_num, by rw [HN1.out], by omega, HG2, (by rw [show i + d + 1 = i + (d + 1) by omega] at hS; exact hS.sub sb9)⟩
  · obtain rfl : d = 16 := by omega
    obtain rfl : gk = 0 := by omega
    have hg := HG.out
    rw [gtW] at hg
    have HG2 := hid hg
    clear hg HG
    repeat' (first
     | (refine y91 ?_) | (refine y989 ?_) | ((fail_if_success with_reducible refine ga9 ?_); go_step))
    refine ret_all (xs := [_, _]) rfl (.cons (OneRes.tmp rfl) (.cons (OneRes.tmp rfl) (.nil))) (by simp) rfl ?_
    rw [← HG2.out]
    refine ⟨rfl, hid2, St.close (m1, m2) ?_⟩
    exact hS.sub sb9

end Go.Proofs.YtehbjhocgnfpmaaDoor
/- Decoding what has been encoded: the plain law. -/
namespace Go.Proofs.YtehbjhocgnfpmaaDoor
set_option linter.unusedVariables false
theorem numAt_div (l : List Nat) (i k m : Nat) (h : k ≤ m) (hm : i + m ≤ 8 * l.length) : numAt l i m / 2 ^ (m - k) = numAt l i k := by
 unfold numAt
 have e : ((unpack l).drop i).take m = ((unpack l).drop i).take k ++ ((((unpack l).drop i).drop k).take (m - k)) := by
  conv => lhs; rw [show m = k + (m - k) by omega, List.take_add]
 have hl : ((((unpack l).drop i).drop k).take (m - k)).length = m - k := by
  rw [List.length_take, List.length_drop, List.length_drop, unpack_len]; omega
 have hlt := num_lt ((((unpack l).drop i).drop k).take (m - k))
 rw [e, num_append]
 rw [hl] at hlt ⊢
 rw [Nat.mul_comm, Nat.mul_add_div (Nat.two_pow_pos _), Nat.div_eq_of_lt hlt, Nat.add_zero]
theorem gt_word {L : List (Int × Nat × Nat)} (hG : Good L) (l : List Nat) (i : Nat) (x : Int × Nat × Nat) (hx : x ∈ L) (hi : i + x.2.1 ≤ 8 * l.length) (hb : numAt l i x.2.1 = x.2.2) :
 ∀ f d, d + f = 16 → d < x.2.1 → gtW L l i f d = (x.1, 0, i + x.2.1) := by
 have hl := hG.long x hx
 intro f
 induction f with
 | zero => intro d h1 h2; omega
 | succ f ih =>
  intro d h1 h2
  rw [gtW, if_neg (by omega)]
  cases hc : codW L (((d + 1 : Nat) : Int), (numAt l i (d + 1) : Int)) with
  | some s =>
   have hm := codW_mem hc
   have e := hG.pre _ hm x hx (by show d + 1 ≤ x.2.1; omega) (by show x.2.2 / 2 ^ (x.2.1 - (d + 1)) = numAt l i (d + 1); rw [← hb]; exact numAt_div l i (d + 1) x.2.1 (by omega) hi)
   dsimp only
   have e1 : s = x.1 := by rw [← e]
   have e2 : d + 1 = x.2.1 := by rw [← e]
   rw [e1, e2]
  | none =>
   dsimp only
   refine ih (d + 1) (by omega) ?_
   have hne : d + 1 ≠ x.2.1 := fun e => by
    rw [e, hb] at hc
    rw [hG.codW hx] at hc; cases hc
   omega
theorem gt_ok {L : List (Int × Nat × Nat)} (l : List Nat) (i : Nat) : ∀ f d, (gtW L l i f d).2.1 = 0 → ∃ m, d < m ∧ m ≤ d + f ∧ (gtW L l i f d).2.2 = i + m ∧ i + m ≤ 8 * l.length ∧ ((gtW L l i f d).1, m, numAt l i m) ∈ L := by
 intro f
 induction f with
 | zero => intro d h; exact absurd h (by show (4 : Int) ≠ 0; decide)
 | succ f ih =>
  intro d h
  rw [gtW] at h ⊢
  by_cases hs : 8 * l.length < i + (d + 1)
  · rw [if_pos hs] at h; exact absurd h (by show (3 : Int) ≠ 0; decide)
  · rw [if_neg hs] at h ⊢
    cases hc : codW L (((d + 1 : Nat) : Int), (numAt l i (d + 1) : Int)) with
    | some s => exact ⟨d + 1, by omega, by omega, rfl, by omega, codW_mem hc⟩
    | none =>
     rw [hc] at h
     obtain ⟨m, h1, h2, h3, h4, h5⟩ := ih (d + 1) h
     exact ⟨m, by omega, by omega, h3, h4, h5⟩
theorem wb_of {L : List (Int × Nat × Nat)} (hG : Good L) {x : Int × Nat × Nat} (hx : x ∈ L) : wb L x.1 = bitsOf x.2.1 x.2.2 := by
 unfold wb; rw [hG.symW hx]

end Go.Proofs.YtehbjhocgnfpmaaDoor
/- The walk of run.From, at any source of tokens. -/
namespace Go.Proofs.YtehbjhocgnfpmaaDoor
open Go.RowKit
set_option linter.unusedVariables false
theorem bl52_0 (m0 : Int) (w : World) : (Instr.build 52 #[(0, .int .i64 m0)]).run Tryd.prog w = .ok (.agg (iv (((List.replicate 64 0).set 0 m0)))) w := by kernel_rfl
theorem bl52_ (w : World) : (Instr.build 52 #[]).run Tryd.prog w = .ok (.agg (iv ((List.replicate 64 0)))) w := by kernel_rfl
structure Src (W : World) (σ : Type) where
 next : σ → Bool → Tok × Int × σ
 res : σ → Res
 tid : TypeId
 ptr : Value
 f : FuncId
 inv : ∀ (b : Bool) (w : World), (invoke (.fn (.method "Token") #[]) [.iface tid ptr, .bool b].toArray).run Tryd.prog w = .ok (.enter f #[ptr, .bool b]) w
 call : ∀ (w : World) (rs rs' : List Res) (s : σ) (b : Bool) (t0 t1 t2 er : Int) (s' : σ), St W w rs → Pull (res s) rs rs' → next s b = ((t0, t1, t2), er, s') →
  Calls Tryd.prog f #[ptr, .bool b] w fun e w' => e = .returned (.tuple #[.agg #[.int .i64 t0, .int .i64 t1, .int .i64 t2], .int .i64 er]) ∧ St W w' (res s' :: rs')
structure Veil (p : Prop) : Prop where
 out : p
def nought0 : List Int := List.replicate 64 0
set_option maxRecDepth 100000 in
theorem none_any (w0 : World) (e0 : Int) : Calls Tryd.prog 70 #[.int .i64 e0] w0 fun e w => e = .returned (.tuple #[.agg (iv nought0), .slice none 0 0, .int .i64 e0]) ∧ Ext w0 w := by
 have hS := St.start w0
 have hZ : Len nought0 64 := List.length_replicate
 go_enter Tryd.func70, Tryd.ntmps70
 repeat' (first
  | (refine y91 ?_) | ((with_reducible refine gs9 5 ?_); (refine wvv9 (V.build (vs := []) rfl (bl52_)) ?_; go_step)) | ((with_reducible refine gs9 2 ?_); (refine wl9 ?_; apply wp_allocA (o := ⟨some 2, _, _, _, _, _⟩) hS 52 rfl (List.replicate 64 0) 64 List.length_replicate za52; clear hS; intro g2 w hS; refine put_move ?_; go_step)) | ((with_reducible refine gt9 _ (.store 52 _ _) ?_); (refine wl9 ?_; apply wp_storeA hS 52 _ _ rfl _ rfl 64 (row_of rfl) _ _; (case hp => exact pl9); (case hy => rfl); (case hm => (repeat (first | assumption | exact Len.rep | apply Len.set | ((with_reducible show Len (_ :: _) _); exact rfl)))); (case hd => exact rfl); clear hS; intro w hS)) | ((fail_if_success with_reducible refine ga9 ?_); go_step))
 refine ret_all (xs := [_, _, _]) rfl (.cons (OneRes.arr hS rfl (row_of (n := 64) rfl) pl9) (.cons (OneRes.tmp rfl) (.cons (OneRes.tmp rfl) (.nil)))) (by simp) rfl ?_
 exact ⟨rfl, hS.1⟩
def okB (k v : Int) : Bool := decide (0 ≤ k ∧ k ≤ 12) && decide (0 ≤ v ∧ v < 2 ^ k.toNat)
set_option maxHeartbeats 1000000 in
theorem back_no (k v : Int) (w : World) (h : okB k v = false) : Calls Tryd.prog 71 #[.int .i64 k, .int .i64 v] w fun e w' => e = .returned (.tuple #[.int .i64 0, .int .i64 1]) ∧ w = w' := by
 by_cases hk : 0 ≤ k ∧ k ≤ 12
 case neg =>
  have hk2 : k < 0 ∨ 12 < k := by omega
  clear hk h
  go_enter Tryd.func71, Tryd.ntmps71
  repeat' (first
   | go_skip | ((first | (with_reducible refine mv9 ?_) | (with_reducible refine as9 ?_)); (first | go_big_want | go_step); go_step) | ((with_reducible refine gt9 _ (.pick _ _ _) ?_); first | (refine wplPickT rfl kr9 ?_; go_step) | (refine wplPickF rfl kr9 ?_; go_step)) | ((with_reducible refine gs9 8 ?_); (refine wplD _ (V.lss rfl rfl) kr9 (fun hB => ?_) (fun hB => ?_) <;> (try (have hF : False := (by omega); cases hF)) <;> go_step)) | ((with_reducible refine gs9 11 ?_); (refine wplD _ (V.gtr rfl rfl) kr9 (fun hB => ?_) (fun hB => ?_) <;> (try (have hF : False := (by omega); cases hF)) <;> go_step)) | ((fail_if_success with_reducible refine ga9 ?_); go_step))
  all_goals (try (have hF : False := (by omega); cases hF))
  all_goals
   refine ret_all (xs := [_, _]) rfl (.cons (OneRes.tmp rfl) (.cons (OneRes.tmp rfl) (.nil))) (by simp) rfl ?_
   exact ⟨rfl, rfl⟩
 obtain ⟨n, rfl⟩ : ∃ n : Nat, k = (n : Int) := ⟨k.toNat, by omega⟩
 obtain ⟨p, hp⟩ : ∃ p, 2 ^ n = p := ⟨_, rfl⟩
 have HP : Hid ((2 : Int) ^ n = (p : Int)) := hid (by rw [← hp]; push_cast; rfl)
 have hp2 : p ≤ 4096 := by rw [← hp]; exact Nat.pow_le_pow_right (n := 2) (j := 12) (by omega) (by omega)
 have hv : v < 0 ∨ (p : Int) ≤ v := by
  unfold okB at h
  rw [decide_eq_true hk, Bool.true_and, decide_eq_false_iff_not, Int.toNat_natCast, HP.out] at h
  omega
 clear h hp
 go_enter Tryd.func71, Tryd.ntmps71
 repeat' (first
  | ((with_reducible refine gs9 20 ?_); (refine wplV (.int _ (((p : Nat) : Int))) (V.as (V.shl1 rfl rfl isn9 (by omega)) (by exact HP.out)) rfl ?_; go_step)) | go_skip | (refine y91 ?_) | (refine y9141 ?_) | ((with_reducible refine gs9 8 ?_); (refine wplD _ (V.lss rfl rfl) kr9 (fun hB => ?_) (fun hB => ?_) <;> (try (have hF : False := (by omega); cases hF)) <;> go_step)) | ((with_reducible refine gs9 11 ?_); (refine wplD _ (V.gtr rfl rfl) kr9 (fun hB => ?_) (fun hB => ?_) <;> (try (have hF : False := (by omega); cases hF)) <;> go_step)) | ((with_reducible refine gs9 15 ?_); (refine wplD _ (V.lss rfl rfl) kr9 (fun hB => ?_) (fun hB => ?_) <;> (try (have hF : False := (by omega); cases hF)) <;> go_step)) | (refine y987 ?_) | ((fail_if_success with_reducible refine ga9 ?_); go_step))
 all_goals (try (have hF : False := (by omega); cases hF))
 all_goals
  refine ret_all (xs := [_, _]) rfl (.cons (OneRes.tmp rfl) (.cons (OneRes.tmp rfl) (.nil))) (by simp) rfl ?_
  exact ⟨rfl, rfl⟩
theorem back_yes (k v : Int) (w : World) (h : okB k v = true) : Calls Tryd.prog 71 #[.int .i64 k, .int .i64 v] w fun e w' => e = .returned (.tuple #[.int .i64 (sback k.toNat v.toNat), .int .i64 0]) ∧ w = w' := by
 unfold okB at h
 simp only [Bool.and_eq_true, decide_eq_true_eq] at h
 obtain ⟨n, rfl⟩ : ∃ n : Nat, k = (n : Int) := ⟨k.toNat, by omega⟩
 obtain ⟨m, rfl⟩ : ∃ m : Nat, v = (m : Int) := ⟨v.toNat, by omega⟩
 rw [Int.toNat_natCast, Int.toNat_natCast]
 refine sizeBack_any n m w (by omega) ?_
 have h2 := h.2.2
 rw [Int.toNat_natCast] at h2
 have : ((m : Int)) < ((2 ^ n : Nat) : Int) := by push_cast; exact h2
 omega
theorem sback_lt (k v : Nat) (h : v < 2 ^ k) : -(2 ^ k : Nat) < sback k v ∧ sback k v < (2 ^ k : Nat) := by
 unfold sback
 split <;> omega
theorem numT_bd (t0 t1 t2 : Int) (h : okB t1 t2 = true) : -4096 < numT (t0, t1, t2) ∧ numT (t0, t1, t2) < 4096 ∧ (t1 ≤ 11 → -2048 < numT (t0, t1, t2) ∧ numT (t0, t1, t2) < 2048) := by
 unfold okB at h
 simp only [Bool.and_eq_true, decide_eq_true_eq] at h
 obtain ⟨n, rfl⟩ : ∃ n : Nat, t1 = (n : Int) := ⟨t1.toNat, by omega⟩
 obtain ⟨m, rfl⟩ : ∃ m : Nat, t2 = (m : Int) := ⟨t2.toNat, by omega⟩
 rw [Int.toNat_natCast] at h
 have h2 : m < 2 ^ n := by
  have : ((m : Int)) < ((2 ^ n : Nat) : Int) := by push_cast; exact h.2.2
  omega
 have h3 := sback_lt n m h2
 unfold numT
 dsimp only
 rw [Int.toNat_natCast, Int.toNat_natCast]
 have h4 : 2 ^ n ≤ 4096 := Nat.pow_le_pow_right (n := 2) (j := 12) (by omega) (by omega)
 refine ⟨by omega, by omega, fun h5 => ?_⟩
 have h6 : 2 ^ n ≤ 2048 := Nat.pow_le_pow_right (n := 2) (j := 11) (by omega) (by omega)
 omega
theorem badT_eq (t0 t1 t2 : Int) : badT (t0, t1, t2) = true ↔ okB t1 t2 = false ∨ 11 < t1 ∨ t0 < 0 ∨ 255 < t0 ∨ t1 ≠ t0 % 16 ∨ (t1 = 0 ∧ t0 ≠ 0 ∧ t0 ≠ 240) := by
 unfold badT okB
 dsimp only
 generalize hB : (decide (0 ≤ t2 ∧ t2 < 2 ^ t1.toNat)) = B
 clear hB
 cases B
 · simp
 · rw [Bool.and_true, Bool.and_true, Bool.not_eq_true']
   rw [show (decide (0 ≤ t1 ∧ t1 ≤ 11) && decide (0 ≤ t0 ∧ t0 ≤ 255) && decide (t1 = t0 % 16) && (decide (t1 ≠ 0) || decide (t0 = 0 ∨ t0 = 240))) = decide ((0 ≤ t1 ∧ t1 ≤ 11) ∧ (0 ≤ t0 ∧ t0 ≤ 255) ∧ t1 = t0 % 16 ∧ (t1 ≠ 0 ∨ t0 = 0 ∨ t0 = 240)) by
    rw [Bool.eq_iff_iff]; simp only [Bool.and_eq_true, Bool.or_eq_true, decide_eq_true_eq]; omega]
   rw [decide_eq_false_iff_not, decide_eq_false_iff_not]
   omega
theorem and15 (t0 : Int) (h : 0 ≤ t0 ∧ t0 ≤ 255) : bits .and .i64 t0 15 = t0 % 16 := by
 obtain ⟨n, rfl⟩ : ∃ n : Nat, t0 = (n : Int) := ⟨t0.toNat, by omega⟩
 rw [show (15 : Int) = ((15 : Nat) : Int) from rfl, bits_and_i64_nat n 15 (by omega) (by omega)]
 rw [show (15 : Nat) = 2 ^ 4 - 1 from rfl, Nat.and_two_pow_sub_one_eq_mod]
 omega
theorem zfrom_bd (l : List Int) (h : ∀ i, i < 64 → -2047 ≤ nth l i ∧ nth l i ≤ 2047) (j : Nat) (hj : j < 64) : -2047 ≤ nth (zfrom l) j ∧ nth (zfrom l) j ≤ 2047 := by
 obtain ⟨h1, h2⟩ := zn_onto j hj
 have h3 := zfl_get l 64 (by omega) _ h1
 rw [h2] at h3
 have h4 : nth (zfrom l) j = nth l (zord.idxOf j) := h3
 rw [h4]; exact h _ h1
def FromGives {W : World} {σ : Type} (Z : Src W σ) (before : Int) (s0 : σ) (rs' : List Res) (e : Ending) (w : World) : Prop :=
 ∃ ad c, e = .returned (.tuple #[.agg (iv (frm Z.next before s0).2.1), .slice ad (frm Z.next before s0).2.2.1.length c, .int .i64 (frm Z.next before s0).1]) ∧
  St W w (own 69 3 ad (frm Z.next before s0).2.2.1.length c ((flt (frm Z.next before s0).2.2.1).map (Value.int .i64)) :: Z.res (frm Z.next before s0).2.2.2 :: rs')
theorem from_no {W w : World} {σ : Type} {Z : Src W σ} {before : Int} {s0 s1 : σ} {rs' rs : List Res} (E : Int) (h : frm Z.next before s0 = (E, nought0, [], s1)) (hS : St W w rs) (hp : Sub (Z.res s1 :: rs') rs) :
 FromGives Z before s0 rs' (.returned (.tuple #[.agg (iv nought0), .slice none 0 0, .int .i64 E])) w := by
 refine ⟨none, 0, by rw [h]; rfl, ?_⟩
 rw [h]
 exact (hS.sub hp).nil _ _
set_option maxRecDepth 100000 in
set_option maxHeartbeats 40000000 in
theorem from_bad {W : World} {σ : Type} (Z : Src W σ) (w0 : World) (rs rs' : List Res) (s0 : σ) (before : Int) (hb : -2047 ≤ before ∧ before ≤ 2047) (hS : St W w0 rs) (hp : Pull (Z.res s0) rs rs') (hbad : ¬ ((Z.next s0 true).2.1 = 0 ∧ okFirst before (Z.next s0 true).1 = true)) :
 Calls Tryd.prog 49 #[.int .i64 before, .iface Z.tid Z.ptr] w0 (FromGives Z before s0 rs') := by
 replace hS := hS.pull hp
 have hbad := Veil.mk hbad
 have hZ0 : Len nought0 64 := List.length_replicate
 clear hp
 obtain ⟨⟨⟨t0, t1, t2⟩, er, s1⟩, hn⟩ : ∃ x, Z.next s0 true = x := ⟨_, rfl⟩
 by_cases he : er = 0
 case neg =>
  have HF : Hid (frm Z.next before s0 = (er, nought0, [], s1)) := hid (by unfold frm; rw [hn]; exact if_pos he)
  have HN := hid hn
  clear hn
  go_enter Tryd.func49, Tryd.ntmps49
  repeat' (first
   | ((with_reducible refine gs9 19 ?_); refine wl9 ?_; refine wp_callI rfl (.iface Z.tid Z.ptr) rfl [.bool true] rfl Z.f #[Z.ptr, .bool true] (Z.inv true) (Z.call _ _ _ s0 true _ _ _ _ _ hS pl9 HN.out) ?_; clear hS; rintro e w ⟨rfl, hS⟩; refine ⟨_, rfl, ?_⟩; refine put_move ?_; go_step) | ((with_reducible refine gs9 26 ?_); refine wl9 ?_; refine wp_callV (f := 70) rfl rfl Tryd.call70 (none_any _ _) ?_; rintro e w ⟨rfl, hE⟩; replace hS := hS.ext hE; clear hE; refine ⟨_, rfl, ?_⟩; refine put_move ?_; go_step) | (refine y91 ?_) | (refine y9105 ?_) | (refine y991 ?_) | ((with_reducible refine gs9 4 ?_); (refine wl9 ?_; apply wp_allocA (o := ⟨some 4, _, _, _, _, _⟩) hS 52 rfl (List.replicate 64 0) 64 List.length_replicate za52; clear hS; intro g4 w hS; refine put_move ?_; go_step)) | ((with_reducible refine gs9 8 ?_); (refine wl9 ?_; apply wp_alloc (o := ⟨some 8, _, _, _, _, _⟩) hS 69 rfl (.agg #[.int .i64 0, .int .i64 0, .int .i64 0]) [.int .i64 0, .int .i64 0, .int .i64 0] (fun w => Tryd.zeroValue69 w) rfl; clear hS; intro g8 w hS; refine put_move ?_; go_step)) | ((with_reducible refine gt9 _ (.store 69 _ _) ?_); (refine wl9 ?_; apply wp_storeG hS 69 _ _ rfl _ rfl 3 (row_of rfl) _ _; (case hp => exact pl9); (case hy => rfl); (case hn => rfl); (case hn' => rfl); (case hv => rfl); (case hd => exact rfl); clear hS; intro w hS)) | ((with_reducible refine gt9 _ (.store 52 _ _) ?_); (refine wl9 ?_; apply wp_storeA hS 52 _ _ rfl _ rfl 64 (row_of rfl) _ _; (case hp => exact pl9); (case hy => rfl); (case hm => (repeat (first | assumption | exact Len.rep | apply Len.set | ((with_reducible show Len (_ :: _) _); exact rfl)))); (case hd => exact rfl); clear hS; intro w hS)) | ((fail_if_success with_reducible refine ga9 ?_); go_step))
  refine ret_all (xs := [_, _, _]) rfl (.cons (OneRes.arr hS rfl (row_of (n := 64) rfl) pl9) (.cons (OneRes.tmp rfl) (.cons (OneRes.tmp rfl) (.nil)))) (by simp) rfl ?_
  exact from_no er HF.out hS sb9
 subst he
 have HN := hid hn
 obtain ⟨F, hF⟩ : ∃ F, okFirst before (t0, t1, t2) = F := ⟨_, rfl⟩
 by_cases hB : okB t1 t2 = true
 case neg =>
  have hB2 : okB t1 t2 = false := by simpa using hB
  have HF : Hid (frm Z.next before s0 = (4, nought0, [], s1)) := hid (by
   have : okFirst before (t0, t1, t2) = false := by
    unfold okFirst; dsimp only
    rw [show (decide (0 ≤ t1 ∧ t1 ≤ 12) && decide (0 ≤ t2 ∧ t2 < 2 ^ t1.toNat)) = false from hB2]; rfl
   unfold frm; rw [hn]
   rw [if_neg (by simp), if_pos this]; rfl)
  clear hn hF hB
  go_enter Tryd.func49, Tryd.ntmps49
  repeat' (first
   | ((with_reducible refine gs9 19 ?_); refine wl9 ?_; refine wp_callI rfl (.iface Z.tid Z.ptr) rfl [.bool true] rfl Z.f #[Z.ptr, .bool true] (Z.inv true) (Z.call _ _ _ s0 true _ _ _ _ _ hS pl9 HN.out) ?_; clear hS; rintro e w ⟨rfl, hS⟩; refine ⟨_, rfl, ?_⟩; refine put_move ?_; go_step) | ((with_reducible refine gs9 37 ?_); refine wpl_call (f := 71) Tryd.call71 kr9 ?_; refine ⟨_, (back_no t1 t2 _ hB2), ?_⟩; rintro e w' ⟨rfl, rfl⟩; refine ⟨_, rfl, ?_⟩; refine put_move ?_; go_step) | ((with_reducible refine gs9 57 ?_); refine wl9 ?_; refine wp_callV (f := 70) rfl rfl Tryd.call70 (none_any _ _) ?_; rintro e w ⟨rfl, hE⟩; replace hS := hS.ext hE; clear hE; refine ⟨_, rfl, ?_⟩; refine put_move ?_; go_step) | go_skip | (refine y91 ?_) | (refine y9140 ?_) | ((with_reducible refine gs9 41 ?_); (refine wplD _ (V.neq rfl rfl) kr9 (fun hB => ?_) (fun hB => ?_) <;> (try (have hF : False := (by omega); cases hF)) <;> go_step)) | (refine y9105 ?_) | (refine y991 ?_) | (refine y9111 ?_) | (refine y9112 ?_) | ((with_reducible refine gs9 4 ?_); (refine wl9 ?_; apply wp_allocA (o := ⟨some 4, _, _, _, _, _⟩) hS 52 rfl (List.replicate 64 0) 64 List.length_replicate za52; clear hS; intro g4 w hS; refine put_move ?_; go_step)) | ((with_reducible refine gs9 8 ?_); (refine wl9 ?_; apply wp_alloc (o := ⟨some 8, _, _, _, _, _⟩) hS 69 rfl (.agg #[.int .i64 0, .int .i64 0, .int .i64 0]) [.int .i64 0, .int .i64 0, .int .i64 0] (fun w => Tryd.zeroValue69 w) rfl; clear hS; intro g8 w hS; refine put_move ?_; go_step)) | ((with_reducible refine gt9 _ (.store 69 _ _) ?_); (refine wl9 ?_; apply wp_storeG hS 69 _ _ rfl _ rfl 3 (row_of rfl) _ _; (case hp => exact pl9); (case hy => rfl); (case hn => rfl); (case hn' => rfl); (case hv => rfl); (case hd => exact rfl); clear hS; intro w hS)) | ((with_reducible refine gt9 _ (.store 52 _ _) ?_); (refine wl9 ?_; apply wp_storeA hS 52 _ _ rfl _ rfl 64 (row_of rfl) _ _; (case hp => exact pl9); (case hy => rfl); (case hm => (repeat (first | assumption | exact Len.rep | apply Len.set | ((with_reducible show Len (_ :: _) _); exact rfl)))); (case hd => exact rfl); clear hS; intro w hS)) | (refine y9131 ?_) | ((with_reducible refine gs9 31 ?_); (refine wl9 ?_; apply wp_buildSlice1 (o := ⟨some 31, _, _, _, _, _⟩) hS 100 1 _ rfl 69 3 24 el100 _ _; (case hvs => (repeat (first | exact Parts.nil | (apply Parts.agg; (rfl); (rfl)) | (apply Parts.one; exact isv9; (rfl); (rfl))))); (case hn => rfl); (case hn0 => decide); (case hns => decide); clear hS; intro g31 w hS; simp only [List.cons_append, List.nil_append] at hS; refine put_move ?_; go_step)) | (refine y9121 ?_) | ((fail_if_success with_reducible refine ga9 ?_); go_step))
  all_goals (try (have hF : False := (by omega); cases hF))
  refine ret_all (xs := [_, _, _]) rfl (.cons (OneRes.arr hS rfl (row_of (n := 64) rfl) pl9) (.cons (OneRes.tmp rfl) (.cons (OneRes.tmp rfl) (.nil)))) (by simp) rfl ?_
  exact from_no 4 HF.out hS sb9
 obtain ⟨n, hnum⟩ : ∃ n, numT (t0, t1, t2) = n := ⟨_, rfl⟩
 have hnb := numT_bd t0 t1 t2 hB
 rw [hnum] at hnb
 obtain ⟨hn1, hn2, _⟩ := hnb
 have HNum : Hid (sback t1.toNat t2.toNat = n) := hid hnum
 obtain ⟨q, hq⟩ : ∃ q, isC (before + n) = q := ⟨_, rfl⟩
 have HQ := hid hq
 by_cases hok : t0 = t1 ∧ q = true
 case neg =>
  have HF : Hid (frm Z.next before s0 = (4, nought0, [], s1)) := hid (by
   have : okFirst before (t0, t1, t2) = false := by
    unfold okFirst; rw [hnum]; dsimp only
    by_cases h1 : t0 = t1
    · rw [show decide (-2047 ≤ before + n ∧ before + n ≤ 2047) = false from decide_eq_false (fun h => hok ⟨h1, by rw [← hq]; exact (isC_iff _).2 h⟩)]; simp
    · rw [decide_eq_false h1]; simp
   unfold frm; rw [hn]
   rw [if_neg (by simp), if_pos this]; rfl)
  clear hn hF hnum hq
  by_cases h1 : t0 = t1
  case pos =>
   obtain rfl : q = false := by cases q <;> simp_all
   clear hok
   go_enter Tryd.func49, Tryd.ntmps49
   repeat' (first
    | ((with_reducible refine gs9 19 ?_); refine wl9 ?_; refine wp_callI rfl (.iface Z.tid Z.ptr) rfl [.bool true] rfl Z.f #[Z.ptr, .bool true] (Z.inv true) (Z.call _ _ _ s0 true _ _ _ _ _ hS pl9 HN.out) ?_; clear hS; rintro e w ⟨rfl, hS⟩; refine ⟨_, rfl, ?_⟩; refine put_move ?_; go_step) | ((with_reducible refine gs9 37 ?_); refine wpl_call (f := 71) Tryd.call71 kr9 ?_; refine ⟨_, (back_yes t1 t2 _ hB), ?_⟩; rintro e w' ⟨rfl, rfl⟩; rw [HNum.out]; refine ⟨_, rfl, ?_⟩; refine put_move ?_; go_step) | ((with_reducible refine gt9 _ (.call ⟨.value (.func 72), _, _⟩) ?_); refine wpl_call (f := 72) Tryd.call72 kr9 ?_; refine ⟨_, (isCoef_any (before + n) _), ?_⟩; rintro e w' ⟨rfl, rfl⟩; rw [HQ.out]; refine ⟨_, rfl, ?_⟩; refine put_move ?_; go_step) | ((with_reducible refine gs9 57 ?_); refine wl9 ?_; refine wp_callV (f := 70) rfl rfl Tryd.call70 (none_any _ _) ?_; rintro e w ⟨rfl, hE⟩; replace hS := hS.ext hE; clear hE; refine ⟨_, rfl, ?_⟩; refine put_move ?_; go_step) | (refine y91 ?_) | (refine y9139 ?_) | ((with_reducible refine gs9 41 ?_); (refine wplD _ (V.neq rfl rfl) kr9 (fun hB => ?_) (fun hB => ?_) <;> (try (have hF : False := (by omega); cases hF)) <;> go_step)) | ((with_reducible refine gs9 47 ?_); (refine wplD _ (V.neq rfl rfl) kr9 (fun hB => ?_) (fun hB => ?_) <;> (try (have hF : False := (by omega); cases hF)) <;> go_step)) | (refine y9105 ?_) | (refine y991 ?_) | (refine y9111 ?_) | (refine y9112 ?_) | (refine y9110 ?_) | (refine y985 ?_) | (refine y9145 ?_) | ((with_reducible refine gs9 4 ?_); (refine wl9 ?_; apply wp_allocA (o := ⟨some 4, _, _, _, _, _⟩) hS 52 rfl (List.replicate 64 0) 64 List.length_replicate za52; clear hS; intro g4 w hS; refine put_move ?_; go_step)) | ((with_reducible refine gs9 8 ?_); (refine wl9 ?_; apply wp_alloc (o := ⟨some 8, _, _, _, _, _⟩) hS 69 rfl (.agg #[.int .i64 0, .int .i64 0, .int .i64 0]) [.int .i64 0, .int .i64 0, .int .i64 0] (fun w => Tryd.zeroValue69 w) rfl; clear hS; intro g8 w hS; refine put_move ?_; go_step)) | ((with_reducible refine gt9 _ (.store 69 _ _) ?_); (refine wl9 ?_; apply wp_storeG hS 69 _ _ rfl _ rfl 3 (row_of rfl) _ _; (case hp => exact pl9); (case hy => rfl); (case hn => rfl); (case hn' => rfl); (case hv => rfl); (case hd => exact rfl); clear hS; intro w hS)) | ((with_reducible refine gt9 _ (.store 52 _ _) ?_); (refine wl9 ?_; apply wp_storeA hS 52 _ _ rfl _ rfl 64 (row_of rfl) _ _; (case hp => exact pl9); (case hy => rfl); (case hm => (repeat (first | assumption | exact Len.rep | apply Len.set | ((with_reducible show Len (_ :: _) _); exact rfl)))); (case hd => exact rfl); clear hS; intro w hS)) | (refine y9131 ?_) | ((with_reducible refine gs9 31 ?_); (refine wl9 ?_; apply wp_buildSlice1 (o := ⟨some 31, _, _, _, _, _⟩) hS 100 1 _ rfl 69 3 24 el100 _ _; (case hvs => (repeat (first | exact Parts.nil | (apply Parts.agg; (rfl); (rfl)) | (apply Parts.one; exact isv9; (rfl); (rfl))))); (case hn => rfl); (case hn0 => decide); (case hns => decide); clear hS; intro g31 w hS; simp only [List.cons_append, List.nil_append] at hS; refine put_move ?_; go_step)) | (refine y9121 ?_) | ((fail_if_success with_reducible refine ga9 ?_); go_step))
   all_goals (try (have hF : False := (by omega); cases hF))
   refine ret_all (xs := [_, _, _]) rfl (.cons (OneRes.arr hS rfl (row_of (n := 64) rfl) pl9) (.cons (OneRes.tmp rfl) (.cons (OneRes.tmp rfl) (.nil)))) (by simp) rfl ?_
   exact from_no 4 HF.out hS sb9
  case neg =>
   clear hok
   go_enter Tryd.func49, Tryd.ntmps49
   repeat' (first
    | ((with_reducible refine gs9 19 ?_); refine wl9 ?_; refine wp_callI rfl (.iface Z.tid Z.ptr) rfl [.bool true] rfl Z.f #[Z.ptr, .bool true] (Z.inv true) (Z.call _ _ _ s0 true _ _ _ _ _ hS pl9 HN.out) ?_; clear hS; rintro e w ⟨rfl, hS⟩; refine ⟨_, rfl, ?_⟩; refine put_move ?_; go_step) | ((with_reducible refine gs9 37 ?_); refine wpl_call (f := 71) Tryd.call71 kr9 ?_; refine ⟨_, (back_yes t1 t2 _ hB), ?_⟩; rintro e w' ⟨rfl, rfl⟩; rw [HNum.out]; refine ⟨_, rfl, ?_⟩; refine put_move ?_; go_step) | ((with_reducible refine gs9 57 ?_); refine wl9 ?_; refine wp_callV (f := 70) rfl rfl Tryd.call70 (none_any _ _) ?_; rintro e w ⟨rfl, hE⟩; replace hS := hS.ext hE; clear hE; refine ⟨_, rfl, ?_⟩; refine put_move ?_; go_step) | go_skip | (refine y91 ?_) | (refine y9141 ?_) | ((with_reducible refine gs9 41 ?_); (refine wplD _ (V.neq rfl rfl) kr9 (fun hB => ?_) (fun hB => ?_) <;> (try (have hF : False := (by omega); cases hF)) <;> go_step)) | ((with_reducible refine gs9 47 ?_); (refine wplD _ (V.neq rfl rfl) kr9 (fun hB => ?_) (fun hB => ?_) <;> (try (have hF : False := (by omega); cases hF)) <;> go_step)) | (refine y9105 ?_) | (refine y991 ?_) | (refine y9111 ?_) | (refine y9112 ?_) | (refine y9110 ?_) | ((with_reducible refine gs9 4 ?_); (refine wl9 ?_; apply wp_allocA (o := ⟨some 4, _, _, _, _, _⟩) hS 52 rfl (List.replicate 64 0) 64 List.length_replicate za52; clear hS; intro g4 w hS; refine put_move ?_; go_step)) | ((with_reducible refine gs9 8 ?_); (refine wl9 ?_; apply wp_alloc (o := ⟨some 8, _, _, _, _, _⟩) hS 69 rfl (.agg #[.int .i64 0, .int .i64 0, .int .i64 0]) [.int .i64 0, .int .i64 0, .int .i64 0] (fun w => Tryd.zeroValue69 w) rfl; clear hS; intro g8 w hS; refine put_move ?_; go_step)) | ((with_reducible refine gt9 _ (.store 69 _ _) ?_); (refine wl9 ?_; apply wp_storeG hS 69 _ _ rfl _ rfl 3 (row_of rfl) _ _; (case hp => exact pl9); (case hy => rfl); (case hn => rfl); (case hn' => rfl); (case hv => rfl); (case hd => exact rfl); clear hS; intro w hS)) | ((with_reducible refine gt9 _ (.store 52 _ _) ?_); (refine wl9 ?_; apply wp_storeA hS 52 _ _ rfl _ rfl 64 (row_of rfl) _ _; (case hp => exact pl9); (case hy => rfl); (case hm => (repeat (first | assumption | exact Len.rep | apply Len.set | ((with_reducible show Len (_ :: _) _); exact rfl)))); (case hd => exact rfl); clear hS; intro w hS)) | (refine y9131 ?_) | ((with_reducible refine gs9 31 ?_); (refine wl9 ?_; apply wp_buildSlice1 (o := ⟨some 31, _, _, _, _, _⟩) hS 100 1 _ rfl 69 3 24 el100 _ _; (case hvs => (repeat (first | exact Parts.nil | (apply Parts.agg; (rfl); (rfl)) | (apply Parts.one; exact isv9; (rfl); (rfl))))); (case hn => rfl); (case hn0 => decide); (case hns => decide); clear hS; intro g31 w hS; simp only [List.cons_append, List.nil_append] at hS; refine put_move ?_; go_step)) | (refine y9121 ?_) | ((fail_if_success with_reducible refine ga9 ?_); go_step))
   all_goals (try (have hF : False := (by omega); cases hF))
   refine ret_all (xs := [_, _, _]) rfl (.cons (OneRes.arr hS rfl (row_of (n := 64) rfl) pl9) (.cons (OneRes.tmp rfl) (.cons (OneRes.tmp rfl) (.nil)))) (by simp) rfl ?_
   exact from_no 4 HF.out hS sb9
 obtain ⟨rfl, rfl⟩ := hok
 have hco := (isC_iff _).1 hq
 have HFirst : Hid (okFirst before (t0, t0, t2) = true) := hid (by
  unfold okFirst; rw [hnum]; dsimp only
  rw [show (decide (0 ≤ t0 ∧ t0 ≤ 12) && decide (0 ≤ t2 ∧ t2 < 2 ^ t0.toNat)) = true from hB, decide_eq_true (rfl : t0 = t0), decide_eq_true hco]; rfl)
 exact absurd ⟨by rw [hn], by rw [hn]; exact HFirst.out⟩ hbad.out

end Go.Proofs.YtehbjhocgnfpmaaDoor
/- The walk of run.From, at any source of tokens. -/
namespace Go.Proofs.YtehbjhocgnfpmaaDoor
open Go.RowKit
set_option linter.unusedVariables false
set_option maxRecDepth 100000 in
set_option maxHeartbeats 40000000 in
theorem from_any {W : World} {σ : Type} (Z : Src W σ) (w0 : World) (rs rs' : List Res) (s0 : σ) (before : Int) (hb : -2047 ≤ before ∧ before ≤ 2047) (hS : St W w0 rs) (hp : Pull (Z.res s0) rs rs') :
 Calls Tryd.prog 49 #[.int .i64 before, .iface Z.tid Z.ptr] w0 (FromGives Z before s0 rs') := by
 by_cases hgood : (Z.next s0 true).2.1 = 0 ∧ okFirst before (Z.next s0 true).1 = true
 case neg => exact from_bad Z w0 rs rs' s0 before hb hS hp hgood
 replace hS := hS.pull hp
 have hZ0 : Len nought0 64 := List.length_replicate
 clear hp
 obtain ⟨⟨⟨t0, t1, t2⟩, er, s1⟩, hn⟩ : ∃ x, Z.next s0 true = x := ⟨_, rfl⟩
 rw [hn] at hgood
 obtain ⟨he, hfst⟩ := hgood
 dsimp only at he hfst
 subst he
 have hf2 := hfst
 unfold okFirst at hf2
 simp only [Bool.and_eq_true, decide_eq_true_eq] at hf2
 obtain ⟨⟨⟨q1, q2⟩, q3⟩, q4⟩ := hf2
 subst q3
 have hB : okB t0 t2 = true := by unfold okB; rw [decide_eq_true q1, decide_eq_true q2]; rfl
 obtain ⟨n, hnum⟩ : ∃ n, numT (t0, t0, t2) = n := ⟨_, rfl⟩
 have hnb := numT_bd t0 t0 t2 hB
 rw [hnum] at hnb
 obtain ⟨hn1, hn2, _⟩ := hnb
 have HNum : Hid (sback t0.toNat t2.toNat = n) := hid hnum
 rw [hnum] at q4
 have hco : -2047 ≤ before + n ∧ before + n ≤ 2047 := q4
 have HQ : Hid (isC (before + n) = true) := hid ((isC_iff _).2 hco)
 have HFirst : Hid (okFirst before (t0, t0, t2) = true) := hid hfst
 have HN := hid hn
 clear q1 q2 q4 hfst
 obtain ⟨R, hR⟩ : ∃ R, frLoop Z.next 64 1 (first0 (before + n)) [(t0, t0, t2)] s1 = R := ⟨_, rfl⟩
 have HF : Hid (frm Z.next before s0 = if R.1 ≠ 0 then (R.1, nought0, [], R.2.2.2) else if toksOf before R.2.1 = R.2.2.1 then (0, zfrom R.2.1, R.2.2.1, R.2.2.2) else (4, nought0, [], R.2.2.2)) := hid (by
  unfold frm; rw [hn]; dsimp only
  rw [if_neg (by simp), if_neg (by rw [HFirst.out]; simp), hnum, hR]; rfl)
 have HR := hid hR
 have hfl : Len (first0 (before + n)) 64 := Len.set Len.rep
 have HFb : Hid (∀ i, i < 64 → -2047 ≤ nth (first0 (before + n)) i ∧ nth (first0 (before + n)) i ≤ 2047) := hid fun i hi => by
  unfold first0
  rw [nth_set _ _ _ _ (by simp)]
  split
  · exact hco
  · rw [nth_zeros]; omega
 clear hn hnum hR hco
 go_enter Tryd.func49, Tryd.ntmps49
 repeat' (first
  | ((with_reducible refine gs9 19 ?_); refine wl9 ?_; refine wp_callI rfl (.iface Z.tid Z.ptr) rfl [.bool true] rfl Z.f #[Z.ptr, .bool true] (Z.inv true) (Z.call _ _ _ s0 true _ _ _ _ _ hS pl9 HN.out) ?_; clear hS; rintro e w ⟨rfl, hS⟩; refine ⟨_, rfl, ?_⟩; refine put_move ?_; go_step) | ((with_reducible refine gs9 37 ?_); refine wpl_call (f := 71) Tryd.call71 kr9 ?_; refine ⟨_, (back_yes t0 t2 _ hB), ?_⟩; rintro e w' ⟨rfl, rfl⟩; rw [HNum.out]; refine ⟨_, rfl, ?_⟩; refine put_move ?_; go_step) | ((with_reducible refine gt9 _ (.call ⟨.value (.func 72), _, _⟩) ?_); refine wpl_call (f := 72) Tryd.call72 kr9 ?_; refine ⟨_, (isCoef_any (before + n) _), ?_⟩; rintro e w' ⟨rfl, rfl⟩; rw [HQ.out]; refine ⟨_, rfl, ?_⟩; refine put_move ?_; go_step) | ((with_reducible refine gs9 31 ?_); (refine wl9 ?_; apply wp_buildSliceO (o := ⟨some 31, _, _, _, _, _⟩) hS 100 1 _ rfl 69 3 24 el100 _ _; (case hvs => (repeat (first | exact Parts.nil | (apply Parts.agg; (rfl); (rfl)) | (apply Parts.one; exact isv9; (rfl); (rfl))))); (case hn => rfl); (case hn0 => decide); (case hns => decide); clear hS; intro g31 w hS; simp only [List.cons_append, List.nil_append] at hS; refine put_move ?_; go_step)) | ((first | (with_reducible refine mv9 ?_) | (with_reducible refine as9 ?_)); (first | go_big_want | go_step); go_step) | ((with_reducible refine gt9 _ (.pick _ _ _) ?_); (refine wplPickF rfl kr9 ?_; go_step)) | ((with_reducible refine gs9 41 ?_); (refine wplD _ (V.neq rfl rfl) kr9 (fun hB => ?_) (fun hB => ?_) <;> (try (have hF : False := (by omega); cases hF)) <;> go_step)) | ((with_reducible refine gs9 47 ?_); (refine wplD _ (V.neq rfl rfl) kr9 (fun hB => ?_) (fun hB => ?_) <;> (try (have hF : False := (by omega); cases hF)) <;> go_step)) | ((with_reducible refine gt9 _ (.extract _ _) ?_); (refine wvv9 (V.extract rfl rfl) ?_; go_step)) | ((with_reducible refine gt9 _ (.binOp .neq 25 _ _ _) ?_); (refine wvv9 (V.neq rfl rfl) ?_; go_step)) | ((with_reducible refine gt9 _ (.fieldAddr 69 _ 1) ?_); (refine wvv9 (V.fieldAddr fo69_1 rfl nq9) ?_; go_step)) | ((with_reducible refine gt9 _ (.fieldAddr 69 _ 2) ?_); (refine wvv9 (V.fieldAddr fo69_2 rfl nq9) ?_; go_step)) | ((with_reducible refine gt9 _ (.fieldAddr 69 _ 0) ?_); (refine wvv9 (V.fieldAddr fo69_0 rfl nq9) ?_; go_step)) | ((with_reducible refine gt9 _ (.binOp .add _ _ _ _) ?_); (refine wvv9 (V.addI rfl rfl (by omega)) ?_; go_step)) | ((with_reducible refine gt9 _ (.unOp .not _ _) ?_); (refine wvv9 (V.not rfl) ?_; go_step)) | ((with_reducible refine gs9 64 ?_); (refine wvv9 (V.build (vs := [(0, _)]) rfl (bl52_0 _)) ?_; go_step)) | ((with_reducible refine gs9 4 ?_); (refine wl9 ?_; apply wp_allocA (o := ⟨some 4, _, _, _, _, _⟩) hS 52 rfl (List.replicate 64 0) 64 List.length_replicate za52; clear hS; intro g4 w hS; refine put_move ?_; go_step)) | ((with_reducible refine gs9 8 ?_); (refine wl9 ?_; apply wp_alloc (o := ⟨some 8, _, _, _, _, _⟩) hS 69 rfl (.agg #[.int .i64 0, .int .i64 0, .int .i64 0]) [.int .i64 0, .int .i64 0, .int .i64 0] (fun w => Tryd.zeroValue69 w) rfl; clear hS; intro g8 w hS; refine put_move ?_; go_step)) | ((with_reducible refine gt9 _ (.store 69 _ _) ?_); (refine wl9 ?_; apply wp_storeG hS 69 _ _ rfl _ rfl 3 (row_of rfl) _ _; (case hp => exact pl9); (case hy => rfl); (case hn => rfl); (case hn' => rfl); (case hv => rfl); (case hd => exact rfl); clear hS; intro w hS)) | ((with_reducible refine gt9 _ (.store 52 _ _) ?_); (refine wl9 ?_; apply wp_storeA hS 52 _ _ rfl _ rfl 64 (row_of rfl) _ _; (case hp => exact pl9); (case hy => rfl); (case hm => (repeat (first | assumption | exact Len.rep | apply Len.set | ((with_reducible show Len (_ :: _) _); exact rfl)))); (case hd => exact rfl); clear hS; intro w hS)) | ((with_reducible refine gt9 _ (.load 69 _) ?_); (refine wl9 ?_; apply wp_loadG hS 69 _ rfl _ rfl 3 (row_of rfl) _; (case hp => exact pl9); (case hn => rfl); refine put_move ?_; go_step)) | ((with_reducible refine gt9 _ (.load 3 _) ?_); (refine wl9 ?_; apply wp_load1 hS 3 _ rfl _ _ rfl (one_of rfl) _; (case hp => exact pl9); (case hc => rfl); refine put_move ?_; go_step)) | ((with_reducible refine gs9 12 ?_); (refine wl9 ?_; apply wp_allocA (o := ⟨some 12, _, _, _, _, _⟩) hS 52 rfl (List.replicate 64 0) 64 List.length_replicate za52; clear hS; intro g12 w hS; refine put_move ?_; go_step)) | ((fail_if_success with_reducible refine ga9 ?_); go_step))
 all_goals (try (have hF : False := (by omega); cases hF))
 replace hS := hS.sub (xs := arr g12 64 ((List.replicate 64 0).set 0 (before + n)) :: own 69 3 (some ⟨g31, 0, none⟩) 1 1 [.int .i64 t0, .int .i64 t0, .int .i64 t2] :: arr g4 64 (List.replicate 64 0) :: Z.res s1 :: rs') sb9
 go_loopg [10, 13] 64 (fun gk ov av w => ∃ (at_ m : Nat) (bl : List Int) (all : List Tok) (a' : Option Addr) (c' : Nat) (s : σ), 65 ≤ gk + at_ ∧ 1 ≤ at_ ∧ at_ ≤ 64 ∧ m ≤ at_ ∧ av = .int .i64 at_ ∧ ov = .slice a' m c' ∧ Hid (all.length = m) ∧ Len bl 64 ∧ Hid (∀ i, i < 64 → -2047 ≤ nth bl i ∧ nth bl i ≤ 2047) ∧ Hid (frLoop Z.next gk at_ bl all s = R) ∧
  St W w (arr g12 64 bl :: own 69 3 a' m c' ((flt all).map (Value.int .i64)) :: arr g4 64 (List.replicate 64 0) :: Z.res s :: rs'))
 case atStart => exact ⟨1, 1, first0 (before + n), [(t0, t0, t2)], _, _, s1, by omega, by omega, by omega, by omega, rfl, rfl, hid rfl, hfl, HFb, HR, hS⟩
 case round =>
  clear hS HFb hfl
  obtain ⟨at_, m, bl, all, a', c', s, hga, h1a, ha64, hma, rfl, rfl, HAl, hbl, HBl, HLo, hS⟩ := hrel
  by_cases hlt : at_ < 64
  · obtain ⟨gk', rfl⟩ : ∃ x, gk = x + 1 := ⟨gk - 1, by omega⟩
    obtain ⟨⟨⟨u0, u1, u2⟩, er, s2⟩, hn⟩ : ∃ x, Z.next s false = x := ⟨_, rfl⟩
    have hlo := HLo.out
    rw [frLoop, if_neg (by omega), hn] at hlo
    dsimp only at hlo
    have HN2 := hid hn
    clear hn HLo
    by_cases he : er = 0
    case neg =>
     rw [if_pos he] at hlo
     have HF2 : Hid (frm Z.next before s0 = (er, nought0, [], s2)) := hid (by rw [HF.out, ← hlo]; exact if_pos he)
     clear hlo
     repeat' (first
      | ((with_reducible refine gs9 69 ?_); refine wl9 ?_; refine wp_callI rfl (.iface Z.tid Z.ptr) rfl [.bool false] rfl Z.f #[Z.ptr, .bool false] (Z.inv false) (Z.call _ _ _ s false _ _ _ _ _ hS pl9 HN2.out) ?_; clear hS; rintro e w ⟨rfl, hS⟩; refine ⟨_, rfl, ?_⟩; refine put_move ?_; go_step) | ((first | (with_reducible refine mv9 ?_) | (with_reducible refine as9 ?_)); (first | go_big_want | go_step); go_step) | ((with_reducible refine gs9 66 ?_); (refine wvv9 (V.lss rfl rfl) ?_; go_step)) | ((with_reducible refine gs9 70 ?_); (refine wvv9 (V.extract rfl rfl) ?_; go_step)) | ((with_reducible refine gs9 71 ?_); (refine wvv9 (V.extract rfl rfl) ?_; go_step)) | ((with_reducible refine gs9 14 ?_); (refine wl9 ?_; apply wp_alloc (o := ⟨some 14, _, _, _, _, _⟩) hS 69 rfl (.agg #[.int .i64 0, .int .i64 0, .int .i64 0]) [.int .i64 0, .int .i64 0, .int .i64 0] (fun w => Tryd.zeroValue69 w) rfl; clear hS; intro g14 w hS; refine put_move ?_; go_step)) | ((with_reducible refine gt9 _ (.store 69 _ _) ?_); (refine wl9 ?_; apply wp_storeG hS 69 _ _ rfl _ rfl 3 (row_of rfl) _ _; (case hp => exact pl9); (case hy => rfl); (case hn => rfl); (case hn' => rfl); (case hv => rfl); (case hd => exact rfl); clear hS; intro w hS)) | ((fail_if_success with_reducible refine ga9 ?_); go_step))
     all_goals (try (have hF : False := (by omega); cases hF))
     repeat' (first
      | ((with_reducible refine gs9 76 ?_); refine wl9 ?_; refine wp_callV (f := 70) rfl rfl Tryd.call70 (none_any _ _) ?_; rintro e w ⟨rfl, hE⟩; replace hS := hS.ext hE; clear hE; refine ⟨_, rfl, ?_⟩; refine put_move ?_; go_step) | ((first | (with_reducible refine mv9 ?_) | (with_reducible refine as9 ?_)); (first | go_big_want | go_step); go_step) | ((with_reducible refine gs9 73 ?_); (refine wvv9 (V.neq rfl rfl) ?_; go_step)) | ((with_reducible refine gs9 77 ?_); (refine wvv9 (V.extract rfl rfl) ?_; go_step)) | ((with_reducible refine gs9 78 ?_); (refine wvv9 (V.extract rfl rfl) ?_; go_step)) | ((with_reducible refine gs9 79 ?_); (refine wvv9 (V.extract rfl rfl) ?_; go_step)) | ((with_reducible refine gt9 _ (.store 52 _ _) ?_); (refine wl9 ?_; apply wp_storeA hS 52 _ _ rfl _ rfl 64 (row_of rfl) _ _; (case hp => exact pl9); (case hy => rfl); (case hm => (repeat (first | assumption | exact Len.rep | apply Len.set | ((with_reducible show Len (_ :: _) _); exact rfl)))); (case hd => exact rfl); clear hS; intro w hS)) | ((fail_if_success with_reducible refine ga9 ?_); go_step))
     refine ret_all (xs := [_, _, _]) rfl (.cons (OneRes.arr hS rfl (row_of (n := 64) rfl) pl9) (.cons (OneRes.tmp rfl) (.cons (OneRes.tmp rfl) (.nil)))) (by simp) rfl ?_
     exact from_no er HF2.out hS sb9
    subst he
    rw [if_neg (by simp)] at hlo
    obtain ⟨bd, hbd⟩ : ∃ b, badT (u0, u1, u2) = b := ⟨_, rfl⟩
    have hiff := badT_eq u0 u1 u2
    rw [hbd] at hiff hlo
    have HFl := hid (flt_snoc all (u0, u1, u2))
    dsimp only at HFl
    cases bd
    case true =>
     rw [if_pos rfl] at hlo
     have HF2 : Hid (frm Z.next before s0 = (4, nought0, [], s2)) := hid (by rw [HF.out, ← hlo]; exact if_pos (show (4 : Int) ≠ 0 by decide))
     have hor := hiff.1 rfl
     clear hlo hiff hbd
     by_cases hB2 : okB u1 u2 = true
     case neg =>
      have hB3 : okB u1 u2 = false := by simpa using hB2
      clear hor hB2
      repeat' (first
       | ((with_reducible refine gs9 69 ?_); refine wl9 ?_; refine wp_callI rfl (.iface Z.tid Z.ptr) rfl [.bool false] rfl Z.f #[Z.ptr, .bool false] (Z.inv false) (Z.call _ _ _ s false _ _ _ _ _ hS pl9 HN2.out) ?_; clear hS; rintro e w ⟨rfl, hS⟩; refine ⟨_, rfl, ?_⟩; refine put_move ?_; go_step) | ((first | (with_reducible refine mv9 ?_) | (with_reducible refine as9 ?_)); (first | go_big_want | go_step); go_step) | ((with_reducible refine gs9 66 ?_); (refine wvv9 (V.lss rfl rfl) ?_; go_step)) | ((with_reducible refine gs9 70 ?_); (refine wvv9 (V.extract rfl rfl) ?_; go_step)) | ((with_reducible refine gs9 71 ?_); (refine wvv9 (V.extract rfl rfl) ?_; go_step)) | ((with_reducible refine gs9 14 ?_); (refine wl9 ?_; apply wp_alloc (o := ⟨some 14, _, _, _, _, _⟩) hS 69 rfl (.agg #[.int .i64 0, .int .i64 0, .int .i64 0]) [.int .i64 0, .int .i64 0, .int .i64 0] (fun w => Tryd.zeroValue69 w) rfl; clear hS; intro g14 w hS; refine put_move ?_; go_step)) | ((with_reducible refine gt9 _ (.store 69 _ _) ?_); (refine wl9 ?_; apply wp_storeG hS 69 _ _ rfl _ rfl 3 (row_of rfl) _ _; (case hp => exact pl9); (case hy => rfl); (case hn => rfl); (case hn' => rfl); (case hv => rfl); (case hd => exact rfl); clear hS; intro w hS)) | ((fail_if_success with_reducible refine ga9 ?_); go_step))
      all_goals (try (have hF : False := (by omega); cases hF))
      repeat' (first
       | ((with_reducible refine gs9 89 ?_); refine wpl_call (f := 71) Tryd.call71 kr9 ?_; refine ⟨_, (back_no u1 u2 _ hB3), ?_⟩; rintro e w' ⟨rfl, rfl⟩; refine ⟨_, rfl, ?_⟩; refine put_move ?_; go_step) | ((first | (with_reducible refine mv9 ?_) | (with_reducible refine as9 ?_)); (first | go_big_want | go_step); go_step) | ((with_reducible refine gs9 73 ?_); (refine wvv9 (V.neq rfl rfl) ?_; go_step)) | ((with_reducible refine gs9 85 ?_); (refine wvv9 (V.fieldAddr fo69_1 rfl nq9) ?_; go_step)) | ((with_reducible refine gs9 87 ?_); (refine wvv9 (V.fieldAddr fo69_2 rfl nq9) ?_; go_step)) | ((with_reducible refine gs9 90 ?_); (refine wvv9 (V.extract rfl rfl) ?_; go_step)) | ((with_reducible refine gs9 91 ?_); (refine wvv9 (V.extract rfl rfl) ?_; go_step)) | ((with_reducible refine gt9 _ (.load 69 _) ?_); (refine wl9 ?_; apply wp_loadG hS 69 _ rfl _ rfl 3 (row_of rfl) _; (case hp => exact pl9); (case hn => rfl); refine put_move ?_; go_step)) | ((with_reducible refine gs9 82 ?_); (refine wl9 ?_; apply wp_buildSlice1 (o := ⟨some 82, _, _, _, _, _⟩) hS 100 1 _ rfl 69 3 24 el100 _ _; (case hvs => (repeat (first | exact Parts.nil | (apply Parts.agg; (rfl); (rfl)) | (apply Parts.one; exact isv9; (rfl); (rfl))))); (case hn => rfl); (case hn0 => decide); (case hns => decide); clear hS; intro g82 w hS; simp only [List.cons_append, List.nil_append] at hS; refine put_move ?_; go_step)) | ((with_reducible refine gs9 83 ?_); (refine wl9 ?_; apply wp_append (o := ⟨some 83, _, _, _, _, _⟩) hS _ _ 100 rfl 69 3 24 el100 _ _ _ _ rfl; (case hp => exact pl9); (case hx => exact rfl); (case hm => (first | exact hS.slBlk pl9 (by rfl) (by decide) | exact hS.sl pl9 | with_reducible assumption | exact Sl.ext (by with_reducible assumption) hS.1 | exact Sl.nil _ _ | exact Sl.ext (by assumption) hS.1 | assumption)); (case h1 => (first | exact oneAll rfl | exact oneMap _ _ | (intro u hu; cases hu))); (case h63 => unfold maxLen; omega); (case hb => omega); clear hS; intro ad83 c83 w hS; (first | simp only [mapk1] at hS | simp only [mapk2] at hS | simp only [mapk3] at hS | simp only [mapk4] at hS | simp only [mapkl] at hS | skip); refine put_move ?_; go_step)) | ((with_reducible refine gt9 _ (.load 3 _) ?_); (refine wl9 ?_; apply wp_load1 hS 3 _ rfl _ _ rfl (one_of rfl) _; (case hp => exact pl9); (case hc => rfl); refine put_move ?_; go_step)) | ((fail_if_success with_reducible refine ga9 ?_); go_step))
      all_goals (try (have hF : False := (by omega); cases hF))
      repeat' (first
       | ((with_reducible refine gs9 133 ?_); refine wl9 ?_; refine wp_callV (f := 70) rfl rfl Tryd.call70 (none_any _ _) ?_; rintro e w ⟨rfl, hE⟩; replace hS := hS.ext hE; clear hE; refine ⟨_, rfl, ?_⟩; refine put_move ?_; go_step) | go_big_skip | ((first | (with_reducible refine mv9 ?_) | (with_reducible refine as9 ?_)); (first | go_big_want | go_step); go_step) | ((with_reducible refine gt9 _ (.pick _ _ _) ?_); (refine wplPickT rfl kr9 ?_; go_step)) | ((with_reducible refine gs9 93 ?_); (refine wplD _ (V.neq rfl rfl) kr9 (fun hB => ?_) (fun hB => ?_) <;> (try (have hF : False := (by omega); cases hF)) <;> go_step)) | ((with_reducible refine gs9 134 ?_); (refine wvv9 (V.extract rfl rfl) ?_; go_step)) | ((with_reducible refine gs9 135 ?_); (refine wvv9 (V.extract rfl rfl) ?_; go_step)) | ((with_reducible refine gs9 136 ?_); (refine wvv9 (V.extract rfl rfl) ?_; go_step)) | ((with_reducible refine gt9 _ (.store 52 _ _) ?_); (refine wl9 ?_; apply wp_storeA hS 52 _ _ rfl _ rfl 64 (row_of rfl) _ _; (case hp => exact pl9); (case hy => rfl); (case hm => (repeat (first | assumption | exact Len.rep | apply Len.set | ((with_reducible show Len (_ :: _) _); exact rfl)))); (case hd => exact rfl); clear hS; intro w hS)) | ((fail_if_success with_reducible refine ga9 ?_); go_step))
      all_goals (try (have hF : False := (by omega); cases hF))
      all_goals
       refine ret_all (xs := [_, _, _]) rfl (.cons (OneRes.arr hS rfl (row_of (n := 64) rfl) pl9) (.cons (OneRes.tmp rfl) (.cons (OneRes.tmp rfl) (.nil)))) (by simp) rfl ?_
       exact from_no 4 HF2.out hS sb9
     have hor2 : 11 < u1 ∨ u0 < 0 ∨ 255 < u0 ∨ u1 ≠ u0 % 16 ∨ (u1 = 0 ∧ u0 ≠ 0 ∧ u0 ≠ 240) := by
      rcases hor with h | h
      · rw [hB2] at h; cases h
      · exact h
     clear hor
     obtain ⟨n2, hn2⟩ : ∃ x, sback u1.toNat u2.toNat = x := ⟨_, rfl⟩
     have HNb := hid hn2
     clear hn2
     by_cases hr : 0 ≤ u0 ∧ u0 ≤ 255
     case pos =>
      have HAnd := hid (and15 u0 hr)
      have hor3 : 11 < u1 ∨ u1 ≠ u0 % 16 ∨ (u1 = 0 ∧ u0 ≠ 0 ∧ u0 ≠ 240) := by omega
      clear hor2
      repeat' (first
       | ((with_reducible refine gs9 69 ?_); refine wl9 ?_; refine wp_callI rfl (.iface Z.tid Z.ptr) rfl [.bool false] rfl Z.f #[Z.ptr, .bool false] (Z.inv false) (Z.call _ _ _ s false _ _ _ _ _ hS pl9 HN2.out) ?_; clear hS; rintro e w ⟨rfl, hS⟩; refine ⟨_, rfl, ?_⟩; refine put_move ?_; go_step) | ((first | (with_reducible refine mv9 ?_) | (with_reducible refine as9 ?_)); (first | go_big_want | go_step); go_step) | ((with_reducible refine gs9 66 ?_); (refine wvv9 (V.lss rfl rfl) ?_; go_step)) | ((with_reducible refine gs9 70 ?_); (refine wvv9 (V.extract rfl rfl) ?_; go_step)) | ((with_reducible refine gs9 71 ?_); (refine wvv9 (V.extract rfl rfl) ?_; go_step)) | ((with_reducible refine gs9 14 ?_); (refine wl9 ?_; apply wp_alloc (o := ⟨some 14, _, _, _, _, _⟩) hS 69 rfl (.agg #[.int .i64 0, .int .i64 0, .int .i64 0]) [.int .i64 0, .int .i64 0, .int .i64 0] (fun w => Tryd.zeroValue69 w) rfl; clear hS; intro g14 w hS; refine put_move ?_; go_step)) | ((with_reducible refine gt9 _ (.store 69 _ _) ?_); (refine wl9 ?_; apply wp_storeG hS 69 _ _ rfl _ rfl 3 (row_of rfl) _ _; (case hp => exact pl9); (case hy => rfl); (case hn => rfl); (case hn' => rfl); (case hv => rfl); (case hd => exact rfl); clear hS; intro w hS)) | ((fail_if_success with_reducible refine ga9 ?_); go_step))
      all_goals (try (have hF : False := (by omega); cases hF))
      repeat' (first
       | ((with_reducible refine gs9 89 ?_); refine wpl_call (f := 71) Tryd.call71 kr9 ?_; refine ⟨_, (back_yes u1 u2 _ hB2), ?_⟩; rintro e w' ⟨rfl, rfl⟩; rw [HNb.out]; refine ⟨_, rfl, ?_⟩; refine put_move ?_; go_step) | ((first | (with_reducible refine mv9 ?_) | (with_reducible refine as9 ?_)); (first | go_big_want | go_step); go_step) | ((with_reducible refine gs9 73 ?_); (refine wvv9 (V.neq rfl rfl) ?_; go_step)) | ((with_reducible refine gs9 85 ?_); (refine wvv9 (V.fieldAddr fo69_1 rfl nq9) ?_; go_step)) | ((with_reducible refine gs9 87 ?_); (refine wvv9 (V.fieldAddr fo69_2 rfl nq9) ?_; go_step)) | ((with_reducible refine gs9 90 ?_); (refine wvv9 (V.extract rfl rfl) ?_; go_step)) | ((with_reducible refine gs9 91 ?_); (refine wvv9 (V.extract rfl rfl) ?_; go_step)) | ((with_reducible refine gt9 _ (.load 69 _) ?_); (refine wl9 ?_; apply wp_loadG hS 69 _ rfl _ rfl 3 (row_of rfl) _; (case hp => exact pl9); (case hn => rfl); refine put_move ?_; go_step)) | ((with_reducible refine gs9 82 ?_); (refine wl9 ?_; apply wp_buildSlice1 (o := ⟨some 82, _, _, _, _, _⟩) hS 100 1 _ rfl 69 3 24 el100 _ _; (case hvs => (repeat (first | exact Parts.nil | (apply Parts.agg; (rfl); (rfl)) | (apply Parts.one; exact isv9; (rfl); (rfl))))); (case hn => rfl); (case hn0 => decide); (case hns => decide); clear hS; intro g82 w hS; simp only [List.cons_append, List.nil_append] at hS; refine put_move ?_; go_step)) | ((with_reducible refine gs9 83 ?_); (refine wl9 ?_; apply wp_append (o := ⟨some 83, _, _, _, _, _⟩) hS _ _ 100 rfl 69 3 24 el100 _ _ _ _ rfl; (case hp => exact pl9); (case hx => exact rfl); (case hm => (first | exact hS.slBlk pl9 (by rfl) (by decide) | exact hS.sl pl9 | with_reducible assumption | exact Sl.ext (by with_reducible assumption) hS.1 | exact Sl.nil _ _ | exact Sl.ext (by assumption) hS.1 | assumption)); (case h1 => (first | exact oneAll rfl | exact oneMap _ _ | (intro u hu; cases hu))); (case h63 => unfold maxLen; omega); (case hb => omega); clear hS; intro ad83 c83 w hS; (first | simp only [mapk1] at hS | simp only [mapk2] at hS | simp only [mapk3] at hS | simp only [mapk4] at hS | simp only [mapkl] at hS | skip); refine put_move ?_; go_step)) | ((with_reducible refine gt9 _ (.load 3 _) ?_); (refine wl9 ?_; apply wp_load1 hS 3 _ rfl _ _ rfl (one_of rfl) _; (case hp => exact pl9); (case hc => rfl); refine put_move ?_; go_step)) | ((fail_if_success with_reducible refine ga9 ?_); go_step))
      all_goals (try (have hF : False := (by omega); cases hF))
      repeat' (first
       | ((with_reducible refine gs9 99 ?_); (refine wplV (.int _ ((u0 % 16))) (V.as (V.and rfl rfl) (by exact HAnd.out)) rfl ?_; go_step)) | ((with_reducible refine gs9 133 ?_); refine wl9 ?_; refine wp_callV (f := 70) rfl rfl Tryd.call70 (none_any _ _) ?_; rintro e w ⟨rfl, hE⟩; replace hS := hS.ext hE; clear hE; refine ⟨_, rfl, ?_⟩; refine put_move ?_; go_step) | go_big_skip | ((first | (with_reducible refine mv9 ?_) | (with_reducible refine as9 ?_)); (first | go_big_want | go_step); go_step) | ((with_reducible refine gt9 _ (.pick _ _ _) ?_); first | (refine wplPickT rfl kr9 ?_; go_step) | (refine wplPickF rfl kr9 ?_; go_step)) | ((with_reducible refine gs9 93 ?_); (refine wplD _ (V.neq rfl rfl) kr9 (fun hB => ?_) (fun hB => ?_) <;> (try (have hF : False := (by omega); cases hF)) <;> go_step)) | ((with_reducible refine gs9 100 ?_); (refine wplD _ (V.neq rfl rfl) kr9 (fun hB => ?_) (fun hB => ?_) <;> (try (have hF : False := (by omega); cases hF)) <;> go_step)) | ((with_reducible refine gs9 105 ?_); (refine wplD _ (V.gtr rfl rfl) kr9 (fun hB => ?_) (fun hB => ?_) <;> (try (have hF : False := (by omega); cases hF)) <;> go_step)) | ((with_reducible refine gs9 110 ?_); (refine wplD _ (V.lss rfl rfl) kr9 (fun hB => ?_) (fun hB => ?_) <;> (try (have hF : False := (by omega); cases hF)) <;> go_step)) | ((with_reducible refine gs9 115 ?_); (refine wplD _ (V.gtr rfl rfl) kr9 (fun hB => ?_) (fun hB => ?_) <;> (try (have hF : False := (by omega); cases hF)) <;> go_step)) | ((with_reducible refine gs9 120 ?_); (refine wplD _ (V.eql rfl rfl) kr9 (fun hB => ?_) (fun hB => ?_) <;> (try (have hF : False := (by omega); cases hF)) <;> go_step)) | ((with_reducible refine gs9 124 ?_); (refine wplD _ (V.neq rfl rfl) kr9 (fun hB => ?_) (fun hB => ?_) <;> (try (have hF : False := (by omega); cases hF)) <;> go_step)) | ((with_reducible refine gs9 95 ?_); (refine wvv9 (V.fieldAddr fo69_1 rfl nq9) ?_; go_step)) | ((with_reducible refine gs9 97 ?_); (refine wvv9 (V.fieldAddr fo69_0 rfl nq9) ?_; go_step)) | ((with_reducible refine gs9 103 ?_); (refine wvv9 (V.fieldAddr fo69_1 rfl nq9) ?_; go_step)) | ((with_reducible refine gs9 108 ?_); (refine wvv9 (V.fieldAddr fo69_0 rfl nq9) ?_; go_step)) | ((with_reducible refine gs9 113 ?_); (refine wvv9 (V.fieldAddr fo69_0 rfl nq9) ?_; go_step)) | ((with_reducible refine gs9 118 ?_); (refine wvv9 (V.fieldAddr fo69_1 rfl nq9) ?_; go_step)) | ((with_reducible refine gs9 122 ?_); (refine wvv9 (V.fieldAddr fo69_0 rfl nq9) ?_; go_step)) | ((with_reducible refine gs9 127 ?_); (refine wvv9 (V.fieldAddr fo69_0 rfl nq9) ?_; go_step)) | ((with_reducible refine gs9 129 ?_); (refine wvv9 (V.neq rfl rfl) ?_; go_step)) | ((with_reducible refine gs9 134 ?_); (refine wvv9 (V.extract rfl rfl) ?_; go_step)) | ((with_reducible refine gs9 135 ?_); (refine wvv9 (V.extract rfl rfl) ?_; go_step)) | ((with_reducible refine gs9 136 ?_); (refine wvv9 (V.extract rfl rfl) ?_; go_step)) | ((with_reducible refine gt9 _ (.load 3 _) ?_); (refine wl9 ?_; apply wp_load1 hS 3 _ rfl _ _ rfl (one_of rfl) _; (case hp => exact pl9); (case hc => rfl); refine put_move ?_; go_step)) | ((with_reducible refine gt9 _ (.store 52 _ _) ?_); (refine wl9 ?_; apply wp_storeA hS 52 _ _ rfl _ rfl 64 (row_of rfl) _ _; (case hp => exact pl9); (case hy => rfl); (case hm => (repeat (first | assumption | exact Len.rep | apply Len.set | ((with_reducible show Len (_ :: _) _); exact rfl)))); (case hd => exact rfl); clear hS; intro w hS)) | ((fail_if_success with_reducible refine ga9 ?_); go_step))
      all_goals (try (have hF : False := (by omega); cases hF))
      all_goals
       refine ret_all (xs := [_, _, _]) rfl (.cons (OneRes.arr hS rfl (row_of (n := 64) rfl) pl9) (.cons (OneRes.tmp rfl) (.cons (OneRes.tmp rfl) (.nil)))) (by simp) rfl ?_
       exact from_no 4 HF2.out hS sb9
     case neg =>
      have hr2 : u0 < 0 ∨ 255 < u0 := by omega
      clear hor2 hr
      repeat' (first
       | ((with_reducible refine gs9 69 ?_); refine wl9 ?_; refine wp_callI rfl (.iface Z.tid Z.ptr) rfl [.bool false] rfl Z.f #[Z.ptr, .bool false] (Z.inv false) (Z.call _ _ _ s false _ _ _ _ _ hS pl9 HN2.out) ?_; clear hS; rintro e w ⟨rfl, hS⟩; refine ⟨_, rfl, ?_⟩; refine put_move ?_; go_step) | ((first | (with_reducible refine mv9 ?_) | (with_reducible refine as9 ?_)); (first | go_big_want | go_step); go_step) | ((with_reducible refine gs9 66 ?_); (refine wvv9 (V.lss rfl rfl) ?_; go_step)) | ((with_reducible refine gs9 70 ?_); (refine wvv9 (V.extract rfl rfl) ?_; go_step)) | ((with_reducible refine gs9 71 ?_); (refine wvv9 (V.extract rfl rfl) ?_; go_step)) | ((with_reducible refine gs9 14 ?_); (refine wl9 ?_; apply wp_alloc (o := ⟨some 14, _, _, _, _, _⟩) hS 69 rfl (.agg #[.int .i64 0, .int .i64 0, .int .i64 0]) [.int .i64 0, .int .i64 0, .int .i64 0] (fun w => Tryd.zeroValue69 w) rfl; clear hS; intro g14 w hS; refine put_move ?_; go_step)) | ((with_reducible refine gt9 _ (.store 69 _ _) ?_); (refine wl9 ?_; apply wp_storeG hS 69 _ _ rfl _ rfl 3 (row_of rfl) _ _; (case hp => exact pl9); (case hy => rfl); (case hn => rfl); (case hn' => rfl); (case hv => rfl); (case hd => exact rfl); clear hS; intro w hS)) | ((fail_if_success with_reducible refine ga9 ?_); go_step))
      all_goals (try (have hF : False := (by omega); cases hF))
      repeat' (first
       | ((with_reducible refine gs9 89 ?_); refine wpl_call (f := 71) Tryd.call71 kr9 ?_; refine ⟨_, (back_yes u1 u2 _ hB2), ?_⟩; rintro e w' ⟨rfl, rfl⟩; rw [HNb.out]; refine ⟨_, rfl, ?_⟩; refine put_move ?_; go_step) | ((first | (with_reducible refine mv9 ?_) | (with_reducible refine as9 ?_)); (first | go_big_want | go_step); go_step) | ((with_reducible refine gs9 73 ?_); (refine wvv9 (V.neq rfl rfl) ?_; go_step)) | ((with_reducible refine gs9 85 ?_); (refine wvv9 (V.fieldAddr fo69_1 rfl nq9) ?_; go_step)) | ((with_reducible refine gs9 87 ?_); (refine wvv9 (V.fieldAddr fo69_2 rfl nq9) ?_; go_step)) | ((with_reducible refine gs9 90 ?_); (refine wvv9 (V.extract rfl rfl) ?_; go_step)) | ((with_reducible refine gs9 91 ?_); (refine wvv9 (V.extract rfl rfl) ?_; go_step)) | ((with_reducible refine gt9 _ (.load 69 _) ?_); (refine wl9 ?_; apply wp_loadG hS 69 _ rfl _ rfl 3 (row_of rfl) _; (case hp => exact pl9); (case hn => rfl); refine put_move ?_; go_step)) | ((with_reducible refine gs9 82 ?_); (refine wl9 ?_; apply wp_buildSlice1 (o := ⟨some 82, _, _, _, _, _⟩) hS 100 1 _ rfl 69 3 24 el100 _ _; (case hvs => (repeat (first | exact Parts.nil | (apply Parts.agg; (rfl); (rfl)) | (apply Parts.one; exact isv9; (rfl); (rfl))))); (case hn => rfl); (case hn0 => decide); (case hns => decide); clear hS; intro g82 w hS; simp only [List.cons_append, List.nil_append] at hS; refine put_move ?_; go_step)) | ((with_reducible refine gs9 83 ?_); (refine wl9 ?_; apply wp_append (o := ⟨some 83, _, _, _, _, _⟩) hS _ _ 100 rfl 69 3 24 el100 _ _ _ _ rfl; (case hp => exact pl9); (case hx => exact rfl); (case hm => (first | exact hS.slBlk pl9 (by rfl) (by decide) | exact hS.sl pl9 | with_reducible assumption | exact Sl.ext (by with_reducible assumption) hS.1 | exact Sl.nil _ _ | exact Sl.ext (by assumption) hS.1 | assumption)); (case h1 => (first | exact oneAll rfl | exact oneMap _ _ | (intro u hu; cases hu))); (case h63 => unfold maxLen; omega); (case hb => omega); clear hS; intro ad83 c83 w hS; (first | simp only [mapk1] at hS | simp only [mapk2] at hS | simp only [mapk3] at hS | simp only [mapk4] at hS | simp only [mapkl] at hS | skip); refine put_move ?_; go_step)) | ((with_reducible refine gt9 _ (.load 3 _) ?_); (refine wl9 ?_; apply wp_load1 hS 3 _ rfl _ _ rfl (one_of rfl) _; (case hp => exact pl9); (case hc => rfl); refine put_move ?_; go_step)) | ((fail_if_success with_reducible refine ga9 ?_); go_step))
      all_goals (try (have hF : False := (by omega); cases hF))
      repeat' (first
       | ((with_reducible refine gs9 133 ?_); refine wl9 ?_; refine wp_callV (f := 70) rfl rfl Tryd.call70 (none_any _ _) ?_; rintro e w ⟨rfl, hE⟩; replace hS := hS.ext hE; clear hE; refine ⟨_, rfl, ?_⟩; refine put_move ?_; go_step) | go_big_skip | ((first | (with_reducible refine mv9 ?_) | (with_reducible refine as9 ?_)); (first | go_big_want | go_step); go_step) | ((with_reducible refine gt9 _ (.pick _ _ _) ?_); first | (refine wplPickT rfl kr9 ?_; go_step) | (refine wplPickF rfl kr9 ?_; go_step)) | ((with_reducible refine gs9 93 ?_); (refine wplD _ (V.neq rfl rfl) kr9 (fun hB => ?_) (fun hB => ?_) <;> (try (have hF : False := (by omega); cases hF)) <;> go_step)) | ((with_reducible refine gs9 100 ?_); (refine wplD _ (V.neq rfl rfl) kr9 (fun hB => ?_) (fun hB => ?_) <;> (try (have hF : False := (by omega); cases hF)) <;> go_step)) | ((with_reducible refine gs9 105 ?_); (refine wplD _ (V.gtr rfl rfl) kr9 (fun hB => ?_) (fun hB => ?_) <;> (try (have hF : False := (by omega); cases hF)) <;> go_step)) | ((with_reducible refine gs9 110 ?_); (refine wplD _ (V.lss rfl rfl) kr9 (fun hB => ?_) (fun hB => ?_) <;> (try (have hF : False := (by omega); cases hF)) <;> go_step)) | ((with_reducible refine gs9 115 ?_); (refine wplD _ (V.gtr rfl rfl) kr9 (fun hB => ?_) (fun hB => ?_) <;> (try (have hF : False := (by omega); cases hF)) <;> go_step)) | ((with_reducible refine gs9 95 ?_); (refine wvv9 (V.fieldAddr fo69_1 rfl nq9) ?_; go_step)) | ((with_reducible refine gs9 97 ?_); (refine wvv9 (V.fieldAddr fo69_0 rfl nq9) ?_; go_step)) | ((with_reducible refine gs9 99 ?_); (refine wvv9 (V.and rfl rfl) ?_; go_step)) | ((with_reducible refine gs9 103 ?_); (refine wvv9 (V.fieldAddr fo69_1 rfl nq9) ?_; go_step)) | ((with_reducible refine gs9 108 ?_); (refine wvv9 (V.fieldAddr fo69_0 rfl nq9) ?_; go_step)) | ((with_reducible refine gs9 113 ?_); (refine wvv9 (V.fieldAddr fo69_0 rfl nq9) ?_; go_step)) | ((with_reducible refine gs9 134 ?_); (refine wvv9 (V.extract rfl rfl) ?_; go_step)) | ((with_reducible refine gs9 135 ?_); (refine wvv9 (V.extract rfl rfl) ?_; go_step)) | ((with_reducible refine gs9 136 ?_); (refine wvv9 (V.extract rfl rfl) ?_; go_step)) | ((with_reducible refine gt9 _ (.load 3 _) ?_); (refine wl9 ?_; apply wp_load1 hS 3 _ rfl _ _ rfl (one_of rfl) _; (case hp => exact pl9); (case hc => rfl); refine put_move ?_; go_step)) | ((with_reducible refine gt9 _ (.store 52 _ _) ?_); (refine wl9 ?_; apply wp_storeA hS 52 _ _ rfl _ rfl 64 (row_of rfl) _ _; (case hp => exact pl9); (case hy => rfl); (case hm => (repeat (first | assumption | exact Len.rep | apply Len.set | ((with_reducible show Len (_ :: _) _); exact rfl)))); (case hd => exact rfl); clear hS; intro w hS)) | ((fail_if_success with_reducible refine ga9 ?_); go_step))
      all_goals (try (have hF : False := (by omega); cases hF))
      all_goals
       refine ret_all (xs := [_, _, _]) rfl (.cons (OneRes.arr hS rfl (row_of (n := 64) rfl) pl9) (.cons (OneRes.tmp rfl) (.cons (OneRes.tmp rfl) (.nil)))) (by simp) rfl ?_
       exact from_no 4 HF2.out hS sb9
    case false =>
     rw [if_neg (by simp)] at hlo
     have hgood : okB u1 u2 = true ∧ u1 ≤ 11 ∧ 0 ≤ u0 ∧ u0 ≤ 255 ∧ u1 = u0 % 16 ∧ (u1 ≠ 0 ∨ u0 = 0 ∨ u0 = 240) := by
      by_cases hB2 : okB u1 u2 = true
      · refine ⟨hB2, ?_⟩
        have hno : ¬ (11 < u1 ∨ u0 < 0 ∨ 255 < u0 ∨ u1 ≠ u0 % 16 ∨ (u1 = 0 ∧ u0 ≠ 0 ∧ u0 ≠ 240)) := fun h => by have := hiff.2 (.inr h); cases this
        omega
      · have := hiff.2 (.inl (by simpa using hB2)); cases this
     obtain ⟨hB2, g1, g2, g3, g4, g5⟩ := hgood
     have HAnd := hid (and15 u0 ⟨g2, g3⟩)
     obtain ⟨nb1, nb2, nb3⟩ := numT_bd u0 u1 u2 hB2
     have nb4 := nb3 g1
     obtain ⟨n2, hn2⟩ : ∃ x, numT (u0, u1, u2) = x := ⟨_, rfl⟩
     rw [hn2] at nb4 hlo
     have HNb : Hid (sback u1.toNat u2.toNat = n2) := hid hn2
     clear hiff hbd hn2 nb1 nb2 nb3
     by_cases hend : u0 = 0
     case pos =>
      rw [if_pos hend] at hlo
      have HLo2 := hid hlo
      have HAl2 : Hid ((all ++ [(u0, u1, u2)]).length = m + 1) := hid (by rw [List.length_append, HAl.out]; rfl)
      clear hlo HAl
      obtain ⟨al2, hal2⟩ : ∃ x, all ++ [(u0, u1, u2)] = x := ⟨_, rfl⟩
      rw [hal2] at HLo2 HAl2 HFl
      clear hal2
      obtain ⟨zf, hzf⟩ : ∃ x, zfrom bl = x := ⟨_, rfl⟩
      have hzl : Len zf 64 := by rw [← hzf]; exact zfrom_len bl
      have HZf : Veil (zfrom bl = zf) := ⟨hzf⟩
      clear hzf
      repeat' (first
       | ((with_reducible refine gs9 69 ?_); refine wl9 ?_; refine wp_callI rfl (.iface Z.tid Z.ptr) rfl [.bool false] rfl Z.f #[Z.ptr, .bool false] (Z.inv false) (Z.call _ _ _ s false _ _ _ _ _ hS pl9 HN2.out) ?_; clear hS; rintro e w ⟨rfl, hS⟩; refine ⟨_, rfl, ?_⟩; refine put_move ?_; go_step) | ((first | (with_reducible refine mv9 ?_) | (with_reducible refine as9 ?_)); (first | go_big_want | go_step); go_step) | ((with_reducible refine gs9 66 ?_); (refine wvv9 (V.lss rfl rfl) ?_; go_step)) | ((with_reducible refine gs9 70 ?_); (refine wvv9 (V.extract rfl rfl) ?_; go_step)) | ((with_reducible refine gs9 71 ?_); (refine wvv9 (V.extract rfl rfl) ?_; go_step)) | ((with_reducible refine gs9 14 ?_); (refine wl9 ?_; apply wp_alloc (o := ⟨some 14, _, _, _, _, _⟩) hS 69 rfl (.agg #[.int .i64 0, .int .i64 0, .int .i64 0]) [.int .i64 0, .int .i64 0, .int .i64 0] (fun w => Tryd.zeroValue69 w) rfl; clear hS; intro g14 w hS; refine put_move ?_; go_step)) | ((with_reducible refine gt9 _ (.store 69 _ _) ?_); (refine wl9 ?_; apply wp_storeG hS 69 _ _ rfl _ rfl 3 (row_of rfl) _ _; (case hp => exact pl9); (case hy => rfl); (case hn => rfl); (case hn' => rfl); (case hv => rfl); (case hd => exact rfl); clear hS; intro w hS)) | ((fail_if_success with_reducible refine ga9 ?_); go_step))
      all_goals (try (have hF : False := (by omega); cases hF))
      repeat' (first
       | ((with_reducible refine gs9 89 ?_); refine wpl_call (f := 71) Tryd.call71 kr9 ?_; refine ⟨_, (back_yes u1 u2 _ hB2), ?_⟩; rintro e w' ⟨rfl, rfl⟩; rw [HNb.out]; refine ⟨_, rfl, ?_⟩; refine put_move ?_; go_step) | ((first | (with_reducible refine mv9 ?_) | (with_reducible refine as9 ?_)); (first | go_big_want | go_step); go_step) | ((with_reducible refine gs9 73 ?_); (refine wvv9 (V.neq rfl rfl) ?_; go_step)) | ((with_reducible refine gs9 85 ?_); (refine wvv9 (V.fieldAddr fo69_1 rfl nq9) ?_; go_step)) | ((with_reducible refine gs9 87 ?_); (refine wvv9 (V.fieldAddr fo69_2 rfl nq9) ?_; go_step)) | ((with_reducible refine gs9 90 ?_); (refine wvv9 (V.extract rfl rfl) ?_; go_step)) | ((with_reducible refine gs9 91 ?_); (refine wvv9 (V.extract rfl rfl) ?_; go_step)) | ((with_reducible refine gt9 _ (.load 69 _) ?_); (refine wl9 ?_; apply wp_loadG hS 69 _ rfl _ rfl 3 (row_of rfl) _; (case hp => exact pl9); (case hn => rfl); refine put_move ?_; go_step)) | ((with_reducible refine gs9 82 ?_); (refine wl9 ?_; apply wp_buildSlice1 (o := ⟨some 82, _, _, _, _, _⟩) hS 100 1 _ rfl 69 3 24 el100 _ _; (case hvs => (repeat (first | exact Parts.nil | (apply Parts.agg; (rfl); (rfl)) | (apply Parts.one; exact isv9; (rfl); (rfl))))); (case hn => rfl); (case hn0 => decide); (case hns => decide); clear hS; intro g82 w hS; simp only [List.cons_append, List.nil_append] at hS; refine put_move ?_; go_step)) | ((with_reducible refine gs9 83 ?_); (refine wl9 ?_; apply wp_append (o := ⟨some 83, _, _, _, _, _⟩) hS _ _ 100 rfl 69 3 24 el100 _ _ _ _ rfl; (case hp => exact pl9); (case hx => exact rfl); (case hm => (first | exact hS.slBlk pl9 (by rfl) (by decide) | exact hS.sl pl9 | with_reducible assumption | exact Sl.ext (by with_reducible assumption) hS.1 | exact Sl.nil _ _ | exact Sl.ext (by assumption) hS.1 | assumption)); (case h1 => (first | exact oneAll rfl | exact oneMap _ _ | (intro u hu; cases hu))); (case h63 => unfold maxLen; omega); (case hb => omega); clear hS; intro ad83 c83 w hS; (first | simp only [mapk1] at hS | simp only [mapk2] at hS | simp only [mapk3] at hS | simp only [mapk4] at hS | simp only [mapkl] at hS | skip); refine put_move ?_; go_step)) | ((with_reducible refine gt9 _ (.load 3 _) ?_); (refine wl9 ?_; apply wp_load1 hS 3 _ rfl _ _ rfl (one_of rfl) _; (case hp => exact pl9); (case hc => rfl); refine put_move ?_; go_step)) | ((fail_if_success with_reducible refine ga9 ?_); go_step))
      all_goals (try (have hF : False := (by omega); cases hF))
      repeat' (first
       | ((with_reducible refine gs9 99 ?_); (refine wplV (.int _ ((u0 % 16))) (V.as (V.and rfl rfl) (by exact HAnd.out)) rfl ?_; go_step)) | go_big_skip | ((with_reducible refine mv9 ?_); (first | go_big_want | go_step); go_step) | ((with_reducible refine gt9 _ (.pick _ _ _) ?_); first | (refine wplPickT rfl kr9 ?_; go_step) | (refine wplPickF rfl kr9 ?_; go_step)) | ((with_reducible refine gs9 93 ?_); (refine wplD _ (V.neq rfl rfl) kr9 (fun hB => ?_) (fun hB => ?_) <;> (try (have hF : False := (by omega); cases hF)) <;> go_step)) | ((with_reducible refine gs9 100 ?_); (refine wplD _ (V.neq rfl rfl) kr9 (fun hB => ?_) (fun hB => ?_) <;> (try (have hF : False := (by omega); cases hF)) <;> go_step)) | ((with_reducible refine gs9 105 ?_); (refine wplD _ (V.gtr rfl rfl) kr9 (fun hB => ?_) (fun hB => ?_) <;> (try (have hF : False := (by omega); cases hF)) <;> go_step)) | ((with_reducible refine gs9 110 ?_); (refine wplD _ (V.lss rfl rfl) kr9 (fun hB => ?_) (fun hB => ?_) <;> (try (have hF : False := (by omega); cases hF)) <;> go_step)) | ((with_reducible refine gs9 115 ?_); (refine wplD _ (V.gtr rfl rfl) kr9 (fun hB => ?_) (fun hB => ?_) <;> (try (have hF : False := (by omega); cases hF)) <;> go_step)) | ((with_reducible refine gs9 120 ?_); (refine wplD _ (V.eql rfl rfl) kr9 (fun hB => ?_) (fun hB => ?_) <;> (try (have hF : False := (by omega); cases hF)) <;> go_step)) | ((with_reducible refine gs9 124 ?_); (refine wplD _ (V.neq rfl rfl) kr9 (fun hB => ?_) (fun hB => ?_) <;> (try (have hF : False := (by omega); cases hF)) <;> go_step)) | ((with_reducible refine gs9 95 ?_); (refine wvv9 (V.fieldAddr fo69_1 rfl nq9) ?_; go_step)) | ((with_reducible refine gs9 97 ?_); (refine wvv9 (V.fieldAddr fo69_0 rfl nq9) ?_; go_step)) | ((with_reducible refine gs9 103 ?_); (refine wvv9 (V.fieldAddr fo69_1 rfl nq9) ?_; go_step)) | ((with_reducible refine gs9 108 ?_); (refine wvv9 (V.fieldAddr fo69_0 rfl nq9) ?_; go_step)) | ((with_reducible refine gs9 113 ?_); (refine wvv9 (V.fieldAddr fo69_0 rfl nq9) ?_; go_step)) | ((with_reducible refine gs9 118 ?_); (refine wvv9 (V.fieldAddr fo69_1 rfl nq9) ?_; go_step)) | ((with_reducible refine gs9 122 ?_); (refine wvv9 (V.fieldAddr fo69_0 rfl nq9) ?_; go_step)) | ((with_reducible refine gt9 _ (.load 3 _) ?_); (refine wl9 ?_; apply wp_load1 hS 3 _ rfl _ _ rfl (one_of rfl) _; (case hp => exact pl9); (case hc => rfl); refine put_move ?_; go_step)) | ((fail_if_success with_reducible refine ga9 ?_); go_step))
      all_goals (try (have hF : False := (by omega); cases hF))
      repeat' (first
       | ((with_reducible refine gs9 137 ?_); (refine wvv9 (V.fieldAddr fo69_0 rfl nq9) ?_; go_step)) | ((with_reducible refine gs9 139 ?_); (refine wvv9 (V.eql rfl rfl) ?_; go_step)) | ((with_reducible refine gt9 _ (.load 3 _) ?_); (refine wl9 ?_; apply wp_load1 hS 3 _ rfl _ _ rfl (one_of rfl) _; (case hp => exact pl9); (case hc => rfl); refine put_move ?_; go_step)) | ((fail_if_success with_reducible refine ga9 ?_); go_step))
      all_goals (try (have hF : False := (by omega); cases hF))
      repeat' (first
       | ((with_reducible refine gt9 _ (.call ⟨.value (.func 73), _, _⟩) ?_); refine wpl_call (f := 73) Tryd.call73 kr9 ?_; refine ⟨_, (zfrom_any _ bl hbl.out), ?_⟩; rintro e w ⟨rfl, hE⟩; rw [HZf.out]; replace hS := hS.ext hE; clear hE; refine ⟨_, rfl, ?_⟩; refine put_move ?_; go_step) | ((with_reducible refine mv9 ?_); (first | go_big_want | go_step); go_step) | ((with_reducible refine gt9 _ (.load 52 _) ?_); (refine wl9 ?_; apply wp_loadA hS 52 _ rfl _ rfl 64 (row_of rfl) _; (case hp => exact pl9); refine put_move ?_; go_step)) | ((with_reducible refine gt9 _ (.store 52 _ _) ?_); (refine wl9 ?_; apply wp_storeA hS 52 _ _ rfl _ rfl 64 (row_of rfl) _ _; (case hp => exact pl9); (case hy => rfl); (case hm => (repeat (first | assumption | exact Len.rep | apply Len.set | ((with_reducible show Len (_ :: _) _); exact rfl)))); (case hd => exact rfl); clear hS; intro w hS)) | ((fail_if_success with_reducible refine ga9 ?_); go_step))
      all_goals (try (have hF : False := (by omega); cases hF))
      rw [← HFl.out] at hS
      have hzb : ∀ i, i < 64 → -2047 ≤ nth zf i ∧ nth zf i ≤ 2047 := fun i hi => by
       rw [← HZf.out]; exact zfrom_bd bl HBl.out i hi
      have HZb := hid hzb
      obtain ⟨T, hT⟩ : ∃ T, toksOf before bl = T := ⟨_, rfl⟩
      have HTz : Veil (toksOf before (zto zf) = T) := ⟨by rw [← HZf.out, zto_zfrom bl hbl.out, hT]⟩
      obtain ⟨NT, hNT⟩ : ∃ N, T.length = N := ⟨_, rfl⟩
      have hNT64 : NT ≤ 64 := by rw [← hNT, ← hT]; exact (toks_len before bl hbl.out).2
      have HTl := hid hNT
      have HRT : Veil (frm Z.next before s0 = if T = al2 then (0, zf, al2, s2) else (4, nought0, [], s2)) := ⟨by
       rw [HF.out, ← HLo2.out]
       dsimp only
       rw [if_neg (by simp), hT, HZf.out]⟩
      clear hzb hT hNT
      by_cases hEq : T = al2
      case pos =>
       have HD := hid (show decide (flt T = flt al2) = true from decide_eq_true (by rw [hEq]))
       have HRF : Veil (frm Z.next before s0 = (0, zf, al2, s2)) := ⟨by rw [HRT.out, if_pos hEq]⟩
       clear hEq
       repeat' (first
        | ((with_reducible refine gs9 168 ?_); refine wpl_call (f := 75) Tryd.call75 kr9 ?_; refine ⟨_, (tokens_any _ before zf hzl hb HZb.out), ?_⟩; rintro e w ⟨a5, c5, rfl, hS2⟩; rw [HTz.out, HTl.out] at hS2; rw [HTz.out, HTl.out]; replace hS := hS.call1 hS2; clear hS2; refine ⟨_, rfl, ?_⟩; refine put_move ?_; go_step) | ((with_reducible refine gs9 170 ?_); refine wpl_call (f := 74) Tryd.call74 kr9 ?_; refine ⟨_, (slEqTok_any _ a5 ad83 NT c5 (m + 1) c83 (flt T) (flt al2) (hS.sl (a := a5) pl9) (hS.sl (a := ad83) pl9) (by omega) (by omega)), ?_⟩; rintro e w ⟨he, hE⟩; rw [HD.out] at he; subst he; replace hS := hS.ext hE; clear hE; refine ⟨_, rfl, ?_⟩; refine put_move ?_; go_step) | ((first | (with_reducible refine mv9 ?_) | (with_reducible refine as9 ?_)); (first | go_big_want | go_step); go_step) | ((with_reducible refine gs9 171 ?_); (refine wvv9 (V.not rfl) ?_; go_step)) | ((with_reducible refine gt9 _ (.load 52 _) ?_); (refine wl9 ?_; apply wp_loadA hS 52 _ rfl _ rfl 64 (row_of rfl) _; (case hp => exact pl9); refine put_move ?_; go_step)) | ((with_reducible refine gt9 _ (.store 52 _ _) ?_); (refine wl9 ?_; apply wp_storeA hS 52 _ _ rfl _ rfl 64 (row_of rfl) _ _; (case hp => exact pl9); (case hy => rfl); (case hm => (repeat (first | assumption | exact Len.rep | apply Len.set | ((with_reducible show Len (_ :: _) _); exact rfl)))); (case hd => exact rfl); clear hS; intro w hS)) | ((fail_if_success with_reducible refine ga9 ?_); go_step))
       all_goals (try (have hF : False := (by omega); cases hF))
       refine ret_all (xs := [_, _, _]) rfl (.cons (OneRes.arr hS rfl (row_of (n := 64) rfl) pl9) (.cons (OneRes.tmp rfl) (.cons (OneRes.tmp rfl) (.nil)))) (by simp) rfl ?_
       refine ⟨ad83, c83, ?_, ?_⟩
       · rw [HRF.out]; dsimp only; rw [HAl2.out]; first | done | rfl
       · rw [HRF.out]; dsimp only; rw [HAl2.out]; exact hS.sub sb9
      case neg =>
       have HD := hid (show decide (flt T = flt al2) = false from decide_eq_false (fun h => hEq (flt_inj h)))
       have HRF : frm Z.next before s0 = (4, nought0, [], s2) := by rw [HRT.out, if_neg hEq]
       have HRF2 : Veil (frm Z.next before s0 = (4, nought0, [], s2)) := ⟨HRF⟩
       clear hEq HRF
       repeat' (first
        | ((with_reducible refine gs9 168 ?_); refine wpl_call (f := 75) Tryd.call75 kr9 ?_; refine ⟨_, (tokens_any _ before zf hzl hb HZb.out), ?_⟩; rintro e w ⟨a5, c5, rfl, hS2⟩; rw [HTz.out, HTl.out] at hS2; rw [HTz.out, HTl.out]; replace hS := hS.call1 hS2; clear hS2; refine ⟨_, rfl, ?_⟩; refine put_move ?_; go_step) | ((with_reducible refine gs9 170 ?_); refine wpl_call (f := 74) Tryd.call74 kr9 ?_; refine ⟨_, (slEqTok_any _ a5 ad83 NT c5 (m + 1) c83 (flt T) (flt al2) (hS.sl (a := a5) pl9) (hS.sl (a := ad83) pl9) (by omega) (by omega)), ?_⟩; rintro e w ⟨he, hE⟩; rw [HD.out] at he; subst he; replace hS := hS.ext hE; clear hE; refine ⟨_, rfl, ?_⟩; refine put_move ?_; go_step) | ((with_reducible refine gs9 173 ?_); refine wl9 ?_; refine wp_callV (f := 70) rfl rfl Tryd.call70 (none_any _ _) ?_; rintro e w ⟨rfl, hE⟩; replace hS := hS.ext hE; clear hE; refine ⟨_, rfl, ?_⟩; refine put_move ?_; go_step) | ((first | (with_reducible refine mv9 ?_) | (with_reducible refine as9 ?_)); (first | go_big_want | go_step); go_step) | ((with_reducible refine gs9 171 ?_); (refine wvv9 (V.not rfl) ?_; go_step)) | ((with_reducible refine gs9 174 ?_); (refine wvv9 (V.extract rfl rfl) ?_; go_step)) | ((with_reducible refine gs9 175 ?_); (refine wvv9 (V.extract rfl rfl) ?_; go_step)) | ((with_reducible refine gs9 176 ?_); (refine wvv9 (V.extract rfl rfl) ?_; go_step)) | ((with_reducible refine gt9 _ (.store 52 _ _) ?_); (refine wl9 ?_; apply wp_storeA hS 52 _ _ rfl _ rfl 64 (row_of rfl) _ _; (case hp => exact pl9); (case hy => rfl); (case hm => (repeat (first | assumption | exact Len.rep | apply Len.set | ((with_reducible show Len (_ :: _) _); exact rfl)))); (case hd => exact rfl); clear hS; intro w hS)) | ((fail_if_success with_reducible refine ga9 ?_); go_step))
       all_goals (try (have hF : False := (by omega); cases hF))
       refine ret_all (xs := [_, _, _]) rfl (.cons (OneRes.arr hS rfl (row_of (n := 64) rfl) pl9) (.cons (OneRes.tmp rfl) (.cons (OneRes.tmp rfl) (.nil)))) (by simp) rfl ?_
       exact from_no 4 HRF2.out hS sb9
     case neg =>
      rw [if_neg hend] at hlo
      by_cases hlong : u0 = 240
      case pos =>
       rw [if_pos hlong] at hlo
       by_cases hov : 64 < at_ + 16
       case pos =>
        rw [if_pos hov] at hlo
        have HF2 : Hid (frm Z.next before s0 = (4, nought0, [], s2)) := hid (by rw [HF.out, ← hlo]; exact if_pos (show (4 : Int) ≠ 0 by decide))
        clear hlo
        repeat' (first
         | ((with_reducible refine gs9 69 ?_); refine wl9 ?_; refine wp_callI rfl (.iface Z.tid Z.ptr) rfl [.bool false] rfl Z.f #[Z.ptr, .bool false] (Z.inv false) (Z.call _ _ _ s false _ _ _ _ _ hS pl9 HN2.out) ?_; clear hS; rintro e w ⟨rfl, hS⟩; refine ⟨_, rfl, ?_⟩; refine put_move ?_; go_step) | ((first | (with_reducible refine mv9 ?_) | (with_reducible refine as9 ?_)); (first | go_big_want | go_step); go_step) | ((with_reducible refine gs9 66 ?_); (refine wvv9 (V.lss rfl rfl) ?_; go_step)) | ((with_reducible refine gs9 70 ?_); (refine wvv9 (V.extract rfl rfl) ?_; go_step)) | ((with_reducible refine gs9 71 ?_); (refine wvv9 (V.extract rfl rfl) ?_; go_step)) | ((with_reducible refine gs9 14 ?_); (refine wl9 ?_; apply wp_alloc (o := ⟨some 14, _, _, _, _, _⟩) hS 69 rfl (.agg #[.int .i64 0, .int .i64 0, .int .i64 0]) [.int .i64 0, .int .i64 0, .int .i64 0] (fun w => Tryd.zeroValue69 w) rfl; clear hS; intro g14 w hS; refine put_move ?_; go_step)) | ((with_reducible refine gt9 _ (.store 69 _ _) ?_); (refine wl9 ?_; apply wp_storeG hS 69 _ _ rfl _ rfl 3 (row_of rfl) _ _; (case hp => exact pl9); (case hy => rfl); (case hn => rfl); (case hn' => rfl); (case hv => rfl); (case hd => exact rfl); clear hS; intro w hS)) | ((fail_if_success with_reducible refine ga9 ?_); go_step))
        all_goals (try (have hF : False := (by omega); cases hF))
        repeat' (first
         | ((with_reducible refine gs9 89 ?_); refine wpl_call (f := 71) Tryd.call71 kr9 ?_; refine ⟨_, (back_yes u1 u2 _ hB2), ?_⟩; rintro e w' ⟨rfl, rfl⟩; rw [HNb.out]; refine ⟨_, rfl, ?_⟩; refine put_move ?_; go_step) | ((first | (with_reducible refine mv9 ?_) | (with_reducible refine as9 ?_)); (first | go_big_want | go_step); go_step) | ((with_reducible refine gs9 73 ?_); (refine wvv9 (V.neq rfl rfl) ?_; go_step)) | ((with_reducible refine gs9 85 ?_); (refine wvv9 (V.fieldAddr fo69_1 rfl nq9) ?_; go_step)) | ((with_reducible refine gs9 87 ?_); (refine wvv9 (V.fieldAddr fo69_2 rfl nq9) ?_; go_step)) | ((with_reducible refine gs9 90 ?_); (refine wvv9 (V.extract rfl rfl) ?_; go_step)) | ((with_reducible refine gs9 91 ?_); (refine wvv9 (V.extract rfl rfl) ?_; go_step)) | ((with_reducible refine gt9 _ (.load 69 _) ?_); (refine wl9 ?_; apply wp_loadG hS 69 _ rfl _ rfl 3 (row_of rfl) _; (case hp => exact pl9); (case hn => rfl); refine put_move ?_; go_step)) | ((with_reducible refine gs9 82 ?_); (refine wl9 ?_; apply wp_buildSlice1 (o := ⟨some 82, _, _, _, _, _⟩) hS 100 1 _ rfl 69 3 24 el100 _ _; (case hvs => (repeat (first | exact Parts.nil | (apply Parts.agg; (rfl); (rfl)) | (apply Parts.one; exact isv9; (rfl); (rfl))))); (case hn => rfl); (case hn0 => decide); (case hns => decide); clear hS; intro g82 w hS; simp only [List.cons_append, List.nil_append] at hS; refine put_move ?_; go_step)) | ((with_reducible refine gs9 83 ?_); (refine wl9 ?_; apply wp_append (o := ⟨some 83, _, _, _, _, _⟩) hS _ _ 100 rfl 69 3 24 el100 _ _ _ _ rfl; (case hp => exact pl9); (case hx => exact rfl); (case hm => (first | exact hS.slBlk pl9 (by rfl) (by decide) | exact hS.sl pl9 | with_reducible assumption | exact Sl.ext (by with_reducible assumption) hS.1 | exact Sl.nil _ _ | exact Sl.ext (by assumption) hS.1 | assumption)); (case h1 => (first | exact oneAll rfl | exact oneMap _ _ | (intro u hu; cases hu))); (case h63 => unfold maxLen; omega); (case hb => omega); clear hS; intro ad83 c83 w hS; (first | simp only [mapk1] at hS | simp only [mapk2] at hS | simp only [mapk3] at hS | simp only [mapk4] at hS | simp only [mapkl] at hS | skip); refine put_move ?_; go_step)) | ((with_reducible refine gt9 _ (.load 3 _) ?_); (refine wl9 ?_; apply wp_load1 hS 3 _ rfl _ _ rfl (one_of rfl) _; (case hp => exact pl9); (case hc => rfl); refine put_move ?_; go_step)) | ((fail_if_success with_reducible refine ga9 ?_); go_step))
        all_goals (try (have hF : False := (by omega); cases hF))
        repeat' (first
         | ((with_reducible refine gs9 99 ?_); (refine wplV (.int _ ((u0 % 16))) (V.as (V.and rfl rfl) (by exact HAnd.out)) rfl ?_; go_step)) | ((with_reducible refine mv9 ?_); (first | go_big_want | go_step); go_step) | ((with_reducible refine gt9 _ (.pick _ _ _) ?_); first | (refine wplPickT rfl kr9 ?_; go_step) | (refine wplPickF rfl kr9 ?_; go_step)) | ((with_reducible refine gs9 93 ?_); (refine wplD _ (V.neq rfl rfl) kr9 (fun hB => ?_) (fun hB => ?_) <;> (try (have hF : False := (by omega); cases hF)) <;> go_step)) | ((with_reducible refine gs9 100 ?_); (refine wplD _ (V.neq rfl rfl) kr9 (fun hB => ?_) (fun hB => ?_) <;> (try (have hF : False := (by omega); cases hF)) <;> go_step)) | ((with_reducible refine gs9 105 ?_); (refine wplD _ (V.gtr rfl rfl) kr9 (fun hB => ?_) (fun hB => ?_) <;> (try (have hF : False := (by omega); cases hF)) <;> go_step)) | ((with_reducible refine gs9 110 ?_); (refine wplD _ (V.lss rfl rfl) kr9 (fun hB => ?_) (fun hB => ?_) <;> (try (have hF : False := (by omega); cases hF)) <;> go_step)) | ((with_reducible refine gs9 115 ?_); (refine wplD _ (V.gtr rfl rfl) kr9 (fun hB => ?_) (fun hB => ?_) <;> (try (have hF : False := (by omega); cases hF)) <;> go_step)) | ((with_reducible refine gs9 120 ?_); (refine wplD _ (V.eql rfl rfl) kr9 (fun hB => ?_) (fun hB => ?_) <;> (try (have hF : False := (by omega); cases hF)) <;> go_step)) | ((with_reducible refine gs9 124 ?_); (refine wplD _ (V.neq rfl rfl) kr9 (fun hB => ?_) (fun hB => ?_) <;> (try (have hF : False := (by omega); cases hF)) <;> go_step)) | ((with_reducible refine gs9 95 ?_); (refine wvv9 (V.fieldAddr fo69_1 rfl nq9) ?_; go_step)) | ((with_reducible refine gs9 97 ?_); (refine wvv9 (V.fieldAddr fo69_0 rfl nq9) ?_; go_step)) | ((with_reducible refine gs9 103 ?_); (refine wvv9 (V.fieldAddr fo69_1 rfl nq9) ?_; go_step)) | ((with_reducible refine gs9 108 ?_); (refine wvv9 (V.fieldAddr fo69_0 rfl nq9) ?_; go_step)) | ((with_reducible refine gs9 113 ?_); (refine wvv9 (V.fieldAddr fo69_0 rfl nq9) ?_; go_step)) | ((with_reducible refine gs9 118 ?_); (refine wvv9 (V.fieldAddr fo69_1 rfl nq9) ?_; go_step)) | ((with_reducible refine gs9 122 ?_); (refine wvv9 (V.fieldAddr fo69_0 rfl nq9) ?_; go_step)) | ((with_reducible refine gs9 127 ?_); (refine wvv9 (V.fieldAddr fo69_0 rfl nq9) ?_; go_step)) | ((with_reducible refine gs9 129 ?_); (refine wvv9 (V.neq rfl rfl) ?_; go_step)) | ((with_reducible refine gt9 _ (.load 3 _) ?_); (refine wl9 ?_; apply wp_load1 hS 3 _ rfl _ _ rfl (one_of rfl) _; (case hp => exact pl9); (case hc => rfl); refine put_move ?_; go_step)) | ((fail_if_success with_reducible refine ga9 ?_); go_step))
        all_goals (try (have hF : False := (by omega); cases hF))
        repeat' (first
         | ((with_reducible refine gs9 160 ?_); refine wl9 ?_; refine wp_callV (f := 70) rfl rfl Tryd.call70 (none_any _ _) ?_; rintro e w ⟨rfl, hE⟩; replace hS := hS.ext hE; clear hE; refine ⟨_, rfl, ?_⟩; refine put_move ?_; go_step) | ((first | (with_reducible refine mv9 ?_) | (with_reducible refine as9 ?_)); (first | go_big_want | go_step); go_step) | ((with_reducible refine gs9 137 ?_); (refine wvv9 (V.fieldAddr fo69_0 rfl nq9) ?_; go_step)) | ((with_reducible refine gs9 139 ?_); (refine wvv9 (V.eql rfl rfl) ?_; go_step)) | ((with_reducible refine gs9 140 ?_); (refine wvv9 (V.fieldAddr fo69_0 rfl nq9) ?_; go_step)) | ((with_reducible refine gs9 142 ?_); (refine wvv9 (V.eql rfl rfl) ?_; go_step)) | ((with_reducible refine gs9 144 ?_); (refine wvv9 (V.addI rfl rfl (by omega)) ?_; go_step)) | ((with_reducible refine gs9 158 ?_); (refine wvv9 (V.gtr rfl rfl) ?_; go_step)) | ((with_reducible refine gs9 161 ?_); (refine wvv9 (V.extract rfl rfl) ?_; go_step)) | ((with_reducible refine gs9 162 ?_); (refine wvv9 (V.extract rfl rfl) ?_; go_step)) | ((with_reducible refine gs9 163 ?_); (refine wvv9 (V.extract rfl rfl) ?_; go_step)) | ((with_reducible refine gt9 _ (.load 3 _) ?_); (refine wl9 ?_; apply wp_load1 hS 3 _ rfl _ _ rfl (one_of rfl) _; (case hp => exact pl9); (case hc => rfl); refine put_move ?_; go_step)) | ((with_reducible refine gt9 _ (.store 52 _ _) ?_); (refine wl9 ?_; apply wp_storeA hS 52 _ _ rfl _ rfl 64 (row_of rfl) _ _; (case hp => exact pl9); (case hy => rfl); (case hm => (repeat (first | assumption | exact Len.rep | apply Len.set | ((with_reducible show Len (_ :: _) _); exact rfl)))); (case hd => exact rfl); clear hS; intro w hS)) | ((fail_if_success with_reducible refine ga9 ?_); go_step))
        all_goals (try (have hF : False := (by omega); cases hF))
        all_goals
         refine ret_all (xs := [_, _, _]) rfl (.cons (OneRes.arr hS rfl (row_of (n := 64) rfl) pl9) (.cons (OneRes.tmp rfl) (.cons (OneRes.tmp rfl) (.nil)))) (by simp) rfl ?_
         exact from_no 4 HF2.out hS sb9
       case neg =>
        rw [if_neg hov] at hlo
        have HLo2 := hid hlo
        clear hlo
        repeat' (first
         | ((with_reducible refine gs9 69 ?_); refine wl9 ?_; refine wp_callI rfl (.iface Z.tid Z.ptr) rfl [.bool false] rfl Z.f #[Z.ptr, .bool false] (Z.inv false) (Z.call _ _ _ s false _ _ _ _ _ hS pl9 HN2.out) ?_; clear hS; rintro e w ⟨rfl, hS⟩; refine ⟨_, rfl, ?_⟩; refine put_move ?_; go_step) | ((first | (with_reducible refine mv9 ?_) | (with_reducible refine as9 ?_)); (first | go_big_want | go_step); go_step) | ((with_reducible refine gs9 66 ?_); (refine wvv9 (V.lss rfl rfl) ?_; go_step)) | ((with_reducible refine gs9 70 ?_); (refine wvv9 (V.extract rfl rfl) ?_; go_step)) | ((with_reducible refine gs9 71 ?_); (refine wvv9 (V.extract rfl rfl) ?_; go_step)) | ((with_reducible refine gs9 14 ?_); (refine wl9 ?_; apply wp_alloc (o := ⟨some 14, _, _, _, _, _⟩) hS 69 rfl (.agg #[.int .i64 0, .int .i64 0, .int .i64 0]) [.int .i64 0, .int .i64 0, .int .i64 0] (fun w => Tryd.zeroValue69 w) rfl; clear hS; intro g14 w hS; refine put_move ?_; go_step)) | ((with_reducible refine gt9 _ (.store 69 _ _) ?_); (refine wl9 ?_; apply wp_storeG hS 69 _ _ rfl _ rfl 3 (row_of rfl) _ _; (case hp => exact pl9); (case hy => rfl); (case hn => rfl); (case hn' => rfl); (case hv => rfl); (case hd => exact rfl); clear hS; intro w hS)) | ((fail_if_success with_reducible refine ga9 ?_); go_step))
        all_goals (try (have hF : False := (by omega); cases hF))
        repeat' (first
         | ((with_reducible refine gs9 89 ?_); refine wpl_call (f := 71) Tryd.call71 kr9 ?_; refine ⟨_, (back_yes u1 u2 _ hB2), ?_⟩; rintro e w' ⟨rfl, rfl⟩; rw [HNb.out]; refine ⟨_, rfl, ?_⟩; refine put_move ?_; go_step) | ((first | (with_reducible refine mv9 ?_) | (with_reducible refine as9 ?_)); (first | go_big_want | go_step); go_step) | ((with_reducible refine gs9 73 ?_); (refine wvv9 (V.neq rfl rfl) ?_; go_step)) | ((with_reducible refine gs9 85 ?_); (refine wvv9 (V.fieldAddr fo69_1 rfl nq9) ?_; go_step)) | ((with_reducible refine gs9 87 ?_); (refine wvv9 (V.fieldAddr fo69_2 rfl nq9) ?_; go_step)) | ((with_reducible refine gs9 90 ?_); (refine wvv9 (V.extract rfl rfl) ?_; go_step)) | ((with_reducible refine gs9 91 ?_); (refine wvv9 (V.extract rfl rfl) ?_; go_step)) | ((with_reducible refine gt9 _ (.load 69 _) ?_); (refine wl9 ?_; apply wp_loadG hS 69 _ rfl _ rfl 3 (row_of rfl) _; (case hp => exact pl9); (case hn => rfl); refine put_move ?_; go_step)) | ((with_reducible refine gs9 82 ?_); (refine wl9 ?_; apply wp_buildSlice1 (o := ⟨some 82, _, _, _, _, _⟩) hS 100 1 _ rfl 69 3 24 el100 _ _; (case hvs => (repeat (first | exact Parts.nil | (apply Parts.agg; (rfl); (rfl)) | (apply Parts.one; exact isv9; (rfl); (rfl))))); (case hn => rfl); (case hn0 => decide); (case hns => decide); clear hS; intro g82 w hS; simp only [List.cons_append, List.nil_append] at hS; refine put_move ?_; go_step)) | ((with_reducible refine gs9 83 ?_); (refine wl9 ?_; apply wp_append (o := ⟨some 83, _, _, _, _, _⟩) hS _ _ 100 rfl 69 3 24 el100 _ _ _ _ rfl; (case hp => exact pl9); (case hx => exact rfl); (case hm => (first | exact hS.slBlk pl9 (by rfl) (by decide) | exact hS.sl pl9 | with_reducible assumption | exact Sl.ext (by with_reducible assumption) hS.1 | exact Sl.nil _ _ | exact Sl.ext (by assumption) hS.1 | assumption)); (case h1 => (first | exact oneAll rfl | exact oneMap _ _ | (intro u hu; cases hu))); (case h63 => unfold maxLen; omega); (case hb => omega); clear hS; intro ad83 c83 w hS; (first | simp only [mapk1] at hS | simp only [mapk2] at hS | simp only [mapk3] at hS | simp only [mapk4] at hS | simp only [mapkl] at hS | skip); refine put_move ?_; go_step)) | ((with_reducible refine gt9 _ (.load 3 _) ?_); (refine wl9 ?_; apply wp_load1 hS 3 _ rfl _ _ rfl (one_of rfl) _; (case hp => exact pl9); (case hc => rfl); refine put_move ?_; go_step)) | ((fail_if_success with_reducible refine ga9 ?_); go_step))
        all_goals (try (have hF : False := (by omega); cases hF))
        repeat' (first
         | ((with_reducible refine gs9 99 ?_); (refine wplV (.int _ ((u0 % 16))) (V.as (V.and rfl rfl) (by exact HAnd.out)) rfl ?_; go_step)) | ((with_reducible refine mv9 ?_); (first | go_big_want | go_step); go_step) | ((with_reducible refine gt9 _ (.pick _ _ _) ?_); first | (refine wplPickT rfl kr9 ?_; go_step) | (refine wplPickF rfl kr9 ?_; go_step)) | ((with_reducible refine gs9 93 ?_); (refine wplD _ (V.neq rfl rfl) kr9 (fun hB => ?_) (fun hB => ?_) <;> (try (have hF : False := (by omega); cases hF)) <;> go_step)) | ((with_reducible refine gs9 100 ?_); (refine wplD _ (V.neq rfl rfl) kr9 (fun hB => ?_) (fun hB => ?_) <;> (try (have hF : False := (by omega); cases hF)) <;> go_step)) | ((with_reducible refine gs9 105 ?_); (refine wplD _ (V.gtr rfl rfl) kr9 (fun hB => ?_) (fun hB => ?_) <;> (try (have hF : False := (by omega); cases hF)) <;> go_step)) | ((with_reducible refine gs9 110 ?_); (refine wplD _ (V.lss rfl rfl) kr9 (fun hB => ?_) (fun hB => ?_) <;> (try (have hF : False := (by omega); cases hF)) <;> go_step)) | ((with_reducible refine gs9 115 ?_); (refine wplD _ (V.gtr rfl rfl) kr9 (fun hB => ?_) (fun hB => ?_) <;> (try (have hF : False := (by omega); cases hF)) <;> go_step)) | ((with_reducible refine gs9 120 ?_); (refine wplD _ (V.eql rfl rfl) kr9 (fun hB => ?_) (fun hB => ?_) <;> (try (have hF : False := (by omega); cases hF)) <;> go_step)) | ((with_reducible refine gs9 124 ?_); (refine wplD _ (V.neq rfl rfl) kr9 (fun hB => ?_) (fun hB => ?_) <;> (try (have hF : False := (by omega); cases hF)) <;> go_step)) | ((with_reducible refine gs9 95 ?_); (refine wvv9 (V.fieldAddr fo69_1 rfl nq9) ?_; go_step)) | ((with_reducible refine gs9 97 ?_); (refine wvv9 (V.fieldAddr fo69_0 rfl nq9) ?_; go_step)) | ((with_reducible refine gs9 103 ?_); (refine wvv9 (V.fieldAddr fo69_1 rfl nq9) ?_; go_step)) | ((with_reducible refine gs9 108 ?_); (refine wvv9 (V.fieldAddr fo69_0 rfl nq9) ?_; go_step)) | ((with_reducible refine gs9 113 ?_); (refine wvv9 (V.fieldAddr fo69_0 rfl nq9) ?_; go_step)) | ((with_reducible refine gs9 118 ?_); (refine wvv9 (V.fieldAddr fo69_1 rfl nq9) ?_; go_step)) | ((with_reducible refine gs9 122 ?_); (refine wvv9 (V.fieldAddr fo69_0 rfl nq9) ?_; go_step)) | ((with_reducible refine gs9 127 ?_); (refine wvv9 (V.fieldAddr fo69_0 rfl nq9) ?_; go_step)) | ((with_reducible refine gs9 129 ?_); (refine wvv9 (V.neq rfl rfl) ?_; go_step)) | ((with_reducible refine gt9 _ (.load 3 _) ?_); (refine wl9 ?_; apply wp_load1 hS 3 _ rfl _ _ rfl (one_of rfl) _; (case hp => exact pl9); (case hc => rfl); refine put_move ?_; go_step)) | ((fail_if_success with_reducible refine ga9 ?_); go_step))
        all_goals (try (have hF : False := (by omega); cases hF))
        repeat' (first
         | ((first | (with_reducible refine mv9 ?_) | (with_reducible refine as9 ?_)); (first | go_big_want | go_step); go_step) | ((with_reducible refine gs9 137 ?_); (refine wvv9 (V.fieldAddr fo69_0 rfl nq9) ?_; go_step)) | ((with_reducible refine gs9 139 ?_); (refine wvv9 (V.eql rfl rfl) ?_; go_step)) | ((with_reducible refine gs9 140 ?_); (refine wvv9 (V.fieldAddr fo69_0 rfl nq9) ?_; go_step)) | ((with_reducible refine gs9 142 ?_); (refine wvv9 (V.eql rfl rfl) ?_; go_step)) | ((with_reducible refine gs9 144 ?_); (refine wvv9 (V.addI rfl rfl (by omega)) ?_; go_step)) | ((with_reducible refine gs9 158 ?_); (refine wvv9 (V.gtr rfl rfl) ?_; go_step)) | ((with_reducible refine gt9 _ (.load 3 _) ?_); (refine wl9 ?_; apply wp_load1 hS 3 _ rfl _ _ rfl (one_of rfl) _; (case hp => exact pl9); (case hc => rfl); refine put_move ?_; go_step)) | ((fail_if_success with_reducible refine ga9 ?_); go_step))
        all_goals (try (have hF : False := (by omega); cases hF))
        go_roundg gk'
        case measure => omega
        case rel => exact ⟨at_ + 16, m + 1, bl, all ++ [(u0, u1, u2)], ad83, c83, s2, by omega, by omega, by omega, by omega, by go_num, rfl, hid (by rw [List.length_append, HAl.out]; rfl), hbl, HBl, HLo2, (by rw [HFl.out]; exact hS.sub sb9)⟩
      case neg =>
       rw [if_neg hlong] at hlo
       obtain ⟨r, hr⟩ : ∃ r : Nat, u0 / 16 = (r : Int) := ⟨(u0 / 16).toNat, by omega⟩
       have hr2 : u0.toNat / 16 = r := by omega
       have hr15 : r ≤ 15 := by omega
       rw [hr2] at hlo
       have HR4 : Hid (u0 / 2 ^ 4 = (r : Int)) := hid (by rw [show (2 : Int) ^ 4 = 16 from rfl]; exact hr)
       clear hr hr2
       by_cases hov : 64 ≤ at_ + r
       case pos =>
        rw [if_pos hov] at hlo
        have HF2 : Hid (frm Z.next before s0 = (4, nought0, [], s2)) := hid (by rw [HF.out, ← hlo]; exact if_pos (show (4 : Int) ≠ 0 by decide))
        clear hlo
        repeat' (first
         | ((with_reducible refine gs9 69 ?_); refine wl9 ?_; refine wp_callI rfl (.iface Z.tid Z.ptr) rfl [.bool false] rfl Z.f #[Z.ptr, .bool false] (Z.inv false) (Z.call _ _ _ s false _ _ _ _ _ hS pl9 HN2.out) ?_; clear hS; rintro e w ⟨rfl, hS⟩; refine ⟨_, rfl, ?_⟩; refine put_move ?_; go_step) | ((first | (with_reducible refine mv9 ?_) | (with_reducible refine as9 ?_)); (first | go_big_want | go_step); go_step) | ((with_reducible refine gs9 66 ?_); (refine wvv9 (V.lss rfl rfl) ?_; go_step)) | ((with_reducible refine gs9 70 ?_); (refine wvv9 (V.extract rfl rfl) ?_; go_step)) | ((with_reducible refine gs9 71 ?_); (refine wvv9 (V.extract rfl rfl) ?_; go_step)) | ((with_reducible refine gs9 14 ?_); (refine wl9 ?_; apply wp_alloc (o := ⟨some 14, _, _, _, _, _⟩) hS 69 rfl (.agg #[.int .i64 0, .int .i64 0, .int .i64 0]) [.int .i64 0, .int .i64 0, .int .i64 0] (fun w => Tryd.zeroValue69 w) rfl; clear hS; intro g14 w hS; refine put_move ?_; go_step)) | ((with_reducible refine gt9 _ (.store 69 _ _) ?_); (refine wl9 ?_; apply wp_storeG hS 69 _ _ rfl _ rfl 3 (row_of rfl) _ _; (case hp => exact pl9); (case hy => rfl); (case hn => rfl); (case hn' => rfl); (case hv => rfl); (case hd => exact rfl); clear hS; intro w hS)) | ((fail_if_success with_reducible refine ga9 ?_); go_step))
        all_goals (try (have hF : False := (by omega); cases hF))
        repeat' (first
         | ((with_reducible refine gs9 89 ?_); refine wpl_call (f := 71) Tryd.call71 kr9 ?_; refine ⟨_, (back_yes u1 u2 _ hB2), ?_⟩; rintro e w' ⟨rfl, rfl⟩; rw [HNb.out]; refine ⟨_, rfl, ?_⟩; refine put_move ?_; go_step) | ((first | (with_reducible refine mv9 ?_) | (with_reducible refine as9 ?_)); (first | go_big_want | go_step); go_step) | ((with_reducible refine gs9 73 ?_); (refine wvv9 (V.neq rfl rfl) ?_; go_step)) | ((with_reducible refine gs9 85 ?_); (refine wvv9 (V.fieldAddr fo69_1 rfl nq9) ?_; go_step)) | ((with_reducible refine gs9 87 ?_); (refine wvv9 (V.fieldAddr fo69_2 rfl nq9) ?_; go_step)) | ((with_reducible refine gs9 90 ?_); (refine wvv9 (V.extract rfl rfl) ?_; go_step)) | ((with_reducible refine gs9 91 ?_); (refine wvv9 (V.extract rfl rfl) ?_; go_step)) | ((with_reducible refine gt9 _ (.load 69 _) ?_); (refine wl9 ?_; apply wp_loadG hS 69 _ rfl _ rfl 3 (row_of rfl) _; (case hp => exact pl9); (case hn => rfl); refine put_move ?_; go_step)) | ((with_reducible refine gs9 82 ?_); (refine wl9 ?_; apply wp_buildSlice1 (o := ⟨some 82, _, _, _, _, _⟩) hS 100 1 _ rfl 69 3 24 el100 _ _; (case hvs => (repeat (first | exact Parts.nil | (apply Parts.agg; (rfl); (rfl)) | (apply Parts.one; exact isv9; (rfl); (rfl))))); (case hn => rfl); (case hn0 => decide); (case hns => decide); clear hS; intro g82 w hS; simp only [List.cons_append, List.nil_append] at hS; refine put_move ?_; go_step)) | ((with_reducible refine gs9 83 ?_); (refine wl9 ?_; apply wp_append (o := ⟨some 83, _, _, _, _, _⟩) hS _ _ 100 rfl 69 3 24 el100 _ _ _ _ rfl; (case hp => exact pl9); (case hx => exact rfl); (case hm => (first | exact hS.slBlk pl9 (by rfl) (by decide) | exact hS.sl pl9 | with_reducible assumption | exact Sl.ext (by with_reducible assumption) hS.1 | exact Sl.nil _ _ | exact Sl.ext (by assumption) hS.1 | assumption)); (case h1 => (first | exact oneAll rfl | exact oneMap _ _ | (intro u hu; cases hu))); (case h63 => unfold maxLen; omega); (case hb => omega); clear hS; intro ad83 c83 w hS; (first | simp only [mapk1] at hS | simp only [mapk2] at hS | simp only [mapk3] at hS | simp only [mapk4] at hS | simp only [mapkl] at hS | skip); refine put_move ?_; go_step)) | ((with_reducible refine gt9 _ (.load 3 _) ?_); (refine wl9 ?_; apply wp_load1 hS 3 _ rfl _ _ rfl (one_of rfl) _; (case hp => exact pl9); (case hc => rfl); refine put_move ?_; go_step)) | ((fail_if_success with_reducible refine ga9 ?_); go_step))
        all_goals (try (have hF : False := (by omega); cases hF))
        repeat' (first
         | ((with_reducible refine gs9 99 ?_); (refine wplV (.int _ ((u0 % 16))) (V.as (V.and rfl rfl) (by exact HAnd.out)) rfl ?_; go_step)) | go_big_skip | ((with_reducible refine mv9 ?_); (first | go_big_want | go_step); go_step) | ((with_reducible refine gt9 _ (.pick _ _ _) ?_); (refine wplPickF rfl kr9 ?_; go_step)) | ((with_reducible refine gs9 93 ?_); (refine wplD _ (V.neq rfl rfl) kr9 (fun hB => ?_) (fun hB => ?_) <;> (try (have hF : False := (by omega); cases hF)) <;> go_step)) | ((with_reducible refine gs9 100 ?_); (refine wplD _ (V.neq rfl rfl) kr9 (fun hB => ?_) (fun hB => ?_) <;> (try (have hF : False := (by omega); cases hF)) <;> go_step)) | ((with_reducible refine gs9 105 ?_); (refine wplD _ (V.gtr rfl rfl) kr9 (fun hB => ?_) (fun hB => ?_) <;> (try (have hF : False := (by omega); cases hF)) <;> go_step)) | ((with_reducible refine gs9 110 ?_); (refine wplD _ (V.lss rfl rfl) kr9 (fun hB => ?_) (fun hB => ?_) <;> (try (have hF : False := (by omega); cases hF)) <;> go_step)) | ((with_reducible refine gs9 115 ?_); (refine wplD _ (V.gtr rfl rfl) kr9 (fun hB => ?_) (fun hB => ?_) <;> (try (have hF : False := (by omega); cases hF)) <;> go_step)) | ((with_reducible refine gs9 120 ?_); (refine wplD _ (V.eql rfl rfl) kr9 (fun hB => ?_) (fun hB => ?_) <;> (try (have hF : False := (by omega); cases hF)) <;> go_step)) | ((with_reducible refine gs9 95 ?_); (refine wvv9 (V.fieldAddr fo69_1 rfl nq9) ?_; go_step)) | ((with_reducible refine gs9 97 ?_); (refine wvv9 (V.fieldAddr fo69_0 rfl nq9) ?_; go_step)) | ((with_reducible refine gs9 103 ?_); (refine wvv9 (V.fieldAddr fo69_1 rfl nq9) ?_; go_step)) | ((with_reducible refine gs9 108 ?_); (refine wvv9 (V.fieldAddr fo69_0 rfl nq9) ?_; go_step)) | ((with_reducible refine gs9 113 ?_); (refine wvv9 (V.fieldAddr fo69_0 rfl nq9) ?_; go_step)) | ((with_reducible refine gs9 118 ?_); (refine wvv9 (V.fieldAddr fo69_1 rfl nq9) ?_; go_step)) | ((with_reducible refine gt9 _ (.load 3 _) ?_); (refine wl9 ?_; apply wp_load1 hS 3 _ rfl _ _ rfl (one_of rfl) _; (case hp => exact pl9); (case hc => rfl); refine put_move ?_; go_step)) | ((fail_if_success with_reducible refine ga9 ?_); go_step))
        all_goals (try (have hF : False := (by omega); cases hF))
        repeat' (first
         | ((with_reducible refine gs9 148 ?_); (refine wplV (.int _ (((r : Nat) : Int))) (V.as (V.shr rfl rfl isn9 (by omega) rfl) (by exact HR4.out)) rfl ?_; go_step)) | ((with_reducible refine gs9 160 ?_); refine wl9 ?_; refine wp_callV (f := 70) rfl rfl Tryd.call70 (none_any _ _) ?_; rintro e w ⟨rfl, hE⟩; replace hS := hS.ext hE; clear hE; refine ⟨_, rfl, ?_⟩; refine put_move ?_; go_step) | ((first | (with_reducible refine mv9 ?_) | (with_reducible refine as9 ?_)); (first | go_big_want | go_step); go_step) | ((with_reducible refine gs9 137 ?_); (refine wvv9 (V.fieldAddr fo69_0 rfl nq9) ?_; go_step)) | ((with_reducible refine gs9 139 ?_); (refine wvv9 (V.eql rfl rfl) ?_; go_step)) | ((with_reducible refine gs9 140 ?_); (refine wvv9 (V.fieldAddr fo69_0 rfl nq9) ?_; go_step)) | ((with_reducible refine gs9 142 ?_); (refine wvv9 (V.eql rfl rfl) ?_; go_step)) | ((with_reducible refine gs9 146 ?_); (refine wvv9 (V.fieldAddr fo69_0 rfl nq9) ?_; go_step)) | ((with_reducible refine gs9 149 ?_); (refine wvv9 (V.addI rfl rfl (by omega)) ?_; go_step)) | ((with_reducible refine gs9 151 ?_); (refine wvv9 (V.lss rfl rfl) ?_; go_step)) | ((with_reducible refine gs9 156 ?_); (refine wvv9 (V.addI rfl rfl (by omega)) ?_; go_step)) | ((with_reducible refine gs9 158 ?_); (refine wvv9 (V.gtr rfl rfl) ?_; go_step)) | ((with_reducible refine gs9 161 ?_); (refine wvv9 (V.extract rfl rfl) ?_; go_step)) | ((with_reducible refine gs9 162 ?_); (refine wvv9 (V.extract rfl rfl) ?_; go_step)) | ((with_reducible refine gs9 163 ?_); (refine wvv9 (V.extract rfl rfl) ?_; go_step)) | ((with_reducible refine gt9 _ (.load 3 _) ?_); (refine wl9 ?_; apply wp_load1 hS 3 _ rfl _ _ rfl (one_of rfl) _; (case hp => exact pl9); (case hc => rfl); refine put_move ?_; go_step)) | ((with_reducible refine gt9 _ (.store 52 _ _) ?_); (refine wl9 ?_; apply wp_storeA hS 52 _ _ rfl _ rfl 64 (row_of rfl) _ _; (case hp => exact pl9); (case hy => rfl); (case hm => (repeat (first | assumption | exact Len.rep | apply Len.set | ((with_reducible show Len (_ :: _) _); exact rfl)))); (case hd => exact rfl); clear hS; intro w hS)) | ((fail_if_success with_reducible refine ga9 ?_); go_step))
        all_goals (try (have hF : False := (by omega); cases hF))
        all_goals
         refine ret_all (xs := [_, _, _]) rfl (.cons (OneRes.arr hS rfl (row_of (n := 64) rfl) pl9) (.cons (OneRes.tmp rfl) (.cons (OneRes.tmp rfl) (.nil)))) (by simp) rfl ?_
         exact from_no 4 HF2.out hS sb9
       case neg =>
        rw [if_neg hov] at hlo
        have HLo2 := hid hlo
        have HBl2 : Hid (∀ i, i < 64 → -2047 ≤ nth (bl.set (at_ + r) n2) i ∧ nth (bl.set (at_ + r) n2) i ≤ 2047) := hid fun i hi => by
         rw [nth_set _ _ _ _ (by rw [hbl.out]; omega)]
         split
         · omega
         · exact HBl.out i hi
        have hbl2 : Len (bl.set (at_ + r) n2) 64 := Len.set hbl
        clear hlo
        repeat' (first
         | ((with_reducible refine gs9 69 ?_); refine wl9 ?_; refine wp_callI rfl (.iface Z.tid Z.ptr) rfl [.bool false] rfl Z.f #[Z.ptr, .bool false] (Z.inv false) (Z.call _ _ _ s false _ _ _ _ _ hS pl9 HN2.out) ?_; clear hS; rintro e w ⟨rfl, hS⟩; refine ⟨_, rfl, ?_⟩; refine put_move ?_; go_step) | ((first | (with_reducible refine mv9 ?_) | (with_reducible refine as9 ?_)); (first | go_big_want | go_step); go_step) | ((with_reducible refine gs9 66 ?_); (refine wvv9 (V.lss rfl rfl) ?_; go_step)) | ((with_reducible refine gs9 70 ?_); (refine wvv9 (V.extract rfl rfl) ?_; go_step)) | ((with_reducible refine gs9 71 ?_); (refine wvv9 (V.extract rfl rfl) ?_; go_step)) | ((with_reducible refine gs9 14 ?_); (refine wl9 ?_; apply wp_alloc (o := ⟨some 14, _, _, _, _, _⟩) hS 69 rfl (.agg #[.int .i64 0, .int .i64 0, .int .i64 0]) [.int .i64 0, .int .i64 0, .int .i64 0] (fun w => Tryd.zeroValue69 w) rfl; clear hS; intro g14 w hS; refine put_move ?_; go_step)) | ((with_reducible refine gt9 _ (.store 69 _ _) ?_); (refine wl9 ?_; apply wp_storeG hS 69 _ _ rfl _ rfl 3 (row_of rfl) _ _; (case hp => exact pl9); (case hy => rfl); (case hn => rfl); (case hn' => rfl); (case hv => rfl); (case hd => exact rfl); clear hS; intro w hS)) | ((fail_if_success with_reducible refine ga9 ?_); go_step))
        all_goals (try (have hF : False := (by omega); cases hF))
        repeat' (first
         | ((with_reducible refine gs9 89 ?_); refine wpl_call (f := 71) Tryd.call71 kr9 ?_; refine ⟨_, (back_yes u1 u2 _ hB2), ?_⟩; rintro e w' ⟨rfl, rfl⟩; rw [HNb.out]; refine ⟨_, rfl, ?_⟩; refine put_move ?_; go_step) | ((first | (with_reducible refine mv9 ?_) | (with_reducible refine as9 ?_)); (first | go_big_want | go_step); go_step) | ((with_reducible refine gs9 73 ?_); (refine wvv9 (V.neq rfl rfl) ?_; go_step)) | ((with_reducible refine gs9 85 ?_); (refine wvv9 (V.fieldAddr fo69_1 rfl nq9) ?_; go_step)) | ((with_reducible refine gs9 87 ?_); (refine wvv9 (V.fieldAddr fo69_2 rfl nq9) ?_; go_step)) | ((with_reducible refine gs9 90 ?_); (refine wvv9 (V.extract rfl rfl) ?_; go_step)) | ((with_reducible refine gs9 91 ?_); (refine wvv9 (V.extract rfl rfl) ?_; go_step)) | ((with_reducible refine gt9 _ (.load 69 _) ?_); (refine wl9 ?_; apply wp_loadG hS 69 _ rfl _ rfl 3 (row_of rfl) _; (case hp => exact pl9); (case hn => rfl); refine put_move ?_; go_step)) | ((with_reducible refine gs9 82 ?_); (refine wl9 ?_; apply wp_buildSlice1 (o := ⟨some 82, _, _, _, _, _⟩) hS 100 1 _ rfl 69 3 24 el100 _ _; (case hvs => (repeat (first | exact Parts.nil | (apply Parts.agg; (rfl); (rfl)) | (apply Parts.one; exact isv9; (rfl); (rfl))))); (case hn => rfl); (case hn0 => decide); (case hns => decide); clear hS; intro g82 w hS; simp only [List.cons_append, List.nil_append] at hS; refine put_move ?_; go_step)) | ((with_reducible refine gs9 83 ?_); (refine wl9 ?_; apply wp_append (o := ⟨some 83, _, _, _, _, _⟩) hS _ _ 100 rfl 69 3 24 el100 _ _ _ _ rfl; (case hp => exact pl9); (case hx => exact rfl); (case hm => (first | exact hS.slBlk pl9 (by rfl) (by decide) | exact hS.sl pl9 | with_reducible assumption | exact Sl.ext (by with_reducible assumption) hS.1 | exact Sl.nil _ _ | exact Sl.ext (by assumption) hS.1 | assumption)); (case h1 => (first | exact oneAll rfl | exact oneMap _ _ | (intro u hu; cases hu))); (case h63 => unfold maxLen; omega); (case hb => omega); clear hS; intro ad83 c83 w hS; (first | simp only [mapk1] at hS | simp only [mapk2] at hS | simp only [mapk3] at hS | simp only [mapk4] at hS | simp only [mapkl] at hS | skip); refine put_move ?_; go_step)) | ((with_reducible refine gt9 _ (.load 3 _) ?_); (refine wl9 ?_; apply wp_load1 hS 3 _ rfl _ _ rfl (one_of rfl) _; (case hp => exact pl9); (case hc => rfl); refine put_move ?_; go_step)) | ((fail_if_success with_reducible refine ga9 ?_); go_step))
        all_goals (try (have hF : False := (by omega); cases hF))
        repeat' (first
         | ((with_reducible refine gs9 99 ?_); (refine wplV (.int _ ((u0 % 16))) (V.as (V.and rfl rfl) (by exact HAnd.out)) rfl ?_; go_step)) | go_big_skip | ((with_reducible refine mv9 ?_); (first | go_big_want | go_step); go_step) | ((with_reducible refine gt9 _ (.pick _ _ _) ?_); (refine wplPickF rfl kr9 ?_; go_step)) | ((with_reducible refine gs9 93 ?_); (refine wplD _ (V.neq rfl rfl) kr9 (fun hB => ?_) (fun hB => ?_) <;> (try (have hF : False := (by omega); cases hF)) <;> go_step)) | ((with_reducible refine gs9 100 ?_); (refine wplD _ (V.neq rfl rfl) kr9 (fun hB => ?_) (fun hB => ?_) <;> (try (have hF : False := (by omega); cases hF)) <;> go_step)) | ((with_reducible refine gs9 105 ?_); (refine wplD _ (V.gtr rfl rfl) kr9 (fun hB => ?_) (fun hB => ?_) <;> (try (have hF : False := (by omega); cases hF)) <;> go_step)) | ((with_reducible refine gs9 110 ?_); (refine wplD _ (V.lss rfl rfl) kr9 (fun hB => ?_) (fun hB => ?_) <;> (try (have hF : False := (by omega); cases hF)) <;> go_step)) | ((with_reducible refine gs9 115 ?_); (refine wplD _ (V.gtr rfl rfl) kr9 (fun hB => ?_) (fun hB => ?_) <;> (try (have hF : False := (by omega); cases hF)) <;> go_step)) | ((with_reducible refine gs9 120 ?_); (refine wplD _ (V.eql rfl rfl) kr9 (fun hB => ?_) (fun hB => ?_) <;> (try (have hF : False := (by omega); cases hF)) <;> go_step)) | ((with_reducible refine gs9 95 ?_); (refine wvv9 (V.fieldAddr fo69_1 rfl nq9) ?_; go_step)) | ((with_reducible refine gs9 97 ?_); (refine wvv9 (V.fieldAddr fo69_0 rfl nq9) ?_; go_step)) | ((with_reducible refine gs9 103 ?_); (refine wvv9 (V.fieldAddr fo69_1 rfl nq9) ?_; go_step)) | ((with_reducible refine gs9 108 ?_); (refine wvv9 (V.fieldAddr fo69_0 rfl nq9) ?_; go_step)) | ((with_reducible refine gs9 113 ?_); (refine wvv9 (V.fieldAddr fo69_0 rfl nq9) ?_; go_step)) | ((with_reducible refine gs9 118 ?_); (refine wvv9 (V.fieldAddr fo69_1 rfl nq9) ?_; go_step)) | ((with_reducible refine gt9 _ (.load 3 _) ?_); (refine wl9 ?_; apply wp_load1 hS 3 _ rfl _ _ rfl (one_of rfl) _; (case hp => exact pl9); (case hc => rfl); refine put_move ?_; go_step)) | ((fail_if_success with_reducible refine ga9 ?_); go_step))
        all_goals (try (have hF : False := (by omega); cases hF))
        repeat' (first
         | ((with_reducible refine gs9 148 ?_); (refine wplV (.int _ (((r : Nat) : Int))) (V.as (V.shr rfl rfl isn9 (by omega) rfl) (by exact HR4.out)) rfl ?_; go_step)) | ((first | (with_reducible refine mv9 ?_) | (with_reducible refine as9 ?_)); (first | go_big_want | go_step); go_step) | ((with_reducible refine gs9 137 ?_); (refine wvv9 (V.fieldAddr fo69_0 rfl nq9) ?_; go_step)) | ((with_reducible refine gs9 139 ?_); (refine wvv9 (V.eql rfl rfl) ?_; go_step)) | ((with_reducible refine gs9 140 ?_); (refine wvv9 (V.fieldAddr fo69_0 rfl nq9) ?_; go_step)) | ((with_reducible refine gs9 142 ?_); (refine wvv9 (V.eql rfl rfl) ?_; go_step)) | ((with_reducible refine gs9 146 ?_); (refine wvv9 (V.fieldAddr fo69_0 rfl nq9) ?_; go_step)) | ((with_reducible refine gs9 149 ?_); (refine wvv9 (V.addI rfl rfl (by omega)) ?_; go_step)) | ((with_reducible refine gs9 151 ?_); (refine wvv9 (V.lss rfl rfl) ?_; go_step)) | ((with_reducible refine gs9 154 ?_); (refine wvv9 (V.indexAr Tryd.underlying52 isz3 rfl rfl isn9 (by omega) (Nat.mul_one _) nq9) ?_; go_step)) | ((with_reducible refine gs9 156 ?_); (refine wvv9 (V.addI rfl rfl (by omega)) ?_; go_step)) | ((with_reducible refine gs9 158 ?_); (refine wvv9 (V.gtr rfl rfl) ?_; go_step)) | ((with_reducible refine gt9 _ (.load 3 _) ?_); (refine wl9 ?_; apply wp_load1 hS 3 _ rfl _ _ rfl (one_of rfl) _; (case hp => exact pl9); (case hc => rfl); refine put_move ?_; go_step)) | ((with_reducible refine gt9 _ (.store 3 _ _) ?_); (refine wl9 ?_; apply wp_store1A hS 3 _ _ rfl _ _ rfl (one_of rfl) _ _; (case hp => exact pl9); (case hy => rfl); (case hi => omega); (case hd => exact rfl); clear hS; intro w hS)) | ((fail_if_success with_reducible refine ga9 ?_); go_step))
        all_goals (try (have hF : False := (by omega); cases hF))
        go_roundg gk'
        case measure => omega
        case rel => exact ⟨at_ + r + 1, m + 1, bl.set (at_ + r) n2, all ++ [(u0, u1, u2)], ad83, c83, s2, by omega, by omega, by omega, by omega, by go_num, rfl, hid (by rw [List.length_append, HAl.out]; rfl), hbl2, HBl2, HLo2, (by rw [HFl.out]; exact hS.sub sb9)⟩
  · have hlo := HLo.out
    have hR0 : R = (0, bl, all, s) := by
     cases gk with
     | zero => rw [← hlo, frLoop]
     | succ g => rw [← hlo, frLoop, if_pos (by omega)]
    have HLo2 : Hid ((0, bl, all, s) = R) := hid hR0.symm
    have HAl2 : Hid (all.length = m) := HAl
    clear hlo hR0 HLo
    obtain ⟨zf, hzf⟩ : ∃ x, zfrom bl = x := ⟨_, rfl⟩
    have hzl : Len zf 64 := by rw [← hzf]; exact zfrom_len bl
    have HZf : Veil (zfrom bl = zf) := ⟨hzf⟩
    clear hzf
    repeat' (first
     | ((with_reducible refine mv9 ?_); (first | go_big_want | go_step); go_step) | ((with_reducible refine gs9 66 ?_); (refine wvv9 (V.lss rfl rfl) ?_; go_step)) | ((fail_if_success with_reducible refine ga9 ?_); go_step))
    all_goals (try (have hF : False := (by omega); cases hF))
    repeat' (first
     | ((with_reducible refine gt9 _ (.call ⟨.value (.func 73), _, _⟩) ?_); refine wpl_call (f := 73) Tryd.call73 kr9 ?_; refine ⟨_, (zfrom_any _ bl hbl.out), ?_⟩; rintro e w ⟨rfl, hE⟩; rw [HZf.out]; replace hS := hS.ext hE; clear hE; refine ⟨_, rfl, ?_⟩; refine put_move ?_; go_step) | ((with_reducible refine mv9 ?_); (first | go_big_want | go_step); go_step) | ((with_reducible refine gt9 _ (.load 52 _) ?_); (refine wl9 ?_; apply wp_loadA hS 52 _ rfl _ rfl 64 (row_of rfl) _; (case hp => exact pl9); refine put_move ?_; go_step)) | ((with_reducible refine gt9 _ (.store 52 _ _) ?_); (refine wl9 ?_; apply wp_storeA hS 52 _ _ rfl _ rfl 64 (row_of rfl) _ _; (case hp => exact pl9); (case hy => rfl); (case hm => (repeat (first | assumption | exact Len.rep | apply Len.set | ((with_reducible show Len (_ :: _) _); exact rfl)))); (case hd => exact rfl); clear hS; intro w hS)) | ((fail_if_success with_reducible refine ga9 ?_); go_step))
    have hzb : ∀ i, i < 64 → -2047 ≤ nth zf i ∧ nth zf i ≤ 2047 := fun i hi => by
     rw [← HZf.out]; exact zfrom_bd bl HBl.out i hi
    have HZb := hid hzb
    obtain ⟨T, hT⟩ : ∃ T, toksOf before bl = T := ⟨_, rfl⟩
    have HTz : Veil (toksOf before (zto zf) = T) := ⟨by rw [← HZf.out, zto_zfrom bl hbl.out, hT]⟩
    obtain ⟨NT, hNT⟩ : ∃ N, T.length = N := ⟨_, rfl⟩
    have hNT64 : NT ≤ 64 := by rw [← hNT, ← hT]; exact (toks_len before bl hbl.out).2
    have HTl := hid hNT
    have HRT : Veil (frm Z.next before s0 = if T = all then (0, zf, all, s) else (4, nought0, [], s)) := ⟨by
     rw [HF.out, ← HLo2.out]
     dsimp only
     rw [if_neg (by simp), hT, HZf.out]⟩
    clear hzb hT hNT
    by_cases hEq : T = all
    case pos =>
     have HD := hid (show decide (flt T = flt all) = true from decide_eq_true (by rw [hEq]))
     have HRF : Veil (frm Z.next before s0 = (0, zf, all, s)) := ⟨by rw [HRT.out, if_pos hEq]⟩
     clear hEq
     repeat' (first
      | ((with_reducible refine gs9 168 ?_); refine wpl_call (f := 75) Tryd.call75 kr9 ?_; refine ⟨_, (tokens_any _ before zf hzl hb HZb.out), ?_⟩; rintro e w ⟨a5, c5, rfl, hS2⟩; rw [HTz.out, HTl.out] at hS2; rw [HTz.out, HTl.out]; replace hS := hS.call1 hS2; clear hS2; refine ⟨_, rfl, ?_⟩; refine put_move ?_; go_step) | ((with_reducible refine gs9 170 ?_); refine wpl_call (f := 74) Tryd.call74 kr9 ?_; refine ⟨_, (slEqTok_any _ a5 a' NT c5 (m) c' (flt T) (flt all) (hS.sl (a := a5) pl9) (hS.sl (a := a') pl9) (by omega) (by omega)), ?_⟩; rintro e w ⟨he, hE⟩; rw [HD.out] at he; subst he; replace hS := hS.ext hE; clear hE; refine ⟨_, rfl, ?_⟩; refine put_move ?_; go_step) | ((first | (with_reducible refine mv9 ?_) | (with_reducible refine as9 ?_)); (first | go_big_want | go_step); go_step) | ((with_reducible refine gs9 171 ?_); (refine wvv9 (V.not rfl) ?_; go_step)) | ((with_reducible refine gt9 _ (.load 52 _) ?_); (refine wl9 ?_; apply wp_loadA hS 52 _ rfl _ rfl 64 (row_of rfl) _; (case hp => exact pl9); refine put_move ?_; go_step)) | ((with_reducible refine gt9 _ (.store 52 _ _) ?_); (refine wl9 ?_; apply wp_storeA hS 52 _ _ rfl _ rfl 64 (row_of rfl) _ _; (case hp => exact pl9); (case hy => rfl); (case hm => (repeat (first | assumption | exact Len.rep | apply Len.set | ((with_reducible show Len (_ :: _) _); exact rfl)))); (case hd => exact rfl); clear hS; intro w hS)) | ((fail_if_success with_reducible refine ga9 ?_); go_step))
     all_goals (try (have hF : False := (by omega); cases hF))
     refine ret_all (xs := [_, _, _]) rfl (.cons (OneRes.arr hS rfl (row_of (n := 64) rfl) pl9) (.cons (OneRes.tmp rfl) (.cons (OneRes.tmp rfl) (.nil)))) (by simp) rfl ?_
     refine ⟨a', c', ?_, ?_⟩
     · rw [HRF.out]; dsimp only; rw [HAl2.out]; first | done | rfl
     · rw [HRF.out]; dsimp only; rw [HAl2.out]; exact hS.sub sb9
    case neg =>
     have HD := hid (show decide (flt T = flt all) = false from decide_eq_false (fun h => hEq (flt_inj h)))
     have HRF : frm Z.next before s0 = (4, nought0, [], s) := by rw [HRT.out, if_neg hEq]
     have HRF2 : Veil (frm Z.next before s0 = (4, nought0, [], s)) := ⟨HRF⟩
     clear hEq HRF
     repeat' (first
      | ((with_reducible refine gs9 168 ?_); refine wpl_call (f := 75) Tryd.call75 kr9 ?_; refine ⟨_, (tokens_any _ before zf hzl hb HZb.out), ?_⟩; rintro e w ⟨a5, c5, rfl, hS2⟩; rw [HTz.out, HTl.out] at hS2; rw [HTz.out, HTl.out]; replace hS := hS.call1 hS2; clear hS2; refine ⟨_, rfl, ?_⟩; refine put_move ?_; go_step) | ((with_reducible refine gs9 170 ?_); refine wpl_call (f := 74) Tryd.call74 kr9 ?_; refine ⟨_, (slEqTok_any _ a5 a' NT c5 (m) c' (flt T) (flt all) (hS.sl (a := a5) pl9) (hS.sl (a := a') pl9) (by omega) (by omega)), ?_⟩; rintro e w ⟨he, hE⟩; rw [HD.out] at he; subst he; replace hS := hS.ext hE; clear hE; refine ⟨_, rfl, ?_⟩; refine put_move ?_; go_step) | ((with_reducible refine gs9 173 ?_); refine wl9 ?_; refine wp_callV (f := 70) rfl rfl Tryd.call70 (none_any _ _) ?_; rintro e w ⟨rfl, hE⟩; replace hS := hS.ext hE; clear hE; refine ⟨_, rfl, ?_⟩; refine put_move ?_; go_step) | ((first | (with_reducible refine mv9 ?_) | (with_reducible refine as9 ?_)); (first | go_big_want | go_step); go_step) | ((with_reducible refine gs9 171 ?_); (refine wvv9 (V.not rfl) ?_; go_step)) | ((with_reducible refine gs9 174 ?_); (refine wvv9 (V.extract rfl rfl) ?_; go_step)) | ((with_reducible refine gs9 175 ?_); (refine wvv9 (V.extract rfl rfl) ?_; go_step)) | ((with_reducible refine gs9 176 ?_); (refine wvv9 (V.extract rfl rfl) ?_; go_step)) | ((with_reducible refine gt9 _ (.store 52 _ _) ?_); (refine wl9 ?_; apply wp_storeA hS 52 _ _ rfl _ rfl 64 (row_of rfl) _ _; (case hp => exact pl9); (case hy => rfl); (case hm => (repeat (first | assumption | exact Len.rep | apply Len.set | ((with_reducible show Len (_ :: _) _); exact rfl)))); (case hd => exact rfl); clear hS; intro w hS)) | ((fail_if_success with_reducible refine ga9 ?_); go_step))
     all_goals (try (have hF : False := (by omega); cases hF))
     refine ret_all (xs := [_, _, _]) rfl (.cons (OneRes.arr hS rfl (row_of (n := 64) rfl) pl9) (.cons (OneRes.tmp rfl) (.cons (OneRes.tmp rfl) (.nil)))) (by simp) rfl ?_
     exact from_no 4 HRF2.out hS sb9

end Go.Proofs.YtehbjhocgnfpmaaDoor
/- The source of tokens that seg.Decode reads. -/
namespace Go.Proofs.YtehbjhocgnfpmaaDoor
open Go.RowKit
set_option maxRecDepth 100000
set_option linter.unusedVariables false
def tkWidth (b : Bool) (s : Int) : Int := if b then s else s % 16
def tkNext (L1 L2 : List (Int × Nat × Nat)) (l : List Nat) (i : Nat) (b : Bool) : Tok × Int × Nat :=
 if (gtW (if b then L1 else L2) l i 16 0).2.1 ≠ 0 then ((0, 0, 0), (gtW (if b then L1 else L2) l i 16 0).2.1, (gtW (if b then L1 else L2) l i 16 0).2.2) else
 if 12 < tkWidth b (gtW (if b then L1 else L2) l i 16 0).1 ∨ (b = false ∧ 11 < tkWidth b (gtW (if b then L1 else L2) l i 16 0).1) then ((0, 0, 0), 4, (gtW (if b then L1 else L2) l i 16 0).2.2) else
 if 8 * l.length < (gtW (if b then L1 else L2) l i 16 0).2.2 + (tkWidth b (gtW (if b then L1 else L2) l i 16 0).1).toNat then ((0, 0, 0), 3, (gtW (if b then L1 else L2) l i 16 0).2.2)
 else (((gtW (if b then L1 else L2) l i 16 0).1, tkWidth b (gtW (if b then L1 else L2) l i 16 0).1, (numAt l (gtW (if b then L1 else L2) l i 16 0).2.2 (tkWidth b (gtW (if b then L1 else L2) l i 16 0).1).toNat : Nat)), 0, (gtW (if b then L1 else L2) l i 16 0).2.2 + (tkWidth b (gtW (if b then L1 else L2) l i 16 0).1).toNat)
def srcR (gc gr : Nat) (L1 L2 : List (Int × Nat × Nat)) (ad : Option Addr) (n c : Nat) (l : List Nat) (i : Nat) : Res := bag fun _ : { _u : Unit // i ≤ 8 * n } => [cdr gc L1 L2, rdo gr ad n c i l]
set_option maxHeartbeats 8000000 in
theorem srcTok_any (W w0 : World) (rs rs' : List Res) (gc gr : Nat) (L1 L2 : List (Int × Nat × Nat)) (ad : Option Addr) (n c : Nat) (l : List Nat) (i : Nat) (b : Bool) (t0 t1 t2 er : Int) (s' : Nat) (hL1 : Good L1) (hL2 : Good L2) (hl : ∀ x ∈ l, x < 256) (hn : n ≤ 1000000000000000000) (hS : St W w0 rs) (hp : Pull (srcR gc gr L1 L2 ad n c l i) rs rs') (hnx : tkNext L1 L2 l i b = ((t0, t1, t2), er, s')) :
 Calls Tryd.prog 130 #[.agg #[.pointer (some ⟨gc, 0, none⟩), .pointer (some ⟨gr, 0, none⟩)], .bool b] w0 fun e w => e = .returned (.tuple #[.agg #[.int .i64 t0, .int .i64 t1, .int .i64 t2], .int .i64 er]) ∧ St W w (srcR gc gr L1 L2 ad n c l s' :: rs') := by
 obtain ⟨⟨_, hi⟩, hS⟩ := (hS.pull hp).open
 obtain ⟨⟨p1, p2⟩, hS⟩ := (hS.pull .head).open
 replace hS : St W w0 (blk gc [.pointer (some ⟨p1, 0, none⟩), .pointer (some ⟨p2, 0, none⟩)] :: cod p1 L1 :: cod p2 L2 :: rdo gr ad n c i l :: rs') := hS
 clear hp
 have hln : l.length = n := rdo_len hS (.head) (.tail (.tail .head))
 obtain ⟨L, hL⟩ : ∃ L, (if b then L1 else L2) = L := ⟨_, rfl⟩
 obtain ⟨gb, hgb⟩ : ∃ x, (if b then p1 else p2) = x := ⟨_, rfl⟩
 have hGL : Good L := by rw [← hL]; cases b <;> assumption
 have HGB := hid hgb
 obtain ⟨r2, hS2, hC⟩ : ∃ r2, St W w0 (cod gb L :: r2 :: blk gc [.pointer (some ⟨p1, 0, none⟩), .pointer (some ⟨p2, 0, none⟩)] :: rdo gr ad n c i l :: rs') ∧ ∀ w i rs, i ≤ 8 * n → St W w (cod gb L :: r2 :: blk gc [.pointer (some ⟨p1, 0, none⟩), .pointer (some ⟨p2, 0, none⟩)] :: rdo gr ad n c i l :: rs) → St W w (srcR gc gr L1 L2 ad n c l i :: rs) := by
  have key : ∀ w i rs, i ≤ 8 * n → St W w (blk gc [.pointer (some ⟨p1, 0, none⟩), .pointer (some ⟨p2, 0, none⟩)] :: cod p1 L1 :: cod p2 L2 :: rdo gr ad n c i l :: rs) → St W w (srcR gc gr L1 L2 ad n c l i :: rs) := fun w i rs hi h => by
   refine St.close ⟨(), hi⟩ ?_
   refine St.close (p1, p2) ?_
   exact h
  cases b
  · obtain rfl : L2 = L := by simpa using hL
    obtain rfl : p2 = gb := by simpa using hgb
    exact ⟨cod p1 L1, hS.sub sb9, fun w i rs hi h => key w i rs hi (h.sub sb9)⟩
  · obtain rfl : L1 = L := by simpa using hL
    obtain rfl : p1 = gb := by simpa using hgb
    exact ⟨cod p2 L2, hS.sub sb9, fun w i rs hi h => key w i rs hi (h.sub sb9)⟩
 unfold tkNext at hnx
 rw [hL] at hnx
 obtain ⟨⟨sy, ge, gi⟩, hG⟩ : ∃ y, gtW L l i 16 0 = y := ⟨_, rfl⟩
 rw [hG] at hnx
 dsimp only at hnx
 have hsym : ge = 0 → 0 ≤ sy ∧ sy < 256 := fun h => by
  have h0 := gt_ok (L := L) l i 16 0 (by rw [hG]; exact h)
  obtain ⟨m, _, _, _, _, hm⟩ := h0
  rw [hG] at hm
  exact hGL.range _ hm
 clear hS hL hgb
 have hS := hS2
 have HC := hid hC
 have HG := hid hG
 have HLt := hid hl
 clear hS2 hC hG hl
 by_cases hge : ge = 0
 case neg =>
  rw [if_pos hge] at hnx
  obtain ⟨⟨rfl, rfl, rfl⟩, rfl, rfl⟩ : ((0 : Int) = t0 ∧ (0 : Int) = t1 ∧ (0 : Int) = t2) ∧ ge = er ∧ gi = s' := by simpa using hnx
  clear hnx hsym
  go_enter Tryd.func130, Tryd.ntmps130
  repeat' (first
   | (refine y92 ?_) | ((with_reducible refine gs9 2 ?_); (refine wl9 ?_; apply wp_boxG (o := ⟨some 2, _, _, _, _, _⟩) hS 99 _ rfl _ rfl; clear hS; intro g2 w hS; refine put_move ?_; go_step)) | ((with_reducible refine gs9 4 ?_); (refine wl9 ?_; apply wp_alloc (o := ⟨some 4, _, _, _, _, _⟩) hS 69 rfl (.agg #[.int .i64 0, .int .i64 0, .int .i64 0]) [.int .i64 0, .int .i64 0, .int .i64 0] (fun w => Tryd.zeroValue69 w) rfl; clear hS; intro g4 w hS; refine put_move ?_; go_step)) | ((fail_if_success with_reducible refine ga9 ?_); go_step))
  refine drawn_lit [6] (fun w => St W w [blk g2 [.pointer (some ⟨gc, 0, none⟩), .pointer (some ⟨gr, 0, none⟩)]]) kr9 ?_
  replace hS := hS.drew
  focus
   (refine takeV 0 _ al9 kr9 kr9 kr9 hq9 (V.fieldAddr fo99_0 rfl nq9) rfl ?_)
   go_step
   apply takeS 1 al9 kr9 kr9 kr9 hq9 [3, 6, 7, 8, 9, 10, 11] kr9 (hS.sub sb9)
   case hfr => intro w hS; ((refine wl9 ?_; apply wp_load1 hS 72 _ rfl _ _ rfl (one_of rfl) _; (case hp => exact pl9); (case hc => rfl); refine put_move ?_; go_step)); refine wpList_nil ?_; exact ⟨rfl, rfl⟩
   case hd => rfl
   refine takeM 2 _ al9 kr9 kr9 kr9 hq9 rfl ?_
   go_step
   (refine takeV 4 _ al9 kr9 kr9 kr9 hq9 (V.fieldAddr fo99_1 rfl nq9) rfl ?_)
   go_step
   apply takeS 5 al9 kr9 kr9 kr9 hq9 [6, 7, 8, 9, 10, 11] kr9 (hS.sub sb9)
   case hfr => intro w hS; ((refine wl9 ?_; apply wp_load1 hS 96 _ rfl _ _ rfl (one_of rfl) _; (case hp => exact pl9); (case hc => rfl); refine put_move ?_; go_step)); refine wpList_nil ?_; exact ⟨rfl, rfl⟩
   case hd => rfl
   refine branch1 3 al9 rfl kr9 ?_
   refine wp_callF (f := 39) rfl Tryd.call39 (of_any W _ _ _ gc p1 p2 b hS pl9) ?_; rintro e w ⟨rfl, hE⟩; replace hS := hS.ext hE; clear hE; rw [HGB.out]; refine ⟨_, rfl, ?_⟩
   refine ⟨fun _ _ => hS.sub sb9, ?_⟩
   refine drawn_move ?_
   go_step
   refine branch1 6 al9 rfl kr9 ?_
   refine wp_callF (f := 131) rfl Tryd.call131 (codGet_own W _ _ _ _ gb gr n c i ad L l hS pl9 pl9 HLt.out hn hi) ?_; clear hS; rw [HG.out]; rintro e w ⟨rfl, hgi, hS⟩; dsimp only at hgi hS; refine ⟨_, rfl, ?_⟩
   refine ⟨fun h => absurd (by decide) h, ?_⟩
   refine drawn_move ?_
   go_step
   refine takeM 7 _ al9 kr9 kr9 kr9 hq9 rfl ?_
   go_step
   (refine takeV 8 _ al9 kr9 kr9 kr9 hq9 (V.extract rfl rfl) rfl ?_)
   go_step
   (refine takeV 9 _ al9 kr9 kr9 kr9 hq9 (V.extract rfl rfl) rfl ?_)
   go_step
   refine takeA 10 _ al9 kr9 kr9 kr9 hq9 rfl ?_
   go_step
   refine takeA 11 _ al9 kr9 kr9 kr9 hq9 rfl ?_
   go_step
   refine drawn_done kr9 ?_ _
  all_goals
   repeat' (first
    | (refine y91 ?_) | (refine y991 ?_) | ((with_reducible refine gs9 23 ?_); (refine wvv9 (V.build (vs := []) rfl (bl69_)) ?_; go_step)) | ((with_reducible refine gt9 _ (.store 69 _ _) ?_); (refine wl9 ?_; apply wp_storeG hS 69 _ _ rfl _ rfl 3 (row_of rfl) _ _; (case hp => exact pl9); (case hy => rfl); (case hn => rfl); (case hn' => rfl); (case hv => rfl); (case hd => exact rfl); clear hS; intro w hS)) | ((fail_if_success with_reducible refine ga9 ?_); go_step))
   all_goals (try (have hF : False := (by omega); cases hF))
   refine ret_all (xs := [_, _]) rfl (.cons (OneRes.blk hS rfl (row_of (n := 3) rfl) pl9 rfl) (.cons (OneRes.tmp rfl) (.nil))) (by simp) rfl ?_
   exact ⟨rfl, HC.out _ _ _ hgi (hS.sub sb9)⟩
 subst hge
 have hsy := hsym rfl
 clear hsym
 rw [if_neg (by simp)] at hnx
 have HAnd := hid (and15 sy (by omega))
 obtain ⟨k, hk⟩ : ∃ k : Nat, tkWidth b sy = (k : Int) := ⟨(tkWidth b sy).toNat, by unfold tkWidth; split <;> omega⟩
 rw [hk] at hnx
 have HK := hid hk
 have hk256 : k < 256 := by unfold tkWidth at hk; split at hk <;> omega
 clear hk
 by_cases hbad : 12 < (k : Int) ∨ (b = false ∧ 11 < (k : Int))
 · rw [if_pos hbad] at hnx
   obtain ⟨⟨rfl, rfl, rfl⟩, rfl, rfl⟩ : ((0 : Int) = t0 ∧ (0 : Int) = t1 ∧ (0 : Int) = t2) ∧ (4 : Int) = er ∧ gi = s' := by simpa using hnx
   clear hnx
   go_enter Tryd.func130, Tryd.ntmps130
   repeat' (first
    | (refine y92 ?_) | ((with_reducible refine gs9 2 ?_); (refine wl9 ?_; apply wp_boxG (o := ⟨some 2, _, _, _, _, _⟩) hS 99 _ rfl _ rfl; clear hS; intro g2 w hS; refine put_move ?_; go_step)) | ((with_reducible refine gs9 4 ?_); (refine wl9 ?_; apply wp_alloc (o := ⟨some 4, _, _, _, _, _⟩) hS 69 rfl (.agg #[.int .i64 0, .int .i64 0, .int .i64 0]) [.int .i64 0, .int .i64 0, .int .i64 0] (fun w => Tryd.zeroValue69 w) rfl; clear hS; intro g4 w hS; refine put_move ?_; go_step)) | ((fail_if_success with_reducible refine ga9 ?_); go_step))
   refine drawn_lit [6] (fun w => St W w [blk g2 [.pointer (some ⟨gc, 0, none⟩), .pointer (some ⟨gr, 0, none⟩)]]) kr9 ?_
   replace hS := hS.drew
   focus
    (refine takeV 0 _ al9 kr9 kr9 kr9 hq9 (V.fieldAddr fo99_0 rfl nq9) rfl ?_)
    go_step
    apply takeS 1 al9 kr9 kr9 kr9 hq9 [3, 6, 7, 8, 9, 10, 11] kr9 (hS.sub sb9)
    case hfr => intro w hS; ((refine wl9 ?_; apply wp_load1 hS 72 _ rfl _ _ rfl (one_of rfl) _; (case hp => exact pl9); (case hc => rfl); refine put_move ?_; go_step)); refine wpList_nil ?_; exact ⟨rfl, rfl⟩
    case hd => rfl
    refine takeM 2 _ al9 kr9 kr9 kr9 hq9 rfl ?_
    go_step
    (refine takeV 4 _ al9 kr9 kr9 kr9 hq9 (V.fieldAddr fo99_1 rfl nq9) rfl ?_)
    go_step
    apply takeS 5 al9 kr9 kr9 kr9 hq9 [6, 7, 8, 9, 10, 11] kr9 (hS.sub sb9)
    case hfr => intro w hS; ((refine wl9 ?_; apply wp_load1 hS 96 _ rfl _ _ rfl (one_of rfl) _; (case hp => exact pl9); (case hc => rfl); refine put_move ?_; go_step)); refine wpList_nil ?_; exact ⟨rfl, rfl⟩
    case hd => rfl
    refine branch1 3 al9 rfl kr9 ?_
    refine wp_callF (f := 39) rfl Tryd.call39 (of_any W _ _ _ gc p1 p2 b hS pl9) ?_; rintro e w ⟨rfl, hE⟩; replace hS := hS.ext hE; clear hE; rw [HGB.out]; refine ⟨_, rfl, ?_⟩
    refine ⟨fun _ _ => hS.sub sb9, ?_⟩
    refine drawn_move ?_
    go_step
    refine branch1 6 al9 rfl kr9 ?_
    refine wp_callF (f := 131) rfl Tryd.call131 (codGet_own W _ _ _ _ gb gr n c i ad L l hS pl9 pl9 HLt.out hn hi) ?_; clear hS; rw [HG.out]; rintro e w ⟨rfl, hgi, hS⟩; dsimp only at hgi hS; refine ⟨_, rfl, ?_⟩
    refine ⟨fun h => absurd (by decide) h, ?_⟩
    refine drawn_move ?_
    go_step
    refine takeM 7 _ al9 kr9 kr9 kr9 hq9 rfl ?_
    go_step
    (refine takeV 8 _ al9 kr9 kr9 kr9 hq9 (V.extract rfl rfl) rfl ?_)
    go_step
    (refine takeV 9 _ al9 kr9 kr9 kr9 hq9 (V.extract rfl rfl) rfl ?_)
    go_step
    refine takeA 10 _ al9 kr9 kr9 kr9 hq9 rfl ?_
    go_step
    refine takeA 11 _ al9 kr9 kr9 kr9 hq9 rfl ?_
    go_step
    refine drawn_done kr9 ?_ _
   all_goals
    cases b
    · have hk1 := hid (show sy % 16 = (k : Int) from HK.out)
      have hk2 : 11 < k := by rcases hbad with h | ⟨_, h⟩ <;> omega
      clear hbad
      repeat' (first
       | (refine y9146 ?_) | (refine y991 ?_) | ((fail_if_success with_reducible refine ga9 ?_); go_step))
      all_goals (try (have hF : False := (by omega); cases hF))
      repeat' (first
       | (refine y950 ?_) | (refine y9146 ?_) | (refine y952 ?_) | ((with_reducible refine gs9 8 ?_); (refine wl9 ?_; apply wp_alloc (o := ⟨some 8, _, _, _, _, _⟩) hS 69 rfl (.agg #[.int .i64 0, .int .i64 0, .int .i64 0]) [.int .i64 0, .int .i64 0, .int .i64 0] (fun w => Tryd.zeroValue69 w) rfl; clear hS; intro g8 w hS; refine put_move ?_; go_step)) | ((with_reducible refine gt9 _ (.store 69 _ _) ?_); (refine wl9 ?_; apply wp_storeG hS 69 _ _ rfl _ rfl 3 (row_of rfl) _ _; (case hp => exact pl9); (case hy => rfl); (case hn => rfl); (case hn' => rfl); (case hv => rfl); (case hd => exact rfl); clear hS; intro w hS)) | ((fail_if_success with_reducible refine ga9 ?_); go_step))
      repeat' (first
       | go_skip | ((first | (with_reducible refine mv9 ?_) | (with_reducible refine as9 ?_)); (first | go_big_want | go_step); go_step) | ((with_reducible refine gt9 _ (.pick _ _ _) ?_); first | (refine wplPickT rfl kr9 ?_; go_step) | (refine wplPickF rfl kr9 ?_; go_step)) | ((with_reducible refine gs9 34 ?_); (refine wplD _ (V.gtr rfl rfl) kr9 (fun hB => ?_) (fun hB => ?_) <;> (try (have hF : False := (by omega); cases hF)) <;> go_step)) | ((with_reducible refine gs9 37 ?_); (refine wplB _ (V.not rfl) kr9 (fun hB => ?_) (fun hB => ?_) <;> (try (have hF : False := (absurd hB (by decide)); cases hF)) <;> go_step)) | ((with_reducible refine gt9 _ (.fieldAddr 69 _ 1) ?_); (refine wvv9 (V.fieldAddr fo69_1 rfl nq9) ?_; go_step)) | ((with_reducible refine gt9 _ (.binOp .gtr _ _ _ _) ?_); (refine wvv9 (V.gtr rfl rfl) ?_; go_step)) | ((with_reducible refine gs9 44 ?_); (refine wvv9 (V.build (vs := []) rfl (bl69_)) ?_; go_step)) | ((with_reducible refine gt9 _ (.load 3 _) ?_); (refine wl9 ?_; apply wp_load1 hS 3 _ rfl _ _ rfl (one_of rfl) _; (case hp => exact pl9); (case hc => rfl); refine put_move ?_; go_step)) | ((with_reducible refine gt9 _ (.store 69 _ _) ?_); (refine wl9 ?_; apply wp_storeG hS 69 _ _ rfl _ rfl 3 (row_of rfl) _ _; (case hp => exact pl9); (case hy => rfl); (case hn => rfl); (case hn' => rfl); (case hv => rfl); (case hd => exact rfl); clear hS; intro w hS)) | ((fail_if_success with_reducible refine ga9 ?_); go_step))
      all_goals (try (have hF : False := (by omega); cases hF))
      all_goals
       refine ret_all (xs := [_, _]) rfl (.cons (OneRes.blk hS rfl (row_of (n := 3) rfl) pl9 rfl) (.cons (OneRes.tmp rfl) (.nil))) (by simp) rfl ?_
       exact ⟨rfl, HC.out _ _ _ hgi (hS.sub sb9)⟩
    · obtain rfl : sy = (k : Int) := HK.out
      have hk2 : 12 < k := by rcases hbad with h | ⟨h, _⟩ <;> first | omega | cases h
      clear hbad
      repeat' (first
       | (refine y9146 ?_) | (refine y991 ?_) | ((fail_if_success with_reducible refine ga9 ?_); go_step))
      all_goals (try (have hF : False := (by omega); cases hF))
      repeat' (first
       | (refine y949 ?_) | go_skip | (refine y91 ?_) | (refine y9140 ?_) | ((with_reducible refine gs9 34 ?_); (refine wplD _ (V.gtr rfl rfl) kr9 (fun hB => ?_) (fun hB => ?_) <;> (try (have hF : False := (by omega); cases hF)) <;> go_step)) | (refine y952 ?_) | (refine y9111 ?_) | ((with_reducible refine gs9 44 ?_); (refine wvv9 (V.build (vs := []) rfl (bl69_)) ?_; go_step)) | ((with_reducible refine gs9 8 ?_); (refine wl9 ?_; apply wp_alloc (o := ⟨some 8, _, _, _, _, _⟩) hS 69 rfl (.agg #[.int .i64 0, .int .i64 0, .int .i64 0]) [.int .i64 0, .int .i64 0, .int .i64 0] (fun w => Tryd.zeroValue69 w) rfl; clear hS; intro g8 w hS; refine put_move ?_; go_step)) | ((with_reducible refine gt9 _ (.store 69 _ _) ?_); (refine wl9 ?_; apply wp_storeG hS 69 _ _ rfl _ rfl 3 (row_of rfl) _ _; (case hp => exact pl9); (case hy => rfl); (case hn => rfl); (case hn' => rfl); (case hv => rfl); (case hd => exact rfl); clear hS; intro w hS)) | ((with_reducible refine gt9 _ (.store 3 _ _) ?_); (refine wl9 ?_; apply wp_store1 hS 3 _ _ rfl _ _ rfl (one_of rfl) _ _; (case hp => exact pl9); (case hy => exact isv9); (case hv => rfl); (case hc => (repeat (first | with_reducible exact SetAt.head | apply SetAt.tail))); (case hd => exact rfl); clear hS; intro w hS)) | (refine y9121 ?_) | ((fail_if_success with_reducible refine ga9 ?_); go_step))
      all_goals (try (have hF : False := (by omega); cases hF))
      all_goals
       refine ret_all (xs := [_, _]) rfl (.cons (OneRes.blk hS rfl (row_of (n := 3) rfl) pl9 rfl) (.cons (OneRes.tmp rfl) (.nil))) (by simp) rfl ?_
       exact ⟨rfl, HC.out _ _ _ hgi (hS.sub sb9)⟩
 rw [if_neg hbad, hln, Int.toNat_natCast] at hnx
 have hkb : k ≤ 12 ∧ (b = false → k ≤ 11) := by
  refine ⟨by omega, fun h => ?_⟩
  rcases Nat.lt_or_ge 11 k with h1 | h1
  · exact absurd (.inr ⟨h, by omega⟩) hbad
  · exact h1
 by_cases hsh : 8 * n < gi + k
 · rw [if_pos hsh] at hnx
   obtain ⟨⟨rfl, rfl, rfl⟩, rfl, rfl⟩ : ((0 : Int) = t0 ∧ (0 : Int) = t1 ∧ (0 : Int) = t2) ∧ (3 : Int) = er ∧ gi = s' := by simpa using hnx
   clear hnx hbad
   go_enter Tryd.func130, Tryd.ntmps130
   repeat' (first
    | (refine y92 ?_) | ((with_reducible refine gs9 2 ?_); (refine wl9 ?_; apply wp_boxG (o := ⟨some 2, _, _, _, _, _⟩) hS 99 _ rfl _ rfl; clear hS; intro g2 w hS; refine put_move ?_; go_step)) | ((with_reducible refine gs9 4 ?_); (refine wl9 ?_; apply wp_alloc (o := ⟨some 4, _, _, _, _, _⟩) hS 69 rfl (.agg #[.int .i64 0, .int .i64 0, .int .i64 0]) [.int .i64 0, .int .i64 0, .int .i64 0] (fun w => Tryd.zeroValue69 w) rfl; clear hS; intro g4 w hS; refine put_move ?_; go_step)) | ((fail_if_success with_reducible refine ga9 ?_); go_step))
   refine drawn_lit [6] (fun w => St W w [blk g2 [.pointer (some ⟨gc, 0, none⟩), .pointer (some ⟨gr, 0, none⟩)]]) kr9 ?_
   replace hS := hS.drew
   focus
    (refine takeV 0 _ al9 kr9 kr9 kr9 hq9 (V.fieldAddr fo99_0 rfl nq9) rfl ?_)
    go_step
    apply takeS 1 al9 kr9 kr9 kr9 hq9 [3, 6, 7, 8, 9, 10, 11] kr9 (hS.sub sb9)
    case hfr => intro w hS; ((refine wl9 ?_; apply wp_load1 hS 72 _ rfl _ _ rfl (one_of rfl) _; (case hp => exact pl9); (case hc => rfl); refine put_move ?_; go_step)); refine wpList_nil ?_; exact ⟨rfl, rfl⟩
    case hd => rfl
    refine takeM 2 _ al9 kr9 kr9 kr9 hq9 rfl ?_
    go_step
    (refine takeV 4 _ al9 kr9 kr9 kr9 hq9 (V.fieldAddr fo99_1 rfl nq9) rfl ?_)
    go_step
    apply takeS 5 al9 kr9 kr9 kr9 hq9 [6, 7, 8, 9, 10, 11] kr9 (hS.sub sb9)
    case hfr => intro w hS; ((refine wl9 ?_; apply wp_load1 hS 96 _ rfl _ _ rfl (one_of rfl) _; (case hp => exact pl9); (case hc => rfl); refine put_move ?_; go_step)); refine wpList_nil ?_; exact ⟨rfl, rfl⟩
    case hd => rfl
    refine branch1 3 al9 rfl kr9 ?_
    refine wp_callF (f := 39) rfl Tryd.call39 (of_any W _ _ _ gc p1 p2 b hS pl9) ?_; rintro e w ⟨rfl, hE⟩; replace hS := hS.ext hE; clear hE; rw [HGB.out]; refine ⟨_, rfl, ?_⟩
    refine ⟨fun _ _ => hS.sub sb9, ?_⟩
    refine drawn_move ?_
    go_step
    refine branch1 6 al9 rfl kr9 ?_
    refine wp_callF (f := 131) rfl Tryd.call131 (codGet_own W _ _ _ _ gb gr n c i ad L l hS pl9 pl9 HLt.out hn hi) ?_; clear hS; rw [HG.out]; rintro e w ⟨rfl, hgi, hS⟩; dsimp only at hgi hS; refine ⟨_, rfl, ?_⟩
    refine ⟨fun h => absurd (by decide) h, ?_⟩
    refine drawn_move ?_
    go_step
    refine takeM 7 _ al9 kr9 kr9 kr9 hq9 rfl ?_
    go_step
    (refine takeV 8 _ al9 kr9 kr9 kr9 hq9 (V.extract rfl rfl) rfl ?_)
    go_step
    (refine takeV 9 _ al9 kr9 kr9 kr9 hq9 (V.extract rfl rfl) rfl ?_)
    go_step
    refine takeA 10 _ al9 kr9 kr9 kr9 hq9 rfl ?_
    go_step
    refine takeA 11 _ al9 kr9 kr9 kr9 hq9 rfl ?_
    go_step
    refine drawn_done kr9 ?_ _
   all_goals
    cases b
    · have hk1 := hid (show sy % 16 = (k : Int) from HK.out)
      have hk2 := hkb.2 rfl
      clear hkb
      repeat' (first
       | (refine y9146 ?_) | (refine y991 ?_) | ((fail_if_success with_reducible refine ga9 ?_); go_step))
      all_goals (try (have hF : False := (by omega); cases hF))
      repeat' (first
       | (refine y950 ?_) | (refine y9146 ?_) | (refine y952 ?_) | ((with_reducible refine gs9 8 ?_); (refine wl9 ?_; apply wp_alloc (o := ⟨some 8, _, _, _, _, _⟩) hS 69 rfl (.agg #[.int .i64 0, .int .i64 0, .int .i64 0]) [.int .i64 0, .int .i64 0, .int .i64 0] (fun w => Tryd.zeroValue69 w) rfl; clear hS; intro g8 w hS; refine put_move ?_; go_step)) | ((with_reducible refine gt9 _ (.store 69 _ _) ?_); (refine wl9 ?_; apply wp_storeG hS 69 _ _ rfl _ rfl 3 (row_of rfl) _ _; (case hp => exact pl9); (case hy => rfl); (case hn => rfl); (case hn' => rfl); (case hv => rfl); (case hd => exact rfl); clear hS; intro w hS)) | ((fail_if_success with_reducible refine ga9 ?_); go_step))
      repeat' (first
       | (refine y9146 ?_) | (refine y9141 ?_) | ((with_reducible refine gs9 34 ?_); (refine wplD _ (V.gtr rfl rfl) kr9 (fun hB => ?_) (fun hB => ?_) <;> (try (have hF : False := (by omega); cases hF)) <;> go_step)) | ((with_reducible refine gs9 37 ?_); (refine wplB _ (V.not rfl) kr9 (fun hB => ?_) (fun hB => ?_) <;> (try (have hF : False := (absurd hB (by decide)); cases hF)) <;> go_step)) | (refine y9111 ?_) | (refine y988 ?_) | (refine y9121 ?_) | ((fail_if_success with_reducible refine ga9 ?_); go_step))
      all_goals (try (have hF : False := (by omega); cases hF))
      repeat' (first
       | ((with_reducible refine gs9 50 ?_); refine wpl_call (f := 51) Tryd.call51 kr9 ?_; refine ⟨_, (get_own W _ _ _ gr n c gi k ad l hS pl9 HLt.out hn hgi (by omega)), ?_⟩; rintro e w ⟨hq, _⟩; obtain ⟨rfl, hS2⟩ := hq hsh; clear hq hS; have hS := hS2; clear hS2; refine ⟨_, rfl, ?_⟩; refine put_move ?_; go_step) | (refine y91 ?_) | (refine y9113 ?_) | (refine y9111 ?_) | (refine y9105 ?_) | (refine y9145 ?_) | ((with_reducible refine gs9 55 ?_); (refine wvv9 (V.build (vs := []) rfl (bl69_)) ?_; go_step)) | (refine y9136 ?_) | (refine y9121 ?_) | ((with_reducible refine gt9 _ (.store 69 _ _) ?_); (refine wl9 ?_; apply wp_storeG hS 69 _ _ rfl _ rfl 3 (row_of rfl) _ _; (case hp => exact pl9); (case hy => rfl); (case hn => rfl); (case hn' => rfl); (case hv => rfl); (case hd => exact rfl); clear hS; intro w hS)) | ((fail_if_success with_reducible refine ga9 ?_); go_step))
      refine ret_all (xs := [_, _]) rfl (.cons (OneRes.blk hS rfl (row_of (n := 3) rfl) pl9 rfl) (.cons (OneRes.tmp rfl) (.nil))) (by simp) rfl ?_
      exact ⟨rfl, HC.out _ _ _ hgi (hS.sub sb9)⟩
    · obtain rfl : sy = (k : Int) := HK.out
      have hk2 := hkb.1
      clear hkb
      repeat' (first
       | (refine y9146 ?_) | (refine y991 ?_) | ((fail_if_success with_reducible refine ga9 ?_); go_step))
      all_goals (try (have hF : False := (by omega); cases hF))
      repeat' (first
       | (refine y949 ?_) | go_skip | (refine y9146 ?_) | (refine y9139 ?_) | ((with_reducible refine gs9 34 ?_); (refine wplD _ (V.gtr rfl rfl) kr9 (fun hB => ?_) (fun hB => ?_) <;> (try (have hF : False := (by omega); cases hF)) <;> go_step)) | ((with_reducible refine gs9 37 ?_); (refine wplB _ (V.not rfl) kr9 (fun hB => ?_) (fun hB => ?_) <;> (try (have hF : False := (absurd hB (by decide)); cases hF)) <;> go_step)) | (refine y952 ?_) | (refine y9111 ?_) | ((with_reducible refine gs9 8 ?_); (refine wl9 ?_; apply wp_alloc (o := ⟨some 8, _, _, _, _, _⟩) hS 69 rfl (.agg #[.int .i64 0, .int .i64 0, .int .i64 0]) [.int .i64 0, .int .i64 0, .int .i64 0] (fun w => Tryd.zeroValue69 w) rfl; clear hS; intro g8 w hS; refine put_move ?_; go_step)) | ((with_reducible refine gt9 _ (.store 69 _ _) ?_); (refine wl9 ?_; apply wp_storeG hS 69 _ _ rfl _ rfl 3 (row_of rfl) _ _; (case hp => exact pl9); (case hy => rfl); (case hn => rfl); (case hn' => rfl); (case hv => rfl); (case hd => exact rfl); clear hS; intro w hS)) | ((with_reducible refine gt9 _ (.store 3 _ _) ?_); (refine wl9 ?_; apply wp_store1 hS 3 _ _ rfl _ _ rfl (one_of rfl) _ _; (case hp => exact pl9); (case hy => exact isv9); (case hv => rfl); (case hc => (repeat (first | with_reducible exact SetAt.head | apply SetAt.tail))); (case hd => exact rfl); clear hS; intro w hS)) | (refine y9121 ?_) | ((fail_if_success with_reducible refine ga9 ?_); go_step))
      all_goals (try (have hF : False := (by omega); cases hF))
      repeat' (first
       | ((with_reducible refine gs9 50 ?_); refine wpl_call (f := 51) Tryd.call51 kr9 ?_; refine ⟨_, (get_own W _ _ _ gr n c gi k ad l hS pl9 HLt.out hn hgi (by omega)), ?_⟩; rintro e w ⟨hq, _⟩; obtain ⟨rfl, hS2⟩ := hq hsh; clear hq hS; have hS := hS2; clear hS2; refine ⟨_, rfl, ?_⟩; refine put_move ?_; go_step) | (refine y91 ?_) | (refine y9113 ?_) | (refine y9111 ?_) | (refine y9105 ?_) | (refine y9145 ?_) | ((with_reducible refine gs9 55 ?_); (refine wvv9 (V.build (vs := []) rfl (bl69_)) ?_; go_step)) | (refine y9136 ?_) | (refine y9121 ?_) | ((with_reducible refine gt9 _ (.store 69 _ _) ?_); (refine wl9 ?_; apply wp_storeG hS 69 _ _ rfl _ rfl 3 (row_of rfl) _ _; (case hp => exact pl9); (case hy => rfl); (case hn => rfl); (case hn' => rfl); (case hv => rfl); (case hd => exact rfl); clear hS; intro w hS)) | ((fail_if_success with_reducible refine ga9 ?_); go_step))
      refine ret_all (xs := [_, _]) rfl (.cons (OneRes.blk hS rfl (row_of (n := 3) rfl) pl9 rfl) (.cons (OneRes.tmp rfl) (.nil))) (by simp) rfl ?_
      exact ⟨rfl, HC.out _ _ _ hgi (hS.sub sb9)⟩
 rw [if_neg hsh] at hnx
 obtain ⟨⟨rfl, rfl, rfl⟩, rfl, rfl⟩ : (sy = t0 ∧ (k : Int) = t1 ∧ ((numAt l gi k : Nat) : Int) = t2) ∧ (0 : Int) = er ∧ gi + k = s' := by simpa using hnx
 clear hnx hbad
 go_enter Tryd.func130, Tryd.ntmps130
 repeat' (first
  | (refine y92 ?_) | ((with_reducible refine gs9 2 ?_); (refine wl9 ?_; apply wp_boxG (o := ⟨some 2, _, _, _, _, _⟩) hS 99 _ rfl _ rfl; clear hS; intro g2 w hS; refine put_move ?_; go_step)) | ((with_reducible refine gs9 4 ?_); (refine wl9 ?_; apply wp_alloc (o := ⟨some 4, _, _, _, _, _⟩) hS 69 rfl (.agg #[.int .i64 0, .int .i64 0, .int .i64 0]) [.int .i64 0, .int .i64 0, .int .i64 0] (fun w => Tryd.zeroValue69 w) rfl; clear hS; intro g4 w hS; refine put_move ?_; go_step)) | ((fail_if_success with_reducible refine ga9 ?_); go_step))
 refine drawn_lit [6] (fun w => St W w [blk g2 [.pointer (some ⟨gc, 0, none⟩), .pointer (some ⟨gr, 0, none⟩)]]) kr9 ?_
 replace hS := hS.drew
 focus
  (refine takeV 0 _ al9 kr9 kr9 kr9 hq9 (V.fieldAddr fo99_0 rfl nq9) rfl ?_)
  go_step
  apply takeS 1 al9 kr9 kr9 kr9 hq9 [3, 6, 7, 8, 9, 10, 11] kr9 (hS.sub sb9)
  case hfr => intro w hS; ((refine wl9 ?_; apply wp_load1 hS 72 _ rfl _ _ rfl (one_of rfl) _; (case hp => exact pl9); (case hc => rfl); refine put_move ?_; go_step)); refine wpList_nil ?_; exact ⟨rfl, rfl⟩
  case hd => rfl
  refine takeM 2 _ al9 kr9 kr9 kr9 hq9 rfl ?_
  go_step
  (refine takeV 4 _ al9 kr9 kr9 kr9 hq9 (V.fieldAddr fo99_1 rfl nq9) rfl ?_)
  go_step
  apply takeS 5 al9 kr9 kr9 kr9 hq9 [6, 7, 8, 9, 10, 11] kr9 (hS.sub sb9)
  case hfr => intro w hS; ((refine wl9 ?_; apply wp_load1 hS 96 _ rfl _ _ rfl (one_of rfl) _; (case hp => exact pl9); (case hc => rfl); refine put_move ?_; go_step)); refine wpList_nil ?_; exact ⟨rfl, rfl⟩
  case hd => rfl
  refine branch1 3 al9 rfl kr9 ?_
  refine wp_callF (f := 39) rfl Tryd.call39 (of_any W _ _ _ gc p1 p2 b hS pl9) ?_; rintro e w ⟨rfl, hE⟩; replace hS := hS.ext hE; clear hE; rw [HGB.out]; refine ⟨_, rfl, ?_⟩
  refine ⟨fun _ _ => hS.sub sb9, ?_⟩
  refine drawn_move ?_
  go_step
  refine branch1 6 al9 rfl kr9 ?_
  refine wp_callF (f := 131) rfl Tryd.call131 (codGet_own W _ _ _ _ gb gr n c i ad L l hS pl9 pl9 HLt.out hn hi) ?_; clear hS; rw [HG.out]; rintro e w ⟨rfl, hgi, hS⟩; dsimp only at hgi hS; refine ⟨_, rfl, ?_⟩
  refine ⟨fun h => absurd (by decide) h, ?_⟩
  refine drawn_move ?_
  go_step
  refine takeM 7 _ al9 kr9 kr9 kr9 hq9 rfl ?_
  go_step
  (refine takeV 8 _ al9 kr9 kr9 kr9 hq9 (V.extract rfl rfl) rfl ?_)
  go_step
  (refine takeV 9 _ al9 kr9 kr9 kr9 hq9 (V.extract rfl rfl) rfl ?_)
  go_step
  refine takeA 10 _ al9 kr9 kr9 kr9 hq9 rfl ?_
  go_step
  refine takeA 11 _ al9 kr9 kr9 kr9 hq9 rfl ?_
  go_step
  refine drawn_done kr9 ?_ _
 all_goals
  cases b
  · have hk1 := hid (show sy % 16 = (k : Int) from HK.out)
    have hk2 := hkb.2 rfl
    clear hkb
    repeat' (first
     | (refine y9146 ?_) | (refine y991 ?_) | ((fail_if_success with_reducible refine ga9 ?_); go_step))
    all_goals (try (have hF : False := (by omega); cases hF))
    repeat' (first
     | (refine y950 ?_) | (refine y9146 ?_) | (refine y952 ?_) | ((with_reducible refine gs9 8 ?_); (refine wl9 ?_; apply wp_alloc (o := ⟨some 8, _, _, _, _, _⟩) hS 69 rfl (.agg #[.int .i64 0, .int .i64 0, .int .i64 0]) [.int .i64 0, .int .i64 0, .int .i64 0] (fun w => Tryd.zeroValue69 w) rfl; clear hS; intro g8 w hS; refine put_move ?_; go_step)) | ((with_reducible refine gt9 _ (.store 69 _ _) ?_); (refine wl9 ?_; apply wp_storeG hS 69 _ _ rfl _ rfl 3 (row_of rfl) _ _; (case hp => exact pl9); (case hy => rfl); (case hn => rfl); (case hn' => rfl); (case hv => rfl); (case hd => exact rfl); clear hS; intro w hS)) | ((fail_if_success with_reducible refine ga9 ?_); go_step))
    repeat' (first
     | (refine y9146 ?_) | (refine y9141 ?_) | ((with_reducible refine gs9 34 ?_); (refine wplD _ (V.gtr rfl rfl) kr9 (fun hB => ?_) (fun hB => ?_) <;> (try (have hF : False := (by omega); cases hF)) <;> go_step)) | ((with_reducible refine gs9 37 ?_); (refine wplB _ (V.not rfl) kr9 (fun hB => ?_) (fun hB => ?_) <;> (try (have hF : False := (absurd hB (by decide)); cases hF)) <;> go_step)) | (refine y9111 ?_) | (refine y988 ?_) | (refine y9121 ?_) | ((fail_if_success with_reducible refine ga9 ?_); go_step))
    all_goals (try (have hF : False := (by omega); cases hF))
    repeat' (first
     | ((with_reducible refine gs9 50 ?_); refine wpl_call (f := 51) Tryd.call51 kr9 ?_; refine ⟨_, (get_own W _ _ _ gr n c gi k ad l hS pl9 HLt.out hn hgi (by omega)), ?_⟩; rintro e w ⟨_, hq⟩; obtain ⟨rfl, hS2⟩ := hq (by omega); clear hq hS; have hS := hS2; clear hS2; refine ⟨_, rfl, ?_⟩; refine put_move ?_; go_step) | (refine y91 ?_) | (refine y9113 ?_) | (refine y9111 ?_) | (refine y9105 ?_) | (refine y9145 ?_) | (refine y9136 ?_) | (refine y9121 ?_) | ((fail_if_success with_reducible refine ga9 ?_); go_step))
    all_goals (try (have hF : False := (by omega); cases hF))
    repeat' (first
     | (refine y92 ?_) | (refine y9112 ?_) | ((with_reducible refine gt9 _ (.store 3 _ _) ?_); (refine wl9 ?_; apply wp_store1 hS 3 _ _ rfl _ _ rfl (one_of rfl) _ _; (case hp => exact pl9); (case hy => exact isv9); (case hv => rfl); (case hc => (repeat (first | with_reducible exact SetAt.head | apply SetAt.tail))); (case hd => exact rfl); clear hS; intro w hS)) | (refine y9131 ?_) | ((with_reducible refine gt9 _ (.store 69 _ _) ?_); (refine wl9 ?_; apply wp_storeG hS 69 _ _ rfl _ rfl 3 (row_of rfl) _ _; (case hp => exact pl9); (case hy => rfl); (case hn => rfl); (case hn' => rfl); (case hv => rfl); (case hd => exact rfl); clear hS; intro w hS)) | ((fail_if_success with_reducible refine ga9 ?_); go_step))
    refine ret_all (xs := [_, _]) rfl (.cons (OneRes.blk hS rfl (row_of (n := 3) rfl) pl9 rfl) (.cons (OneRes.tmp rfl) (.nil))) (by simp) rfl ?_
    exact ⟨rfl, HC.out _ _ _ (by omega) (hS.sub sb9)⟩
  · obtain rfl : sy = (k : Int) := HK.out
    have hk2 := hkb.1
    clear hkb
    repeat' (first
     | (refine y9146 ?_) | (refine y991 ?_) | ((fail_if_success with_reducible refine ga9 ?_); go_step))
    all_goals (try (have hF : False := (by omega); cases hF))
    repeat' (first
     | (refine y949 ?_) | go_skip | (refine y9146 ?_) | (refine y9139 ?_) | ((with_reducible refine gs9 34 ?_); (refine wplD _ (V.gtr rfl rfl) kr9 (fun hB => ?_) (fun hB => ?_) <;> (try (have hF : False := (by omega); cases hF)) <;> go_step)) | ((with_reducible refine gs9 37 ?_); (refine wplB _ (V.not rfl) kr9 (fun hB => ?_) (fun hB => ?_) <;> (try (have hF : False := (absurd hB (by decide)); cases hF)) <;> go_step)) | (refine y952 ?_) | (refine y9111 ?_) | ((with_reducible refine gs9 8 ?_); (refine wl9 ?_; apply wp_alloc (o := ⟨some 8, _, _, _, _, _⟩) hS 69 rfl (.agg #[.int .i64 0, .int .i64 0, .int .i64 0]) [.int .i64 0, .int .i64 0, .int .i64 0] (fun w => Tryd.zeroValue69 w) rfl; clear hS; intro g8 w hS; refine put_move ?_; go_step)) | ((with_reducible refine gt9 _ (.store 69 _ _) ?_); (refine wl9 ?_; apply wp_storeG hS 69 _ _ rfl _ rfl 3 (row_of rfl) _ _; (case hp => exact pl9); (case hy => rfl); (case hn => rfl); (case hn' => rfl); (case hv => rfl); (case hd => exact rfl); clear hS; intro w hS)) | ((with_reducible refine gt9 _ (.store 3 _ _) ?_); (refine wl9 ?_; apply wp_store1 hS 3 _ _ rfl _ _ rfl (one_of rfl) _ _; (case hp => exact pl9); (case hy => exact isv9); (case hv => rfl); (case hc => (repeat (first | with_reducible exact SetAt.head | apply SetAt.tail))); (case hd => exact rfl); clear hS; intro w hS)) | (refine y9121 ?_) | ((fail_if_success with_reducible refine ga9 ?_); go_step))
    all_goals (try (have hF : False := (by omega); cases hF))
    repeat' (first
     | ((with_reducible refine gs9 50 ?_); refine wpl_call (f := 51) Tryd.call51 kr9 ?_; refine ⟨_, (get_own W _ _ _ gr n c gi k ad l hS pl9 HLt.out hn hgi (by omega)), ?_⟩; rintro e w ⟨_, hq⟩; obtain ⟨rfl, hS2⟩ := hq (by omega); clear hq hS; have hS := hS2; clear hS2; refine ⟨_, rfl, ?_⟩; refine put_move ?_; go_step) | (refine y91 ?_) | (refine y9113 ?_) | (refine y9111 ?_) | (refine y9105 ?_) | (refine y9145 ?_) | (refine y9136 ?_) | (refine y9121 ?_) | ((fail_if_success with_reducible refine ga9 ?_); go_step))
    all_goals (try (have hF : False := (by omega); cases hF))
    repeat' (first
     | (refine y92 ?_) | (refine y9112 ?_) | ((with_reducible refine gt9 _ (.store 3 _ _) ?_); (refine wl9 ?_; apply wp_store1 hS 3 _ _ rfl _ _ rfl (one_of rfl) _ _; (case hp => exact pl9); (case hy => exact isv9); (case hv => rfl); (case hc => (repeat (first | with_reducible exact SetAt.head | apply SetAt.tail))); (case hd => exact rfl); clear hS; intro w hS)) | (refine y9131 ?_) | ((with_reducible refine gt9 _ (.store 69 _ _) ?_); (refine wl9 ?_; apply wp_storeG hS 69 _ _ rfl _ rfl 3 (row_of rfl) _ _; (case hp => exact pl9); (case hy => rfl); (case hn => rfl); (case hn' => rfl); (case hv => rfl); (case hd => exact rfl); clear hS; intro w hS)) | ((fail_if_success with_reducible refine ga9 ?_); go_step))
    refine ret_all (xs := [_, _]) rfl (.cons (OneRes.blk hS rfl (row_of (n := 3) rfl) pl9 rfl) (.cons (OneRes.tmp rfl) (.nil))) (by simp) rfl ?_
    exact ⟨rfl, HC.out _ _ _ (by omega) (hS.sub sb9)⟩

set_option maxRecDepth 100000
set_option linter.unusedVariables false
def Bd (b : List Int) : Prop := b.length = 64 ∧ ∀ i, i < 64 → -2047 ≤ nth b i ∧ nth b i ≤ 2047
theorem Bd.set {b : List Int} (h : Bd b) (i : Nat) (n : Int) (hn : -2047 ≤ n ∧ n ≤ 2047) (hi : i < 64) : Bd (b.set i n) := by
 refine ⟨by rw [List.length_set]; exact h.1, fun j hj => ?_⟩
 rw [nth_set _ _ _ _ (by rw [h.1]; exact hi)]
 split
 · exact hn
 · exact h.2 j hj
theorem numT_in (t : Tok) (h : badT t = false) : -2047 ≤ numT t ∧ numT t ≤ 2047 := by
 obtain ⟨t0, t1, t2⟩ := t
 have hiff := badT_eq t0 t1 t2
 rw [h] at hiff
 by_cases hB : okB t1 t2 = true
 · have h11 : t1 ≤ 11 := by
    by_cases h1 : t1 ≤ 11
    · exact h1
    · have := hiff.2 (.inr (.inl (by omega))); cases this
   have := (numT_bd t0 t1 t2 hB).2.2 h11
   omega
 · have := hiff.2 (.inl (by simpa using hB)); cases this
theorem nth_nought (i : Nat) : nth (List.replicate 64 (0 : Int)) i = 0 := by
 unfold nth List.getD
 rw [List.getElem?_replicate]
 split <;> rfl
theorem first0_bd (n : Int) (h : -2047 ≤ n ∧ n ≤ 2047) : Bd (first0 n) := by
 unfold first0
 exact Bd.set ⟨List.length_replicate, fun i hi => by rw [nth_nought]; omega⟩ 0 n h (by omega)
theorem okFirst_bd {before : Int} {t : Tok} (h : okFirst before t = true) : -2047 ≤ before + numT t ∧ before + numT t ≤ 2047 := by
 unfold okFirst at h
 simp only [Bool.and_eq_true, decide_eq_true_eq] at h
 exact h.2
def Fed {σ : Type} (next : σ → Bool → Tok × Int × σ) : List (Tok × Bool) → σ → σ → Prop
 | [], s, s' => s = s'
 | x :: r, s, s' => (next s x.2).1 = x.1 ∧ (next s x.2).2.1 = 0 ∧ Fed next r (next s x.2).2.2 s'
theorem Fed.app {σ : Type} {next : σ → Bool → Tok × Int × σ} : ∀ {A B : List (Tok × Bool)} {s s1 s2 : σ}, Fed next A s s1 → Fed next B s1 s2 → Fed next (A ++ B) s s2
 | [], B, s, s1, s2, h, k => by rw [show s = s1 from h]; exact k
 | x :: A, B, s, s1, s2, h, k => ⟨h.1, h.2.1, Fed.app h.2.2 k⟩
theorem fed_rest {σ : Type} {next : σ → Bool → Tok × Int × σ} : ∀ {A : List Tok} {s s' : σ}, Feeds next A s s' → Fed next (A.map fun x => (x, false)) s s'
 | [], s, s', h => h
 | t :: A, s, s', h => ⟨h.1, h.2.1, fed_rest h.2.2⟩
section
variable {σ : Type} (next : σ → Bool → Tok × Int × σ)
theorem loop_fed : ∀ (f at_ : Nat) (b : List Int) (all : List Tok) (s : σ), (frLoop next f at_ b all s).1 = 0 → Bd b →
 ∃ c, (frLoop next f at_ b all s).2.2.1 = all ++ c ∧ Feeds next c s (frLoop next f at_ b all s).2.2.2 ∧ Bd (frLoop next f at_ b all s).2.1
 | 0, at_, b, all, s, h, hb => ⟨[], by simp [frLoop], by simp [frLoop, Feeds], hb⟩
 | f + 1, at_, b, all, s, h, hb => by
  rw [frLoop] at h ⊢
  by_cases h64 : 64 ≤ at_
  · rw [if_pos h64] at h ⊢
    exact ⟨[], by simp, rfl, hb⟩
  rw [if_neg h64] at h ⊢
  by_cases he : (next s false).2.1 ≠ 0
  · rw [if_pos he] at h; exact absurd h he
  rw [if_neg he] at h ⊢
  have he0 : (next s false).2.1 = 0 := by simpa using he
  by_cases hbad : badT (next s false).1 = true
  · rw [if_pos hbad] at h; cases h
  rw [if_neg hbad] at h ⊢
  by_cases h0 : (next s false).1.1 = 0
  · rw [if_pos h0] at h ⊢
    exact ⟨[(next s false).1], rfl, ⟨rfl, he0, rfl⟩, hb⟩
  rw [if_neg h0] at h ⊢
  by_cases h240 : (next s false).1.1 = 240
  · rw [if_pos h240] at h ⊢
    by_cases h16 : 64 < at_ + 16
    · rw [if_pos h16] at h; cases h
    rw [if_neg h16] at h ⊢
    obtain ⟨c, k1, k2, k3⟩ := loop_fed f _ b _ _ h hb
    exact ⟨(next s false).1 :: c, by rw [k1, List.append_assoc]; rfl, ⟨rfl, he0, k2⟩, k3⟩
  · rw [if_neg h240] at h ⊢
    by_cases hq : 64 ≤ at_ + (next s false).1.1.toNat / 16
    · rw [if_pos hq] at h; cases h
    rw [if_neg hq] at h ⊢
    obtain ⟨c, k1, k2, k3⟩ := loop_fed f _ _ _ _ h (hb.set _ _ (numT_in _ (by simpa using hbad)) (by omega))
    exact ⟨(next s false).1 :: c, by rw [k1, List.append_assoc]; rfl, ⟨rfl, he0, k2⟩, k3⟩
theorem frm_fed (before : Int) (s : σ) (h : (frm next before s).1 = 0) : ∃ z, Bd z ∧ (frm next before s).2.1 = zfrom z ∧ toksOf before z = (frm next before s).2.2.1 ∧ Fed next (mark (toksOf before z)) s (frm next before s).2.2.2 := by
 unfold frm at h ⊢
 by_cases h1 : (next s true).2.1 ≠ 0
 · rw [if_pos h1] at h; exact absurd h h1
 rw [if_neg h1] at h ⊢
 by_cases h2 : okFirst before (next s true).1 = false
 · rw [if_pos h2] at h; cases h
 rw [if_neg h2] at h ⊢
 have h2' : okFirst before (next s true).1 = true := by simpa using h2
 obtain ⟨q, hq⟩ : ∃ q, frLoop next 64 1 (first0 (before + numT (next s true).1)) [(next s true).1] (next s true).2.2 = q := ⟨_, rfl⟩
 rw [hq] at h ⊢
 by_cases h3 : q.1 ≠ 0
 · rw [if_pos h3] at h; exact absurd h h3
 rw [if_neg h3] at h ⊢
 by_cases h4 : toksOf before q.2.1 = q.2.2.1
 · obtain ⟨zf, hzf⟩ : ∃ y, zfrom q.2.1 = y := ⟨_, rfl⟩
   rw [if_pos h4, hzf]
   have hl := loop_fed next 64 1 (first0 (before + numT (next s true).1)) [(next s true).1] (next s true).2.2 (by rw [hq]; simpa using h3) (first0_bd _ (okFirst_bd h2'))
   rw [hq] at hl
   obtain ⟨c, k1, k2, k3⟩ := hl
   dsimp only
   refine ⟨q.2.1, k3, hzf.symm, h4, ?_⟩
   rw [h4, k1]
   exact ⟨rfl, by simpa using h1, fed_rest k2⟩
 · rw [if_neg h4] at h; cases h
theorem frm_len2 (before : Int) (s : σ) : (frm next before s).2.1.length = 64 := by
 have hz : (List.replicate 64 (0 : Int)).length = 64 := List.length_replicate
 have key : ∀ q : Int × List Int × List Tok × σ, ((if q.1 ≠ 0 then (q.1, List.replicate 64 0, [], q.2.2.2) else if toksOf before q.2.1 = q.2.2.1 then (0, zfrom q.2.1, q.2.2.1, q.2.2.2) else (4, List.replicate 64 0, [], q.2.2.2)) : Int × List Int × List Tok × σ).2.1.length = 64 := fun q => by
  by_cases h1 : q.1 ≠ 0
  · rw [if_pos h1]; exact hz
  · rw [if_neg h1]
    by_cases h2 : toksOf before q.2.1 = q.2.2.1
    · rw [if_pos h2]
      have h3 := zfrom_len q.2.1
      generalize zfrom q.2.1 = y at h3 ⊢
      exact h3
    · rw [if_neg h2]; exact hz
 unfold frm
 by_cases h1 : (next s true).2.1 ≠ 0
 · rw [if_pos h1]; exact hz
 · rw [if_neg h1]
   by_cases h2 : okFirst before (next s true).1 = false
   · rw [if_pos h2]; exact hz
   · rw [if_neg h2]; exact key _
def dcl : Nat → Int → σ → Int × List Int × σ
 | 0, _, s => (0, [], s)
 | f + 1, p, s => if (frm next p s).1 ≠ 0 then ((frm next p s).1, [], (frm next p s).2.2.2) else
  ((dcl f (nth (frm next p s).2.1 0) (frm next p s).2.2.2).1, (frm next p s).2.1 ++ (dcl f (nth (frm next p s).2.1 0) (frm next p s).2.2.2).2.1, (dcl f (nth (frm next p s).2.1 0) (frm next p s).2.2.2).2.2)
theorem frm_bd (before : Int) (s : σ) (h : (frm next before s).1 = 0) : Bd (frm next before s).2.1 := by
 obtain ⟨z, h1, h2, _⟩ := frm_fed next before s h
 rw [h2]
 exact ⟨zfrom_len z, fun i hi => zfrom_bd z h1.2 i hi⟩
theorem dcl_len : ∀ (f : Nat) (p : Int) (s : σ), (dcl next f p s).1 = 0 → (dcl next f p s).2.1.length = f * 64
 | 0, p, s, _ => by simp [dcl]
 | f + 1, p, s, h => by
  rw [dcl] at h ⊢
  by_cases h1 : (frm next p s).1 ≠ 0
  · rw [if_pos h1] at h; exact absurd h h1
  · rw [if_neg h1] at h ⊢
    dsimp only at h ⊢
    rw [List.length_append, frm_len2, dcl_len f _ _ h]; omega
end

end Go.Proofs.YtehbjhocgnfpmaaDoor