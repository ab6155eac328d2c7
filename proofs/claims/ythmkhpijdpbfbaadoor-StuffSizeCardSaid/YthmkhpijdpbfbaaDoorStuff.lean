/- stuff.Stuff: what it computes, and its walk. -/
import Derived.Test.YthmkhpijdpbfbaaDoorReplace
namespace Go.Proofs.YthmkhpijdpbfbaaDoor
set_option maxRecDepth 100000
open Go.RowKit
set_option linter.unusedVariables false
/-- The pieces that stand ahead of each b, and what stands behind the last. -/
def sp1 (b : Int) : List Int → List (List Int) × List Int
  | [] => ([], [])
  | x :: l => if x = b then ([] :: (sp1 b l).1, (sp1 b l).2) else
    match (sp1 b l).1 with
    | [] => ([], x :: (sp1 b l).2)
    | p :: ps => ((x :: p) :: ps, (sp1 b l).2)
/-- Each b turned to other bytes. -/
def rep1 (b : Int) (new l : List Int) : List Int := l.flatMap fun x => if x = b then new else [x]
theorem pre_all (sep : List Int) (ps : List (List Int)) : pre sep ps ps.length = ps.flatMap (· ++ sep) := by simp [pre]
theorem sp1_spec (b : Int) (new : List Int) : ∀ l, (sp1 b l).1.flatMap (· ++ [b]) ++ (sp1 b l).2 = l ∧ (sp1 b l).1.flatMap (· ++ new) ++ (sp1 b l).2 = rep1 b new l ∧ (sp1 b l).1.length = l.count b ∧ (∀ p ∈ (sp1 b l).1, b ∉ p)
  | [] => by simp [sp1, rep1]
  | x :: l => by
    obtain ⟨h1, h2, h3, h4⟩ := sp1_spec b new l
    by_cases hx : x = b
    · subst hx
      refine ⟨?_, ?_, ?_, ?_⟩
      · simp only [sp1, if_true, List.flatMap_cons, List.nil_append, List.cons_append, h1]
      · simp only [sp1, if_true, List.flatMap_cons, List.nil_append, List.append_assoc, h2]; simp [rep1]
      · simp [sp1, h3]
      · intro p hp
        simp only [sp1, if_true, List.mem_cons] at hp
        rcases hp with rfl | hp
        · simp
        · exact h4 p hp
    · cases hs : (sp1 b l).1 with
      | nil =>
        rw [hs] at h1 h2 h3
        simp only [List.flatMap_nil, List.nil_append] at h1 h2
        refine ⟨?_, ?_, ?_, ?_⟩
        · simp [sp1, if_neg hx, hs, h1]
        · simp only [sp1, if_neg hx, hs, List.flatMap_nil, List.nil_append, h2]; simp [rep1, hx]
        · simp only [sp1, if_neg hx, hs, List.length_nil]; rw [List.count_cons_of_ne (by simpa using hx)]; simpa using h3
        · simp [sp1, if_neg hx, hs]
      | cons p ps =>
        rw [hs] at h1 h2 h3 h4
        refine ⟨?_, ?_, ?_, ?_⟩
        · simp only [sp1, if_neg hx, hs, List.flatMap_cons, List.cons_append] at h1 ⊢; rw [h1]
        · simp only [sp1, if_neg hx, hs, List.flatMap_cons, List.cons_append] at h2 ⊢; rw [h2]; simp [rep1, hx]
        · simp only [sp1, if_neg hx, hs, List.length_cons] at h3 ⊢; rw [List.count_cons_of_ne (by simpa using hx)]; exact h3
        · intro q hq
          simp only [sp1, if_neg hx, hs, List.mem_cons] at hq
          rcases hq with rfl | hq
          · have := h4 p (by simp); simp only [List.mem_cons, not_or]; exact ⟨fun e => hx e.symm, this⟩
          · exact h4 q (by simp [hq])
theorem u8_eq {x b : Int} (hx : 0 ≤ x ∧ x < 256) (hb : 0 ≤ b ∧ b < 256) : (UInt8.ofNat x.toNat == UInt8.ofNat b.toNat) = decide (x = b) := by
  by_cases h : x = b
  · subst h; simp
  · rw [decide_eq_false h, beq_eq_false_iff_ne]
    intro e
    have := congrArg UInt8.toNat e
    simp only [UInt8.toNat_ofNat'] at this
    omega
theorem count_bytes {b : Int} (hb : 0 ≤ b ∧ b < 256) : ∀ (l : List Int), (∀ x ∈ l, 0 ≤ x ∧ x < 256) → Lib.countByte (Lib.bytesOf l) (UInt8.ofNat b.toNat) = l.count b
  | [], _ => rfl
  | x :: l, h => by
    have ih := count_bytes hb l fun y hy => h y (by simp [hy])
    have hx := u8_eq (h x (by simp)) hb
    simp only [Lib.countByte, Lib.bytesOf, List.map_cons, List.count_cons] at ih ⊢
    rw [ih, hx]
    by_cases e : x = b <;> simp [e]
theorem index_bytes {b : Int} (hb : 0 ≤ b ∧ b < 256) : ∀ (p T : List Int), (∀ x ∈ p, 0 ≤ x ∧ x < 256) → b ∉ p → Lib.indexByte (Lib.bytesOf (p ++ b :: T)) (UInt8.ofNat b.toNat) = (p.length : Nat)
  | [], T, _, _ => by simp [Lib.bytesOf, Lib.indexByte]
  | x :: p, T, h, hn => by
    have ih := index_bytes hb p T (fun y hy => h y (by simp [hy])) (fun e => hn (by simp [e]))
    have hx := u8_eq (h x (by simp)) hb
    have hxb : x ≠ b := fun e => hn (by simp [e])
    rw [decide_eq_false hxb] at hx
    simp only [List.cons_append, Lib.bytesOf, List.map_cons, Lib.indexByte] at ih ⊢
    rw [hx, ih]
    simp only [Bool.false_eq_true, if_false, List.length_cons]
    rw [if_neg]
    · push_cast; omega
    · simp only [beq_iff_eq]; omega
theorem cell_at {w : World} {a : Addr} {n c : Nat} {xs : List Int} (hv : Sl w 1 (.slice (some a) n c) n (xs.map (Value.int .u8))) : ∀ i, i < n → w.cell? (a.add i) = some (.int .u8 (xs.getD i 0)) := fun i hi => by
  obtain ⟨hl, a1, c1, e1, hnc, hcm, hor⟩ := hv
  cases e1
  have hln : xs.length = n := by simpa using hl
  rcases hor with h0 | ⟨b, off, h, hc⟩
  · omega
  · cases h
    rw [Addr.add_mid, hc i (by omega)]
    simp [List.getD, hln, hi]
theorem one_cell {w : World} {po : Option Addr} {co : Nat} {b : Int} (hv : Sl w 1 (.slice po 1 co) 1 ([b].map (Value.int .u8))) : ∃ b2 o2, po = some ⟨b2, o2, none⟩ ∧ w.cell? ⟨b2, o2, none⟩ = some (.int .u8 b) := by
  obtain ⟨hl, a1, c1, e1, hnc, hcm, hor⟩ := hv
  cases e1
  rcases hor with h0 | ⟨b2, off, h, hc⟩
  · omega
  · exact ⟨b2, off, h, by have := hc 0 (by decide); simpa using this⟩
theorem u8_of {b : Int} : b.toNat.toUInt8 = UInt8.ofNat b.toNat := rfl
theorem count1_any (w : World) (a po : Option Addr) (n c co : Nat) (xs : List Int) (b : Int) (hs : Sl w 1 (.slice a n c) n (xs.map (Value.int .u8))) (hnil : a = none → c = 0) (ho : Sl w 1 (.slice po 1 co) 1 ([b].map (Value.int .u8))) (hb : 0 ≤ b ∧ b < 256) (hx : ∀ x ∈ xs, 0 ≤ x ∧ x < 256) :
    Calls Tryd.prog 11 #[.slice a n c, .slice po 1 co] w fun e w' => e = .returned (.int .i64 (xs.count b : Nat)) ∧ Ext w w' := by
  obtain ⟨b2, o2, rfl, hc2⟩ := one_cell ho
  have hln : xs.length = n := by have := hs.1; simpa using this
  cases a with
  | none =>
    have hc0 := hnil rfl
    subst hc0
    have hn0 : n = 0 := by obtain ⟨_, _, _, h1, h2, _⟩ := hs; cases h1; omega
    subst hn0
    have hxs : xs = [] := List.eq_nil_of_length_eq_zero hln
    subst hxs
    exact (Tryd.bytes_Count_one_nil b2 o2 co b w hc2).mono fun e w' ⟨h1, h2⟩ => ⟨h1, h2 ▸ Ext.refl _⟩
  | some a =>
    exact (Tryd.bytes_Count_one_at a n c b2 o2 co xs b w hln (cell_at hs) hc2).mono fun e w' ⟨h1, h2⟩ => ⟨by rw [h1, u8_of, count_bytes hb xs hx], h2 ▸ Ext.refl _⟩
theorem index1_any (w : World) (a po : Option Addr) (n c co : Nat) (p T : List Int) (b : Int) (hs : Sl w 1 (.slice a n c) n ((p ++ b :: T).map (Value.int .u8))) (ho : Sl w 1 (.slice po 1 co) 1 ([b].map (Value.int .u8))) (hb : 0 ≤ b ∧ b < 256) (hx : ∀ x ∈ p, 0 ≤ x ∧ x < 256) (hp : b ∉ p) :
    Calls Tryd.prog 12 #[.slice a n c, .slice po 1 co] w fun e w' => e = .returned (.int .i64 (p.length : Nat)) ∧ Ext w w' := by
  obtain ⟨b2, o2, rfl, hc2⟩ := one_cell ho
  have hln : (p ++ b :: T).length = n := by have := hs.1; simpa using this
  cases a with
  | none =>
    obtain ⟨_, _, _, h1, h2, h3, h4⟩ := hs
    cases h1
    rcases h4 with h4 | ⟨_, _, h4, _⟩
    · rw [List.length_append, List.length_cons] at hln; omega
    · cases h4
  | some a =>
    exact (Tryd.bytes_Index_one_at a n c b2 o2 co (p ++ b :: T) b w hln (cell_at hs) hc2).mono fun e w' ⟨h1, h2⟩ => ⟨by rw [h1, u8_of, index_bytes hb p T hx hp], h2 ▸ Ext.refl _⟩
/-- bytes.ReplaceAll of one byte. -/
theorem replaceAll_any (w0 : World) (a po pn : Option Addr) (n c co ln cn : Nat) (xs new : List Int) (b : Int) (hs : Sl w0 1 (.slice a n c) n (xs.map (Value.int .u8))) (hnil : a = none → c = 0) (ho : Sl w0 1 (.slice po 1 co) 1 ([b].map (Value.int .u8))) (hw : Sl w0 1 (.slice pn ln cn) ln (new.map (Value.int .u8)))
    (hb : 0 ≤ b ∧ b < 256) (hx : ∀ x ∈ xs, 0 ≤ x ∧ x < 256) (hb1 : n ≤ 140737488351232) (hb3 : ln ≤ 2) :
    Calls Tryd.prog 9 #[.slice a n c, .slice po 1 co, .slice pn ln cn] w0 fun e w => ∃ (ao : Option Addr) (c' : Nat), e = .returned (.slice ao (rep1 b new xs).length c') ∧ St w0 w [own 5 1 ao (rep1 b new xs).length c' ((rep1 b new xs).map (Value.int .u8))] := by
  obtain ⟨h1, h2, h3, h4⟩ := sp1_spec b new xs
  obtain ⟨ps, hps⟩ : ∃ ps, (sp1 b xs).1 = ps := ⟨_, rfl⟩
  obtain ⟨last, hlast⟩ : ∃ l, (sp1 b xs).2 = l := ⟨_, rfl⟩
  rw [hps, hlast] at h1 h2
  rw [hps] at h3 h4
  rw [← pre_all] at h1 h2
  have hmem : ∀ k (h : k < ps.length), ∃ T, xs.drop (pre [b] ps k).length = ps[k] ++ b :: T := fun k h => by
    obtain ⟨T, hT⟩ := pre_split [b] ps k ps.length rfl h
    refine ⟨T ++ last, ?_⟩
    rw [← h1, hT, List.append_assoc, List.drop_left' rfl]
    simp
  have HC : Veil3 (∀ w, Ext w0 w → Calls Tryd.prog 11 #[.slice a n c, .slice po 1 co] w fun e w' => e = .returned (.int .i64 (ps.length : Nat)) ∧ Ext w w') := ⟨fun w hE => h3 ▸ count1_any w a po n c co xs b (hs.ext hE) hnil (ho.ext hE) hb hx⟩
  have HI : Veil3 (∀ k (h : k < ps.length) w, Ext w0 w → Calls Tryd.prog 12 #[.slice (cutAt a c (pre [b] ps k).length 1) (n - (pre [b] ps k).length) (c - (pre [b] ps k).length), .slice po 1 co] w fun e w' => e = .returned (.int .i64 (ps[k].length : Nat)) ∧ Ext w w') := ⟨fun k h w hE => by
    obtain ⟨T, hT⟩ := hmem k h
    have hln : xs.length = n := by have := hs.1; simpa using this
    have hle : (pre [b] ps k).length ≤ n := by
      have := pre_le [b] ps k ps.length (by omega)
      have h5 := congrArg List.length h1
      rw [List.length_append] at h5
      omega
    have hsl := (hs.ext hE).cutAt (pre [b] ps k).length n hle (Nat.le_refl _)
    have h6 : ((xs.map (Value.int .u8)).drop ((pre [b] ps k).length * 1)).take ((n - (pre [b] ps k).length) * 1) = (ps[k] ++ b :: T).map (Value.int .u8) := by
      rw [Nat.mul_one, Nat.mul_one, ← List.map_drop, ← List.map_take, List.take_of_length_le (by rw [List.length_drop]; omega), hT]
    rw [h6] at hsl
    refine index1_any w _ po _ _ co ps[k] T b hsl (ho.ext hE) hb (fun x hxm => hx x ?_) (h4 _ (List.getElem_mem h))
    have : x ∈ xs.drop (pre [b] ps k).length := by rw [hT]; simp [hxm]
    exact List.mem_of_mem_drop this⟩
  have HR := replace_any w0 a po pn n c 1 co ln cn ps.length ps last [b] new rfl (h1.symm ▸ hs) ho hw (by decide) hb1 (by decide) hb3 HC HI
  rw [h2] at HR
  have HRv : Veil3 _ := ⟨HR⟩
  have hS := St.start w0
  clear HC HI HR hmem h1 h2 h3 h4 hps hlast
  obtain ⟨R, hR⟩ : ∃ R, rep1 b new xs = R := ⟨_, rfl⟩
  rw [hR] at HRv ⊢
  clear hR
  go_enter Tryd.func9, Tryd.ntmps9
  repeat' (first
    | ((with_reducible show wpList _ _ _ (⟨_, .call ⟨.value (.func 10), _, _⟩, _, _, _, _⟩ :: _) _ _); refine wpl_call (f := 10) Tryd.call10 (by kernel_rfl) ?_; refine ⟨_, (HRv.out), ?_⟩; rintro e w ⟨ao, c', rfl, hS2⟩; replace hS := hS2; clear hS2; refine ⟨_, rfl, ?_⟩; refine put_move ?_; go_step)
    | go_skip
    | go_big_skip
    | ((with_reducible show wpList _ _ _ (⟨_, .move _, _, _, _, _⟩ :: _) _ _); (first | go_big_want | go_step); go_step)
    | ((with_reducible show wpList _ _ _ (⟨_, .assign _, _, _, _, _⟩ :: _) _ _); (first | go_big_want | go_step); go_step)
    | ((with_reducible show wpList _ _ _ (⟨_, .pick _ _ _, _, _, _, _⟩ :: _) _ _); first | (refine wplPickT rfl (by kernel_rfl) ?_; go_step) | (refine wplPickF rfl (by kernel_rfl) ?_; go_step))
    | ((fail_if_success (with_reducible show wpList _ _ _ (_ :: _) _ _)); go_step))
  go_ret
  exact ⟨ao, c', rfl, hS⟩
/-- Stuffing: a nought behind each 255. -/
def stf (l : List Int) : List Int := rep1 255 [255, 0] l
theorem stf_len (l : List Int) : (stf l).length = l.length + l.count 255 := by
  induction l with
  | nil => rfl
  | cons x l ih =>
    have e : stf (x :: l) = (if x = 255 then [255, 0] else [x]) ++ stf l := by simp [stf, rep1]
    rw [e, List.length_append, ih, List.length_cons, List.count_cons]
    by_cases h : x = 255
    · subst h; simp; omega
    · simp [h]; omega
theorem stuff_any (w0 : World) (a : Option Addr) (n c : Nat) (xs : List Int) (hs : Sl w0 1 (.slice a n c) n (xs.map (Value.int .u8))) (hnil : a = none → c = 0) (hx : ∀ x ∈ xs, 0 ≤ x ∧ x < 256) (hb1 : n ≤ 140737488351232) :
    Calls Tryd.prog 5 #[.slice a n c] w0 fun e w => ∃ (ao : Option Addr) (c' : Nat), e = .returned (.slice ao (stf xs).length c') ∧ St w0 w [own 5 1 ao (stf xs).length c' ((stf xs).map (Value.int .u8))] := by
  have hS := St.start w0
  have HX : Veil3 _ := ⟨hx⟩
  clear hx
  go_enter Tryd.func5, Tryd.ntmps5
  repeat' (first
    | ((with_reducible show wpList _ _ _ (⟨_, .call ⟨.value (.func 9), _, _⟩, _, _, _, _⟩ :: _) _ _); refine wpl_call (f := 9) Tryd.call9 (by kernel_rfl) ?_; refine ⟨_, (replaceAll_any _ a (some ⟨g4, 0, none⟩) (some ⟨g5, 0, none⟩) n c 1 2 2 xs [255, 0] 255 (hs.ext hS.1) hnil (hS.slBlk (n := 1) (cs := [.int .u8 255]) (by (repeat (first | with_reducible exact Pull.head | apply Pull.tail))) (by rfl) (by decide)) (hS.slBlk (n := 2) (cs := [.int .u8 255, .int .u8 0]) (by (repeat (first | with_reducible exact Pull.head | apply Pull.tail))) (by rfl) (by decide)) (by decide) HX.out hb1 (by decide)), ?_⟩; rintro e w ⟨ao, c', rfl, hS2⟩; replace hS := hS.call1 hS2; clear hS2; refine ⟨_, rfl, ?_⟩; refine put_move ?_; go_step)
    | go_skip
    | go_big_skip
    | ((with_reducible show wpList _ _ _ (⟨_, .move _, _, _, _, _⟩ :: _) _ _); (first | go_big_want | go_step); go_step)
    | ((with_reducible show wpList _ _ _ (⟨_, .assign _, _, _, _, _⟩ :: _) _ _); (first | go_big_want | go_step); go_step)
    | ((with_reducible show wpList _ _ _ (⟨_, .pick _ _ _, _, _, _, _⟩ :: _) _ _); first | (refine wplPickT rfl (by kernel_rfl) ?_; go_step) | (refine wplPickF rfl (by kernel_rfl) ?_; go_step))
    | ((with_reducible show wpList _ _ _ (⟨some 4, .buildSlice 22 _ _, _, _, _, _⟩ :: _) _ _); first | (refine wpl (by kernel_rfl) ?_; apply wp_buildSlice1 (o := ⟨some 4, _, _, _, _, _⟩) hS 22 1 _ rfl 5 1 1 el22 _ _; (case hvs => (repeat (first | exact Parts.nil | (apply Parts.agg; (rfl); (rfl)) | (apply Parts.one; (first | exact IsV.int rfl | exact IsV.bool rfl | exact IsV.slice rfl | exact IsV.pointer rfl | exact IsV.string rfl | exact IsV.map rfl | exact IsV.func rfl); (rfl); (rfl))))); (case hn => rfl); (case hn0 => decide); (case hns => decide); clear hS; intro g4 w hS; refine put_move ?_; go_step))
    | ((with_reducible show wpList _ _ _ (⟨some 5, .buildSlice 22 _ _, _, _, _, _⟩ :: _) _ _); first | (refine wpl (by kernel_rfl) ?_; apply wp_buildSlice1 (o := ⟨some 5, _, _, _, _, _⟩) hS 22 2 _ rfl 5 1 1 el22 _ _; (case hvs => (repeat (first | exact Parts.nil | (apply Parts.agg; (rfl); (rfl)) | (apply Parts.one; (first | exact IsV.int rfl | exact IsV.bool rfl | exact IsV.slice rfl | exact IsV.pointer rfl | exact IsV.string rfl | exact IsV.map rfl | exact IsV.func rfl); (rfl); (rfl))))); (case hn => rfl); (case hn0 => decide); (case hns => decide); clear hS; intro g5 w hS; refine put_move ?_; go_step))
    | ((fail_if_success (with_reducible show wpList _ _ _ (_ :: _) _ _)); go_step))
  go_ret
  refine ⟨ao, c', rfl, ?_⟩
  unfold stf
  exact hS.sub (by (repeat (first | exact Sub.nil | with_reducible exact Sub.refl | (apply Sub.cons; (case p => (repeat (first | with_reducible exact Pull.head | apply Pull.tail)))) | apply Sub.skip)))
end Go.Proofs.YthmkhpijdpbfbaaDoor
