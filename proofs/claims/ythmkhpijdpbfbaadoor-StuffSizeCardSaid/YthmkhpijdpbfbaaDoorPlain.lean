/- stuff.Plain: what it computes, and its walk. -/
import Derived.Test.YthmkhpijdpbfbaaDoorStuff
import Derived.Test.YthmkhpijdpbfbaaDoorSplit
namespace Go.Proofs.YthmkhpijdpbfbaaDoor
open Go.RowKit
set_option linter.unusedVariables false
theorem stf_nil : stf [] = [] := rfl
theorem stf_cons (x : Int) (l : List Int) : stf (x :: l) = (if x = 255 then [255, 0] else [x]) ++ stf l := by simp [stf, rep1]
theorem stf_app (a b : List Int) : stf (a ++ b) = stf a ++ stf b := by simp [stf, rep1]
theorem stf_inj : ∀ (a b : List Int), stf a = stf b → a = b
  | [], [], _ => rfl
  | [], y :: b, h => by rw [stf_nil, stf_cons] at h; split at h <;> simp at h
  | x :: a, [], h => by rw [stf_nil, stf_cons] at h; split at h <;> simp at h
  | x :: a, y :: b, h => by
    rw [stf_cons, stf_cons] at h
    by_cases hx : x = 255
    · by_cases hy : y = 255
      · rw [if_pos hx, if_pos hy] at h
        simp only [List.cons_append, List.nil_append, List.cons.injEq, true_and] at h
        rw [hx, hy, stf_inj a b h]
      · rw [if_pos hx, if_neg hy] at h
        simp only [List.cons_append, List.nil_append, List.cons.injEq] at h
        exact absurd h.1.symm hy
    · by_cases hy : y = 255
      · rw [if_neg hx, if_pos hy] at h
        simp only [List.cons_append, List.nil_append, List.cons.injEq] at h
        exact absurd h.1 hx
      · rw [if_neg hx, if_neg hy] at h
        simp only [List.cons_append, List.nil_append, List.cons.injEq] at h
        rw [h.1, stf_inj a b h.2]
theorem spf_stf : ∀ (c : List Int) (o : List (List Int)) (m p : List Int), spf (stf c) o m p = some (o ++ [p ++ stf c], m)
  | [], o, m, p => by rw [stf_nil, spf, List.append_nil]
  | x :: c, o, m, p => by
    rw [stf_cons]
    by_cases h : x = 255
    · subst h
      rw [if_pos rfl, spf.eq_def]
      simp only [List.cons_append, List.nil_append, if_true]
      rw [if_neg (by decide), spf_stf c]
      simp
    · rw [if_neg h, spf.eq_def]
      simp only [List.cons_append, List.nil_append]
      rw [if_neg h, spf_stf c]
      simp
/-- What splitting tells: the bytes are the pieces and marks; each piece is stuffed; no mark is 0 or 255. -/
theorem spf_spec : ∀ (k : Nat) (b : List Int) (o : List (List Int)) (m p : List Int) (ps : List (List Int)) (ms : List Int), b.length ≤ k → spf b o m p = some (ps, ms) →
    ∃ (q : List Int) (r : List (Int × List Int)), ps = o ++ ((p ++ q) :: r.map (·.2)) ∧ ms = m ++ r.map (·.1) ∧ b = q ++ r.flatMap (fun y => 255 :: y.1 :: y.2) ∧ (∃ c, q = stf c) ∧ ∀ y ∈ r, y.1 ≠ 0 ∧ y.1 ≠ 255 ∧ ∃ c, y.2 = stf c
  | k, [], o, m, p, ps, ms, hk, h => by
    rw [spf] at h
    cases h
    exact ⟨[], [], by simp, by simp, by simp, ⟨[], rfl⟩, fun y hy => by cases hy⟩
  | 0, x :: b, o, m, p, ps, ms, hk, h => by simp at hk
  | k + 1, x :: b, o, m, p, ps, ms, hk, h => by
    rw [spf.eq_def] at h
    dsimp only at h
    by_cases hx : x = 255
    · rw [if_pos hx] at h
      cases b with
      | nil => cases h
      | cons y b =>
        dsimp only at h
        by_cases h1 : y = 255
        · rw [if_pos h1] at h; cases h
        · rw [if_neg h1] at h
          by_cases h2 : y = 0
          · rw [if_pos h2] at h
            obtain ⟨q, r, e1, e2, e3, ⟨c, e4⟩, e5⟩ := spf_spec k b _ _ _ _ _ (by simp at hk; omega) h
            refine ⟨255 :: 0 :: q, r, by rw [e1]; simp, e2, by rw [hx, h2, e3]; simp, ⟨255 :: c, by rw [stf_cons, if_pos rfl, e4]; rfl⟩, e5⟩
          · rw [if_neg h2] at h
            obtain ⟨q, r, e1, e2, e3, e4, e5⟩ := spf_spec k b _ _ _ _ _ (by simp at hk; omega) h
            refine ⟨[], (y, q) :: r, by rw [e1]; simp, by rw [e2]; simp, by rw [hx, e3]; simp, ⟨[], rfl⟩, fun z hz => ?_⟩
            rcases List.mem_cons.1 hz with rfl | hz
            · exact ⟨h2, h1, e4⟩
            · exact e5 z hz
    · rw [if_neg hx] at h
      obtain ⟨q, r, e1, e2, e3, ⟨c, e4⟩, e5⟩ := spf_spec k b _ _ _ _ _ (by simp at hk; omega) h
      exact ⟨x :: q, r, by rw [e1]; simp, e2, by rw [e3]; simp, ⟨x :: c, by rw [stf_cons, if_neg hx, e4]; rfl⟩, e5⟩
theorem spf_plain {b : List Int} {ps : List (List Int)} (h : spf b [] [] [] = some (ps, [])) : ∃ c, b = stf c := by
  obtain ⟨q, r, e1, e2, e3, ⟨c, e4⟩, e5⟩ := spf_spec b.length b _ _ _ _ _ (Nat.le_refl _) h
  have hr : r = [] := by
    have := congrArg List.length e2
    simp at this
    exact List.eq_nil_of_length_eq_zero (by omega)
  subst hr
  exact ⟨c, by rw [e3, e4]; simp⟩
theorem byte_ne {x : Int} (hx : 0 ≤ x ∧ x < 256) (h : x ≠ 255) : ((255 : UInt8) == UInt8.ofNat x.toNat) = false := by
  rw [beq_eq_false_iff_ne]
  intro e
  have := congrArg UInt8.toNat e
  simp at this
  omega
theorem idx2 : ∀ (p T : List Int), (∀ x ∈ p, 0 ≤ x ∧ x < 256) → (255 : Int) ∉ p → Lib.index (Lib.bytesOf (p ++ 255 :: 0 :: T)) (Lib.bytesOf [255, 0]) = (p.length : Nat)
  | [], T, _, _ => by
    simp only [List.nil_append, Lib.bytesOf, List.map_cons, List.map_nil]
    unfold Lib.index
    rw [if_pos (by simp [List.isPrefixOf])]
    rfl
  | x :: p, T, h, hn => by
    have ih := idx2 p T (fun y hy => h y (by simp [hy])) (fun e => hn (by simp [e]))
    have hx : x ≠ 255 := fun e => hn (by simp [e])
    have hb := byte_ne (h x (by simp)) hx
    simp only [List.cons_append, Lib.bytesOf, List.map_cons, List.map_nil] at ih ⊢
    unfold Lib.index
    rw [if_neg, ih, if_neg]
    · simp
    · simp
    · simp only [List.isPrefixOf]
      have : (UInt8.ofNat (Int.toNat 255) == UInt8.ofNat x.toNat) = false := hb
      rw [this]; simp
theorem idx2_no : ∀ (p : List Int), (∀ x ∈ p, 0 ≤ x ∧ x < 256) → (255 : Int) ∉ p → Lib.index (Lib.bytesOf p) (Lib.bytesOf [255, 0]) = -1
  | [], _, _ => rfl
  | x :: p, h, hn => by
    have ih := idx2_no p (fun y hy => h y (by simp [hy])) (fun e => hn (by simp [e]))
    have hx : x ≠ 255 := fun e => hn (by simp [e])
    have hb := byte_ne (h x (by simp)) hx
    simp only [Lib.bytesOf, List.map_cons, List.map_nil] at ih ⊢
    unfold Lib.index
    rw [if_neg, ih]
    · rfl
    · simp only [List.isPrefixOf]
      have : (UInt8.ofNat (Int.toNat 255) == UInt8.ofNat x.toNat) = false := hb
      rw [this]; simp
theorem cnt2 : ∀ (ps : List (List Int)) (last : List Int) (f : Nat), (∀ p ∈ ps, (∀ x ∈ p, 0 ≤ x ∧ x < 256) ∧ (255 : Int) ∉ p) → (∀ x ∈ last, 0 ≤ x ∧ x < 256) → (255 : Int) ∉ last → ps.length < f →
    Lib.countFrom (Lib.bytesOf [255, 0]) f (Lib.bytesOf (ps.flatMap (· ++ [255, 0]) ++ last)) = ps.length
  | _, _, 0, _, _, _, hf => by omega
  | [], last, f + 1, _, h1, h2, _ => by
    simp only [List.flatMap_nil, List.nil_append]
    rw [Lib.countFrom, idx2_no last h1 h2]; rfl
  | p :: ps, last, f + 1, h, h1, h2, hf => by
    obtain ⟨k1, k2⟩ := h p (by simp)
    have e : (p :: ps).flatMap (· ++ [255, 0]) ++ last = p ++ 255 :: 0 :: (ps.flatMap (· ++ [255, 0]) ++ last) := by simp
    have e2 : (Lib.bytesOf (p ++ 255 :: 0 :: (ps.flatMap (· ++ [255, 0]) ++ last))).drop (((p.length : Nat) : Int).toNat + (Lib.bytesOf [255, 0]).length) = Lib.bytesOf (ps.flatMap (· ++ [255, 0]) ++ last) := by
      have e0 : p.length + 2 = (Lib.bytesOf (p ++ [255, 0])).length := by simp [Lib.bytesOf]
      have e3 : p ++ 255 :: 0 :: (ps.flatMap (· ++ [255, 0]) ++ last) = (p ++ [255, 0]) ++ (ps.flatMap (· ++ [255, 0]) ++ last) := by simp
      have e4 : ∀ a b : List Int, Lib.bytesOf (a ++ b) = Lib.bytesOf a ++ Lib.bytesOf b := fun a b => by simp [Lib.bytesOf]
      rw [Int.toNat_natCast, show (Lib.bytesOf [255, 0]).length = 2 from rfl, e0, e3, e4 (p ++ [255, 0]), List.drop_left' rfl]
    rw [e, Lib.countFrom, idx2 p _ k1 k2, e2, if_neg (by simp), cnt2 ps last f (fun q hq => h q (by simp [hq])) h1 h2 (by simp at hf; omega), List.length_cons]
    omega
theorem sp1_rng (b : Int) : ∀ (l : List Int), (∀ x ∈ l, 0 ≤ x ∧ x < 256) → (∀ p ∈ (sp1 b l).1, ∀ x ∈ p, 0 ≤ x ∧ x < 256) ∧ (∀ x ∈ (sp1 b l).2, 0 ≤ x ∧ x < 256) ∧ b ∉ (sp1 b l).2 := by
  intro l h
  obtain ⟨h1, _, h3, h4⟩ := sp1_spec b [] l
  have hm : ∀ p ∈ (sp1 b l).1, ∀ x ∈ p, x ∈ l := fun p hp x hx => by
    rw [← h1]; exact List.mem_append_left _ (List.mem_flatMap.2 ⟨p, hp, List.mem_append_left _ hx⟩)
  refine ⟨fun p hp x hx => h x (hm p hp x hx), fun x hx => h x (by rw [← h1]; exact List.mem_append_right _ hx), fun hb => ?_⟩
  have hc := congrArg (List.count b) h1
  rw [List.count_append] at hc
  have e : ∀ ps : List (List Int), (∀ p ∈ ps, b ∉ p) → (ps.flatMap (· ++ [b])).count b = ps.length := by
    intro ps
    induction ps with
    | nil => intro _; rfl
    | cons p ps ih =>
      intro hp
      rw [List.flatMap_cons, List.count_append, List.count_append, ih fun q hq => hp q (by simp [hq]), List.count_eq_zero.2 (hp p (by simp)), List.length_cons]
      simp; omega
  rw [e _ h4, h3] at hc
  have := List.count_pos_iff.2 hb
  omega
theorem ext_drewN {w w' : World} (h : ∃ q, w' = w.drewN q) : Ext w w' := by obtain ⟨q, rfl⟩ := h; exact (Ext.refl w).drewN
theorem cells_at {w : World} {a : Addr} {n c k : Nat} {xs : List Int} (hv : Sl w 1 (.slice (some a) n c) n (xs.map (Value.int .u8))) : n ≤ c ∧ c ≤ 9223372036854775807 := by
  obtain ⟨_, _, _, e, h1, h2, _⟩ := hv
  cases e
  unfold maxLen at h2
  exact ⟨h1, h2⟩
set_option maxRecDepth 100000 in
set_option maxHeartbeats 4000000 in
/-- bytes.ReplaceAll that turns a stuffed row back. -/
theorem unstuff_any (w0 : World) (a : Option Addr) (g1 g2 : Nat) (n c : Nat) (xs cc : List Int) (hs : Sl w0 1 (.slice a n c) n (xs.map (Value.int .u8))) (hnil : a = none → c = 0) (he : xs = stf cc)
    (ho : Sl w0 1 (.slice (some ⟨g1, 0, none⟩) 2 2) 2 (([255, 0] : List Int).map (Value.int .u8))) (hw : Sl w0 1 (.slice (some ⟨g2, 0, none⟩) 1 1) 1 (([255] : List Int).map (Value.int .u8)))
    (hx : ∀ x ∈ xs, 0 ≤ x ∧ x < 256) (hb1 : n ≤ 1000000000) (hml : ∃ m, w0.cell? ⟨0, 0, none⟩ = some (.int .i64 m)) :
    Calls Tryd.prog 9 #[.slice a n c, .slice (some ⟨g1, 0, none⟩) 2 2, .slice (some ⟨g2, 0, none⟩) 1 1] w0 fun e w => ∃ (ao : Option Addr) (c' : Nat), e = .returned (.slice ao cc.length c') ∧ St w0 w [own 5 1 ao cc.length c' (cc.map (Value.int .u8))] := by
  obtain ⟨ml, hml⟩ := hml
  have hxc : ∀ x ∈ cc, 0 ≤ x ∧ x < 256 := fun x hxm => by
    by_cases h : x = 255
    · omega
    · refine hx x ?_
      rw [he, stf, rep1, List.mem_flatMap]
      exact ⟨x, hxm, by rw [if_neg h]; simp⟩
  obtain ⟨h1, h2, h3, h4⟩ := sp1_spec 255 [255, 0] cc
  obtain ⟨r1, r2, r3⟩ := sp1_rng 255 cc hxc
  obtain ⟨ps, hps⟩ : ∃ ps, (sp1 255 cc).1 = ps := ⟨_, rfl⟩
  obtain ⟨last, hlast⟩ : ∃ l, (sp1 255 cc).2 = l := ⟨_, rfl⟩
  rw [hps, hlast] at h1 h2
  rw [hps] at h3 h4 r1
  rw [hlast] at r2 r3
  have h2' : ps.flatMap (· ++ [255, 0]) ++ last = xs := by rw [he]; exact h2
  have h5 := h2'
  rw [← pre_all] at h1 h2'
  have hln : xs.length = n := by have := hs.1; simpa using this
  have hadd : ∀ (g i : Nat), ((⟨g, 0, none⟩ : Addr).add i) = ⟨g, 0 + i, none⟩ := fun g i => Addr.add_mid ..
  have hmem : ∀ k (h : k < ps.length), ∃ T, xs.drop (pre [255, 0] ps k).length = ps[k] ++ 255 :: 0 :: T := fun k h => by
    obtain ⟨T, hT⟩ := pre_split [255, 0] ps k ps.length rfl h
    refine ⟨T ++ last, ?_⟩
    rw [← h2', hT, List.append_assoc, List.drop_left' rfl]
    simp
  have hpl : ps.length ≤ n := by
    have hq : ∀ qs : List (List Int), qs.length ≤ (qs.flatMap (· ++ [255, 0])).length := fun qs => by
      induction qs with
      | nil => exact Nat.le_refl _
      | cons q qs ih => rw [List.flatMap_cons, List.length_append, List.length_append, List.length_cons, List.length_cons]; omega
    have := hq ps
    have e := congrArg List.length h5
    rw [List.length_append] at e
    omega
  have HC : Veil3 (∀ w, Ext w0 w → Calls Tryd.prog 11 #[.slice a n c, .slice (some ⟨g1, 0, none⟩) 2 2] w fun e w' => e = .returned (.int .i64 (ps.length : Nat)) ∧ Ext w w') := ⟨fun w hE => by
    cases a with
    | none =>
      have hc0 := hnil rfl
      subst hc0
      have hn0 : n = 0 := by obtain ⟨_, _, _, h1, h2, _⟩ := hs; cases h1; omega
      subst hn0
      have : ps.length = 0 := by omega
      rw [this]
      exact (Tryd.bytes_Count_nil (some ⟨g1, 0, none⟩) 2 2 w (by decide) (by decide)).mono fun e w' ⟨e1, e2⟩ => ⟨e1, e2 ▸ Ext.refl _⟩
    | some a =>
      obtain ⟨c1, c2⟩ := cells_at (k := 0) (hs.ext hE)
      refine (Tryd.bytes_Count_at a ⟨g1, 0, none⟩ n c 2 2 xs [255, 0] ml w hln rfl hx (by intro y hy; simp at hy; rcases hy with rfl | rfl <;> omega) (cell_at (hs.ext hE)) (cell_at (ho.ext hE)) c1 (by omega) (by decide) (by decide) (hE.cell hml)).mono fun e w' ⟨e1, e2⟩ => ⟨?_, ext_drewN e2⟩
      rw [e1]
      have : Lib.count (Lib.bytesOf xs) (Lib.bytesOf [255, 0]) = ps.length := by
        rw [← h5, Lib.count]
        refine cnt2 ps last _ (fun p hp => ⟨r1 p hp, h4 p hp⟩) r2 r3 ?_
        rw [h5]; simp [Lib.bytesOf]; omega
      rw [this]⟩
  have HI : Veil3 (∀ k (h : k < ps.length) w, Ext w0 w → Calls Tryd.prog 12 #[.slice (cutAt a c (pre [255, 0] ps k).length 1) (n - (pre [255, 0] ps k).length) (c - (pre [255, 0] ps k).length), .slice (some ⟨g1, 0, none⟩) 2 2] w fun e w' => e = .returned (.int .i64 (ps[k].length : Nat)) ∧ Ext w w') := ⟨fun k h w hE => by
    obtain ⟨T, hT⟩ := hmem k h
    have hle : (pre [255, 0] ps k).length ≤ n := by
      have := pre_le [255, 0] ps k ps.length (by omega)
      have h6 := congrArg List.length h2'
      rw [List.length_append] at h6
      omega
    have hsl := (hs.ext hE).cutAt (pre [255, 0] ps k).length n hle (Nat.le_refl _)
    have h6 : ((xs.map (Value.int .u8)).drop ((pre [255, 0] ps k).length * 1)).take ((n - (pre [255, 0] ps k).length) * 1) = (ps[k] ++ 255 :: 0 :: T).map (Value.int .u8) := by
      rw [Nat.mul_one, Nat.mul_one, ← List.map_drop, ← List.map_take, List.take_of_length_le (by rw [List.length_drop]; omega), hT]
    rw [h6] at hsl
    have hlen := hsl.1
    have hrng : ∀ x ∈ ps[k] ++ 255 :: 0 :: T, 0 ≤ x ∧ x < 256 := fun x hxm => hx x (by rw [← hT] at hxm; exact List.mem_of_mem_drop hxm)
    cases hca : cutAt a c (pre [255, 0] ps k).length 1 with
    | none =>
      rw [hca] at hsl
      obtain ⟨_, _, _, k1, k2, k3, k4⟩ := hsl
      cases k1
      rcases k4 with k4 | ⟨_, _, k4, _⟩
      · simp at hlen; omega
      · cases k4
    | some a1 =>
      rw [hca] at hsl
      obtain ⟨c1, c2⟩ := cells_at (k := 0) hsl
      refine (Tryd.bytes_Index_at a1 ⟨g1, 0, none⟩ _ _ 2 2 (ps[k] ++ 255 :: 0 :: T) [255, 0] ml w (by simpa using hlen) rfl hrng (by intro y hy; simp at hy; rcases hy with rfl | rfl <;> omega) (cell_at hsl) (cell_at (ho.ext hE)) c1 (by omega) (by decide) (hE.cell hml)).mono fun e w' ⟨e1, e2⟩ => ⟨?_, ext_drewN e2⟩
      rw [e1, idx2 ps[k] T (fun x hxm => r1 _ (List.getElem_mem h) x hxm) (h4 _ (List.getElem_mem h))]⟩
  have HRp := replace_any w0 a (some ⟨g1, 0, none⟩) (some ⟨g2, 0, none⟩) n c 2 2 1 1 ps.length ps last [255, 0] [255] rfl (h2'.symm ▸ hs) ho hw (by decide) (Nat.le_trans hb1 (by decide)) (by decide) (by decide) HC HI
  rw [h1] at HRp
  have HRv : Veil3 _ := ⟨HRp⟩
  have hS := St.start w0
  clear HC HI HRp hmem h1 h2 h2' h3 h4 h5 hps hlast r1 r2 r3 hx hxc he hpl
  go_enter Tryd.func9, Tryd.ntmps9
  repeat' (first
    | ((with_reducible show wpList _ _ _ (⟨_, .call ⟨.value (.func 10), _, _⟩, _, _, _, _⟩ :: _) _ _); refine wpl_call (f := 10) Tryd.call10 (by kernel_rfl) ?_; refine ⟨_, (HRv.out), ?_⟩; rintro e w ⟨ao, c', rfl, hS2⟩; replace hS := hS2; clear hS2; refine ⟨_, rfl, ?_⟩; refine put_move ?_; go_step)
    | go_skip
    | go_big_skip
    | ((with_reducible show wpList _ _ _ (⟨_, .move _, _, _, _, _⟩ :: _) _ _); (first | go_big_want | go_step); go_step)
    | ((with_reducible show wpList _ _ _ (⟨_, .assign _, _, _, _, _⟩ :: _) _ _); (first | go_big_want | go_step); go_step)
    | ((with_reducible show wpList _ _ _ (⟨_, .pick _ _ _, _, _, _, _⟩ :: _) _ _); first | (refine wplPickT rfl (by kernel_rfl) ?_; go_step) | (refine wplPickF rfl (by kernel_rfl) ?_; go_step))
    | ((fail_if_success (with_reducible show wpList _ _ _ (_ :: _) _ _)); go_step))
  go_ret
  exact ⟨ao, c', rfl, hS⟩
end Go.Proofs.YthmkhpijdpbfbaaDoor
