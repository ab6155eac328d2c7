/- What best.Make gives, in one record; its refusals; the closed fact. -/
import Derived.Test.YtembekkanggciaaCost
namespace Go.Proofs.Ytembekkanggciaa
set_option maxRecDepth 100000
open Go.RowKit
set_option linter.unusedVariables false
/-- (C, S) is the table that Make gives for these counts. -/
structure Mk (c : List Int) (n : Nat) (C S : List Int) : Prop where
  len : Len C 16
  ok : tabE C S = 0
  mem : ∀ s, s ∈ S ↔ s ∈ posL c n
  slen : S.length = (posL c n).length
  best : ∀ l, LenOk c n l → costL c n (lw (wds C S)) ≤ costL c n l
  order : ∀ a b, a ∈ posL c n → b ∈ posL c n → nth c b.toNat < nth c a.toNat → lw (wds C S) a ≤ lw (wds C S) b
  lens : LenOk c n (lw (wds C S))
theorem costL_congr (c : List Int) (n : Nat) (f g : Int → Nat) (h : ∀ s : Int, 0 ≤ s → s < n → f s = g s) : costL c n f = costL c n g := by
  unfold costL
  refine isum_congr _ _ _ fun s hs => ?_
  rw [h s (by omega) (by have := List.mem_range.1 hs; omega)]
theorem bE_ok {c : List Int} (h : bE c = 0) : c.length ≤ 256 ∧ ∀ i, i < c.length → 0 ≤ nth c i ∧ nth c i ≤ 9999 := by
  unfold bE at h
  by_cases h1 : 256 < c.length
  · rw [if_pos h1] at h; cases h
  · rw [if_neg h1] at h
    by_cases h2 : allIn c 0 9999 = true
    · exact ⟨by omega, (allIn_iff c 0 9999).1 h2⟩
    · rw [if_neg h2] at h; cases h
theorem bE_of {c : List Int} (h1 : c.length ≤ 256) (h2 : ∀ i, i < c.length → 0 ≤ nth c i ∧ nth c i ≤ 9999) : bE c = 0 := by
  unfold bE; rw [if_neg (by omega), if_pos ((allIn_iff c 0 9999).2 h2)]
theorem make_good (w0 : World) (c : List Int) (ad : Option Addr) (n cap : Nat) (hv : Sl w0 1 (.slice ad n cap) n (c.map (Value.int .i64))) (hn : n ≤ 9223372036854775807) (hok : bE c = 0) :
    Calls Try.prog 13 #[.slice ad n cap] w0 fun e w => ∃ (C S : List Int) (ao : Option Addr) (co : Nat), Mk c n C S ∧ e = .returned (.tuple #[tv C (.slice ao S.length co), .int .i64 0]) ∧ St w0 w [own 3 1 ao S.length co (S.map (Value.int .i64))] := by
  refine (make_any w0 c ad n cap hv hn hok).mono ?_
  rintro e w ⟨f, R, C, S, ao, co, hR, hf, hC, hCi, hSy, rfl, hS⟩
  have hcl : c.length = n := by have := hv.1; simpa using this
  obtain ⟨b1, b2⟩ := bE_ok hok
  rw [hcl] at b1 b2
  obtain ⟨m1, m2, m3, m4, m5⟩ := made_law b1 (fun i hi => (b2 i hi).1) hR f hf
  obtain ⟨t1, t2, t3, t4⟩ := made_table b1 m1 m2 m3 hCi hSy
  have hin : ∀ s ∈ posL c n, 0 ≤ s ∧ s < n := fun s hs => by have := (posL_mem c n s).1 hs; exact ⟨this.1, this.2.1⟩
  have hcost : costL c n (lw (wds C S)) = costL c n f := costL_congr _ _ _ _ t2
  refine ⟨C, S, ao, co, ⟨hC, t1, t4, t3, fun l hl => by rw [hcost]; exact m4 l hl, fun a b ha hb h => ?_, table_len t1 c n fun s hs => (t4 s).2 hs⟩, rfl, hS⟩
  rw [t2 a (hin a ha).1 (hin a ha).2, t2 b (hin b hb).1 (hin b hb).2]
  exact m5 a b ha hb h
/-- What comes has a word. -/
theorem noneAt_ok {C S c : List Int} {n : Nat} (h : tabE C S = 0) (hall : ∀ s ∈ posL c n, s ∈ S) : noneAt c n (wds C S) = false := by
  unfold noneAt
  rw [List.any_eq_false]
  intro i hi h2
  simp at h2
  have h3 : (i : Int) ∈ posL c n := (posL_mem c n i).2 ⟨by omega, by have := List.mem_range.1 hi; omega, by simpa using h2.1⟩
  have := ((lw_pos h (i : Int)).1 (hall _ h3)).1
  omega
theorem noneAt_in {C S c : List Int} {n : Nat} (h : tabE C S = 0) (h2 : noneAt c n (wds C S) = false) : ∀ s ∈ posL c n, s ∈ S := by
  intro s hs
  obtain ⟨a1, a2, a3⟩ := (posL_mem c n s).1 hs
  unfold noneAt at h2
  rw [List.any_eq_false] at h2
  have := h2 s.toNat (List.mem_range.2 (by omega))
  by_cases hm : s ∈ S
  · exact hm
  · exfalso; apply this
    rw [Int.toNat_of_nonneg a1, (lw_pos h s).2 hm]
    simp [a3]
theorem cost_made {c C S : List Int} {n : Nat} (hm : Mk c n C S) (hcl : c.length = n) (hok : bE c = 0) : costE C S c = 0 ∧ costN C S c = costL c n (lw (wds C S)) := by
  have e : costE C S c = 0 := by
    unfold costE
    rw [if_neg (by rw [hm.ok]; decide), if_neg (by rw [hok]; decide), hcl, noneAt_ok hm.ok fun s hs => (hm.mem s).2 hs]
    rfl
  exact ⟨e, by unfold costN; rw [if_pos e, hcl]⟩
/-- A cost that is told: the table's lengths fit. -/
theorem cost_told {c C S : List Int} {n : Nat} (hcl : c.length = n) (h : costE C S c = 0) : bE c = 0 ∧ LenOk c n (lw (wds C S)) ∧ costN C S c = costL c n (lw (wds C S)) := by
  have hn : costN C S c = costL c n (lw (wds C S)) := by unfold costN; rw [if_pos h, hcl]
  unfold costE at h
  by_cases h1 : tabE C S = 0
  · rw [if_neg (by rw [h1]; decide)] at h
    by_cases h2 : bE c = 0
    · rw [if_neg (by rw [h2]; decide), hcl] at h
      refine ⟨h2, table_len h1 c n (noneAt_in h1 ?_), hn⟩
      cases e : noneAt c n (wds C S)
      · rfl
      · rw [e] at h; cases h
    · rw [if_pos h2] at h; exact absurd h h2
  · rw [if_pos h1] at h; exact absurd h h1
theorem costE_bad {c C S : List Int} (h : bE c ≠ 0) (hc : tabE C S = 0) : costE C S c = bE c := by
  unfold costE; rw [if_neg (by rw [hc]; decide), if_pos h]
theorem build_tab0 (w : World) : (Instr.build 25 #[]).run Try.prog w = .ok (tv (List.replicate 16 0) (.slice none 0 0)) w := by kernel_rfl
theorem sl_three {W w : World} {e : TypeId} {c : Nat} {a : Option Addr} {x y z : Int} {rs rs' : List Res} (h : St W w rs) (p : Pull (own e 1 a 3 c [.int .i64 x, .int .i64 y, .int .i64 z]) rs rs') : Sl w 1 (.slice a 3 c) 3 ([x, y, z].map (Value.int .i64)) := h.sl p
theorem sl_two {W w : World} {e : TypeId} {c : Nat} {a : Option Addr} {x y : Int} {rs rs' : List Res} (h : St W w rs) (p : Pull (own e 1 a 2 c [.int .i64 x, .int .i64 y]) rs rs') : Sl w 1 (.slice a 2 c) 2 ([x, y].map (Value.int .i64)) := h.sl p
set_option maxRecDepth 100000 in
set_option maxHeartbeats 4000000 in
theorem make_bad (w0 : World) (c : List Int) (ad : Option Addr) (n cap : Nat) (hv : Sl w0 1 (.slice ad n cap) n (c.map (Value.int .i64))) (hn : n ≤ 9223372036854775807) (hbad : bE c ≠ 0) :
    Calls Try.prog 13 #[.slice ad n cap] w0 fun e w => e = .returned (.tuple #[tv (List.replicate 16 0) (.slice none 0 0), .int .i64 (bE c)]) ∧ Ext w0 w := by
  have hS := St.start w0
  have HCK := hid (fun (w : World) (hE : Ext w0 w) => bcheck_any w c ad n cap (hv.ext hE) hn)
  obtain ⟨B, hB⟩ : ∃ B, bE c = B := ⟨_, rfl⟩
  rw [hB] at HCK hbad ⊢
  clear hB
  go_enter Try.func13, Try.ntmps13
  repeat' (first
    | ((with_reducible show wpList _ _ _ (⟨_, .call ⟨.value (.func 18), _, _⟩, _, _, _, _⟩ :: _) _ _); refine wpl_call (f := 18) Try.call18 (by kernel_rfl) ?_; refine ⟨_, (HCK.out _ hS.1), ?_⟩; rintro e w ⟨rfl, hE2⟩; replace hS := hS.ext hE2; clear hE2; refine ⟨_, rfl, ?_⟩; refine put_move ?_; go_step)
    | go_skip
    | go_big_skip
    | ((with_reducible show wpList _ _ _ (⟨_, .move _, _, _, _, _⟩ :: _) _ _); (first | go_big_want | go_step); go_step)
    | ((with_reducible show wpList _ _ _ (⟨_, .assign _, _, _, _, _⟩ :: _) _ _); (first | go_big_want | go_step); go_step)
    | ((with_reducible show wpList _ _ _ (⟨_, .pick _ _ _, _, _, _, _⟩ :: _) _ _); first | (refine wplPickT rfl (by kernel_rfl) ?_; go_step) | (refine wplPickF rfl (by kernel_rfl) ?_; go_step))
    | ((with_reducible show wpList _ _ _ (⟨some 22, .binOp .neq 27 _ _ _, _, _, _, _⟩ :: _) _ _); first | (refine wplV _ (V.neq rfl rfl) (by kernel_rfl) ?_; go_step))
    | ((with_reducible show wpList _ _ _ (⟨some 2, .alloc 25, _, _, _, _⟩ :: _) _ _); first | (refine wpl (by kernel_rfl) ?_; apply wp_allocP (o := ⟨some 2, _, _, _, _, _⟩) hS 25 rfl _ zp25; clear hS; intro g2 w hS; refine put_move ?_; go_step))
    | ((fail_if_success (with_reducible show wpList _ _ _ (_ :: _) _ _)); go_step))
  repeat' (first
    | ((with_reducible show wpList _ _ _ (⟨some 23, _, _, _, _, _⟩ :: _) _ _); refine wplV _ (V.build (vs := []) rfl build_tab0) (by kernel_rfl) ?_; go_step)
    | go_skip
    | go_big_skip
    | ((with_reducible show wpList _ _ _ (⟨_, .move _, _, _, _, _⟩ :: _) _ _); (first | go_big_want | go_step); go_step)
    | ((with_reducible show wpList _ _ _ (⟨_, .assign _, _, _, _, _⟩ :: _) _ _); (first | go_big_want | go_step); go_step)
    | ((with_reducible show wpList _ _ _ (⟨_, .pick _ _ _, _, _, _, _⟩ :: _) _ _); first | (refine wplPickT rfl (by kernel_rfl) ?_; go_step) | (refine wplPickF rfl (by kernel_rfl) ?_; go_step))
    | ((with_reducible show wpList _ _ _ (⟨_, .store 25 _ _, _, _, _, _⟩ :: _) _ _); first | (refine wpl (by kernel_rfl) ?_; apply wp_storePP hS 25 _ _ rfl _ rfl 17 (row_of rfl) _ _; (case hp => (repeat (first | with_reducible exact Pull.head | apply Pull.tail))); (case hy => rfl); (case hn => (repeat (first | exact Pre.nil | (apply Pre.ints; (case hn => (first | (with_reducible assumption) | exact Len.rep | exact Len.set (by with_reducible assumption) | exact Len.set Len.rep | exact Len.set (Len.set Len.rep))); (case h => omega); (case hm => rfl)) | apply Pre.val))); (case hn' => (repeat (first | exact Pre.nil | (apply Pre.ints; (case hn => (first | (with_reducible assumption) | exact Len.rep | exact Len.set (by with_reducible assumption) | exact Len.set Len.rep | exact Len.set (Len.set Len.rep))); (case h => omega); (case hm => rfl)) | apply Pre.val))); (case hv => rfl); (case hd => exact rfl); clear hS; intro w hS) | (refine wpl (by kernel_rfl) ?_; apply wp_storeA hS 25 _ _ rfl _ rfl 17 (row_of rfl) _ _; (case hp => (repeat (first | with_reducible exact Pull.head | apply Pull.tail))); (case hy => rfl); (case hm => (repeat (first | assumption | exact Len.rep | apply Len.set | ((with_reducible show Len (_ :: _) _); exact rfl)))); (case hd => exact rfl); clear hS; intro w hS) | (refine wpl (by kernel_rfl) ?_; apply wp_storeG hS 25 _ _ rfl _ rfl 17 (row_of rfl) _ _; (case hp => (repeat (first | with_reducible exact Pull.head | apply Pull.tail))); (case hy => rfl); (case hn => rfl); (case hn' => rfl); (case hv => rfl); (case hd => exact rfl); clear hS; intro w hS))
    | ((fail_if_success (with_reducible show wpList _ _ _ (_ :: _) _ _)); go_step))
  refine ret_all (xs := [_, _]) rfl (.cons (OneRes.prt hS rfl (row_of (n := 17) rfl) (by (repeat (first | with_reducible exact Pull.head | apply Pull.tail))) (by (repeat (first | exact Pre.nil | (apply Pre.ints; (case hn => (first | (with_reducible assumption) | exact Len.rep | exact Len.set (by with_reducible assumption) | exact Len.set Len.rep | exact Len.set (Len.set Len.rep))); (case h => omega); (case hm => rfl)) | apply Pre.val)))) (.cons (OneRes.tmp rfl) (.nil))) (by simp) rfl ?_
  exact ⟨rfl, hS.1⟩
/-- The table of a refusal. -/
theorem zero_len : Len (List.replicate 16 (0 : Int)) 16 := List.length_replicate
theorem zero_tab : tabE (List.replicate 16 0) [] = 0 := by decide
theorem three_law (f : Int → Nat) (h : LenOk [5, 1, 1] 3 f) : 10 ≤ costL [5, 1, 1] 3 f := by
  have hp : posL [5, 1, 1] 3 = [0, 1, 2] := by decide
  have h0 := h.top 0 (by rw [hp]; simp)
  have h1 := h.top 1 (by rw [hp]; simp)
  have h2 := h.top 2 (by rw [hp]; simp)
  have hk := h.kraft
  rw [hp] at hk
  have hc : costL [5, 1, 1] 3 f = 5 * (f 0 : Nat) + 1 * (f 1 : Nat) + 1 * (f 2 : Nat) := by
    simp [costL, isum, List.range, List.range.loop, nth]
    omega
  rw [hc]
  have hk2 : 2 ^ (16 - f 0) + 2 ^ (16 - f 1) + 2 ^ (16 - f 2) < 65536 := by
    simp [nsum] at hk
    omega
  have p0 := Nat.two_pow_pos (16 - f 0)
  have p1 := Nat.two_pow_pos (16 - f 1)
  have p2 := Nat.two_pow_pos (16 - f 2)
  by_cases h3 : 2 ≤ f 0
  · omega
  · have e0 : f 0 = 1 := by omega
    rw [e0] at hk2 ⊢
    by_cases a1 : f 1 = 1
    · rw [a1] at hk2; omega
    · by_cases a2 : f 2 = 1
      · rw [a2] at hk2; omega
      · by_cases b1 : f 1 = 2
        · by_cases b2 : f 2 = 2
          · rw [b1, b2] at hk2; omega
          · omega
        · omega
theorem three_best {C S : List Int} (h : Mk [5, 1, 1] 3 C S) : costL [5, 1, 1] 3 (lw (wds C S)) = 10 := by
  have h1 := three_law _ h.lens
  have h2 := h.best (fun s => if s = 0 then 1 else if s = 1 then 2 else 3) ⟨by decide, by decide⟩
  have h3 : costL [5, 1, 1] 3 (fun s => if s = 0 then 1 else if s = 1 then 2 else 3) = 10 := by decide
  omega
set_option maxRecDepth 100000 in
set_option maxHeartbeats 4000000 in
theorem bested_any (w0 : World) : Calls Try.prog 11 #[] w0 fun e w => e = .returned (.bool true) ∧ Ext w0 w := by
  have hS := St.start w0
  have hok : bE [5, 1, 1] = 0 := by decide
  go_enter Try.func11, Try.ntmps11
  repeat' (first
    | ((with_reducible show wpList _ _ _ (⟨some 6, .buildSlice _ _ _, _, _, _, _⟩ :: _) _ _); first | (refine wpl (by kernel_rfl) ?_; apply wp_buildSliceO (o := ⟨some 6, _, _, _, _, _⟩) hS 23 3 _ rfl 3 1 8 el23 _ _; (case hvs => (repeat (first | exact Parts.nil | (apply Parts.agg; (rfl); (rfl)) | (apply Parts.one; (first | exact IsV.int rfl | exact IsV.bool rfl | exact IsV.slice rfl | exact IsV.pointer rfl | exact IsV.string rfl | exact IsV.map rfl | exact IsV.func rfl); (rfl); (rfl))))); (case hn => rfl); (case hn0 => decide); (case hns => decide); clear hS; intro g6 w hS; refine put_move ?_; go_step))
    | ((with_reducible show wpList _ _ _ (⟨some 7, _, _, _, _, _⟩ :: _) _ _); refine wpl_call (f := 13) Try.call13 (by kernel_rfl) ?_; refine ⟨_, (make_good _ [5, 1, 1] _ 3 3 (sl_three hS (by (repeat (first | with_reducible exact Pull.head | apply Pull.tail)))) (by omega) hok), ?_⟩; rintro e w ⟨C, S, ao, co, hM, rfl, hS2⟩; have hLen := hM.len; replace hS := hS.call1 hS2; clear hS2; refine ⟨_, rfl, ?_⟩; refine put_move ?_; go_step)
    | go_skip
    | go_big_skip
    | ((with_reducible show wpList _ _ _ (⟨_, .move _, _, _, _, _⟩ :: _) _ _); (first | go_big_want | go_step); go_step)
    | ((with_reducible show wpList _ _ _ (⟨_, .assign _, _, _, _, _⟩ :: _) _ _); (first | go_big_want | go_step); go_step)
    | ((with_reducible show wpList _ _ _ (⟨_, .pick _ _ _, _, _, _, _⟩ :: _) _ _); first | (refine wplPickT rfl (by kernel_rfl) ?_; go_step) | (refine wplPickF rfl (by kernel_rfl) ?_; go_step))
    | ((with_reducible show wpList _ _ _ (⟨some 8, .extract _ _, _, _, _, _⟩ :: _) _ _); first | (refine wplV _ (V.extract rfl rfl) (by kernel_rfl) ?_; go_step))
    | ((with_reducible show wpList _ _ _ (⟨some 9, .extract _ _, _, _, _, _⟩ :: _) _ _); first | (refine wplV _ (V.extract rfl rfl) (by kernel_rfl) ?_; go_step))
    | ((with_reducible show wpList _ _ _ (⟨some 6, .buildSlice 23 _ _, _, _, _, _⟩ :: _) _ _); first | (refine wpl (by kernel_rfl) ?_; apply wp_buildSlice1 (o := ⟨some 6, _, _, _, _, _⟩) hS 23 3 _ rfl 3 1 8 el23 _ _; (case hvs => (repeat (first | exact Parts.nil | (apply Parts.agg; (rfl); (rfl)) | (apply Parts.one; (first | exact IsV.int rfl | exact IsV.bool rfl | exact IsV.slice rfl | exact IsV.pointer rfl | exact IsV.string rfl | exact IsV.map rfl | exact IsV.func rfl); (rfl); (rfl))))); (case hn => rfl); (case hn0 => decide); (case hns => decide); clear hS; intro g6 w hS; refine put_move ?_; go_step))
    | ((with_reducible show wpList _ _ _ (⟨some 1, .alloc 25, _, _, _, _⟩ :: _) _ _); first | (refine wpl (by kernel_rfl) ?_; apply wp_allocP (o := ⟨some 1, _, _, _, _, _⟩) hS 25 rfl _ zp25; clear hS; intro g1 w hS; refine put_move ?_; go_step))
    | ((with_reducible show wpList _ _ _ (⟨_, .store 25 _ _, _, _, _, _⟩ :: _) _ _); first | (refine wpl (by kernel_rfl) ?_; apply wp_storePP hS 25 _ _ rfl _ rfl 17 (row_of rfl) _ _; (case hp => (repeat (first | with_reducible exact Pull.head | apply Pull.tail))); (case hy => rfl); (case hn => (repeat (first | exact Pre.nil | (apply Pre.ints; (case hn => (first | (with_reducible assumption) | exact Len.rep | exact Len.set (by with_reducible assumption) | exact Len.set Len.rep | exact Len.set (Len.set Len.rep))); (case h => omega); (case hm => rfl)) | apply Pre.val))); (case hn' => (repeat (first | exact Pre.nil | (apply Pre.ints; (case hn => (first | (with_reducible assumption) | exact Len.rep | exact Len.set (by with_reducible assumption) | exact Len.set Len.rep | exact Len.set (Len.set Len.rep))); (case h => omega); (case hm => rfl)) | apply Pre.val))); (case hv => rfl); (case hd => exact rfl); clear hS; intro w hS) | (refine wpl (by kernel_rfl) ?_; apply wp_storeA hS 25 _ _ rfl _ rfl 17 (row_of rfl) _ _; (case hp => (repeat (first | with_reducible exact Pull.head | apply Pull.tail))); (case hy => rfl); (case hm => (repeat (first | assumption | exact Len.rep | apply Len.set | ((with_reducible show Len (_ :: _) _); exact rfl)))); (case hd => exact rfl); clear hS; intro w hS) | (refine wpl (by kernel_rfl) ?_; apply wp_storeG hS 25 _ _ rfl _ rfl 17 (row_of rfl) _ _; (case hp => (repeat (first | with_reducible exact Pull.head | apply Pull.tail))); (case hy => rfl); (case hn => rfl); (case hn' => rfl); (case hv => rfl); (case hd => exact rfl); clear hS; intro w hS))
    | ((fail_if_success (with_reducible show wpList _ _ _ (_ :: _) _ _)); go_step))
  have HT := hid (three_best hM)
  have HM := hid hM
  obtain ⟨HC1, HC2⟩ := cost_made hM rfl hok
  have HN : S.length ≤ 9223372036854775807 := by have := (tabE_ok hM.ok).2.2.1; omega
  have HR1 := hid HC1
  have HR2 := hid (HC2.trans HT.out)
  clear hM HC1 HC2
  repeat' (first
    | ((with_reducible show wpList _ _ _ (⟨some 12, .buildSlice _ _ _, _, _, _, _⟩ :: _) _ _); first | (refine wpl (by kernel_rfl) ?_; apply wp_buildSliceO (o := ⟨some 12, _, _, _, _, _⟩) hS 23 3 _ rfl 3 1 8 el23 _ _; (case hvs => (repeat (first | exact Parts.nil | (apply Parts.agg; (rfl); (rfl)) | (apply Parts.one; (first | exact IsV.int rfl | exact IsV.bool rfl | exact IsV.slice rfl | exact IsV.pointer rfl | exact IsV.string rfl | exact IsV.map rfl | exact IsV.func rfl); (rfl); (rfl))))); (case hn => rfl); (case hn0 => decide); (case hns => decide); clear hS; intro g12 w hS; refine put_move ?_; go_step))
    | ((with_reducible show wpList _ _ _ (⟨some 13, _, _, _, _, _⟩ :: _) _ _); refine wpl_call (f := 12) Try.call12 (by kernel_rfl) ?_; refine ⟨_, (cost_any _ C S ao S.length co hLen (hS.sl (by (repeat (first | with_reducible exact Pull.head | apply Pull.tail)))) HN [5, 1, 1] _ 3 3 (sl_three hS (by (repeat (first | with_reducible exact Pull.head | apply Pull.tail)))) (by omega)), ?_⟩; rintro e w ⟨rfl, hE2⟩; rw [HR1.out, HR2.out]; replace hS := hS.ext hE2; clear hE2; refine ⟨_, rfl, ?_⟩; refine put_move ?_; go_step)
    | go_skip
    | go_big_skip
    | ((with_reducible show wpList _ _ _ (⟨_, .move _, _, _, _, _⟩ :: _) _ _); (first | go_big_want | go_step); go_step)
    | ((with_reducible show wpList _ _ _ (⟨_, .assign _, _, _, _, _⟩ :: _) _ _); (first | go_big_want | go_step); go_step)
    | ((with_reducible show wpList _ _ _ (⟨_, .pick _ _ _, _, _, _, _⟩ :: _) _ _); first | (refine wplPickT rfl (by kernel_rfl) ?_; go_step) | (refine wplPickF rfl (by kernel_rfl) ?_; go_step))
    | ((with_reducible show wpList _ _ _ (⟨some 14, .extract _ _, _, _, _, _⟩ :: _) _ _); first | (refine wplV _ (V.extract rfl rfl) (by kernel_rfl) ?_; go_step))
    | ((with_reducible show wpList _ _ _ (⟨some 15, .extract _ _, _, _, _, _⟩ :: _) _ _); first | (refine wplV _ (V.extract rfl rfl) (by kernel_rfl) ?_; go_step))
    | ((with_reducible show wpList _ _ _ (⟨_, .load 25 _, _, _, _, _⟩ :: _) _ _); first | (refine wpl (by kernel_rfl) ?_; apply wp_loadPP hS 25 _ rfl _ _ rfl 17 (row_of rfl) _; (case hp => (repeat (first | with_reducible exact Pull.head | apply Pull.tail))); (case hi => (repeat (first | (apply AtP.head; (repeat (first | exact Pre.nil | (apply Pre.ints; (case hn => (first | (with_reducible assumption) | exact Len.rep | exact Len.set (by with_reducible assumption) | exact Len.set Len.rep | exact Len.set (Len.set Len.rep))); (case h => omega); (case hm => rfl)) | apply Pre.val))) | (apply AtP.skipI; (case hn => (first | (with_reducible assumption) | exact Len.rep | exact Len.set (by with_reducible assumption) | exact Len.set Len.rep | exact Len.set (Len.set Len.rep))); (case h => omega); (case ho => rfl)) | apply AtP.skipV))); refine put_move ?_; go_step) | (refine wpl (by kernel_rfl) ?_; apply wp_loadA hS 25 _ rfl _ rfl 17 (row_of rfl) _; (case hp => (repeat (first | with_reducible exact Pull.head | apply Pull.tail))); refine put_move ?_; go_step) | (refine wpl (by kernel_rfl) ?_; apply wp_loadG hS 25 _ rfl _ rfl 17 (row_of rfl) _; (case hp => (repeat (first | with_reducible exact Pull.head | apply Pull.tail))); (case hn => rfl); refine put_move ?_; go_step) | (refine wpl (by kernel_rfl) ?_; apply wp_loadRW hS 25 _ rfl _ _ rfl 17 (row_of rfl) _; (case hc => with_reducible assumption); (case hn => rfl); refine put_move ?_; go_step))
    | ((with_reducible show wpList _ _ _ (⟨some 12, .buildSlice 23 _ _, _, _, _, _⟩ :: _) _ _); first | (refine wpl (by kernel_rfl) ?_; apply wp_buildSlice1 (o := ⟨some 12, _, _, _, _, _⟩) hS 23 3 _ rfl 3 1 8 el23 _ _; (case hvs => (repeat (first | exact Parts.nil | (apply Parts.agg; (rfl); (rfl)) | (apply Parts.one; (first | exact IsV.int rfl | exact IsV.bool rfl | exact IsV.slice rfl | exact IsV.pointer rfl | exact IsV.string rfl | exact IsV.map rfl | exact IsV.func rfl); (rfl); (rfl))))); (case hn => rfl); (case hn0 => decide); (case hns => decide); clear hS; intro g12 w hS; refine put_move ?_; go_step))
    | ((fail_if_success (with_reducible show wpList _ _ _ (_ :: _) _ _)); go_step))
  repeat' (first
    | go_skip
    | go_big_skip
    | ((with_reducible show wpList _ _ _ (⟨_, .move _, _, _, _, _⟩ :: _) _ _); (first | go_big_want | go_step); go_step)
    | ((with_reducible show wpList _ _ _ (⟨_, .assign _, _, _, _, _⟩ :: _) _ _); (first | go_big_want | go_step); go_step)
    | ((with_reducible show wpList _ _ _ (⟨_, .pick _ _ _, _, _, _, _⟩ :: _) _ _); first | (refine wplPickT rfl (by kernel_rfl) ?_; go_step) | (refine wplPickF rfl (by kernel_rfl) ?_; go_step))
    | ((with_reducible show wpList _ _ _ (⟨some 17, .binOp .eql 27 _ _ _, _, _, _, _⟩ :: _) _ _); first | (refine wplD _ (V.eql rfl rfl) (by kernel_rfl) (fun hB => ?_) (fun hB => ?_) <;> (try (have hF : False := (by omega); cases hF)) <;> go_step) | (refine wplB _ (V.eql rfl rfl) (by kernel_rfl) (fun hB => ?_) (fun hB => ?_) <;> (try (have hF : False := (absurd hB (by decide)); cases hF)) <;> go_step))
    | ((with_reducible show wpList _ _ _ (⟨some 20, .binOp .eql 27 _ _ _, _, _, _, _⟩ :: _) _ _); first | (refine wplD _ (V.eql rfl rfl) (by kernel_rfl) (fun hB => ?_) (fun hB => ?_) <;> (try (have hF : False := (by omega); cases hF)) <;> go_step) | (refine wplB _ (V.eql rfl rfl) (by kernel_rfl) (fun hB => ?_) (fun hB => ?_) <;> (try (have hF : False := (absurd hB (by decide)); cases hF)) <;> go_step))
    | ((with_reducible show wpList _ _ _ (⟨_, .binOp .eql 3 _ _ _, _, _, _, _⟩ :: _) _ _); first | (refine wplV _ (V.eql rfl rfl) (by kernel_rfl) ?_; go_step))
    | ((fail_if_success (with_reducible show wpList _ _ _ (_ :: _) _ _)); go_step))
  all_goals (go_ret; exact ⟨rfl, hS.1⟩)
end Go.Proofs.Ytembekkanggciaa
