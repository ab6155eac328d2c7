/- Costs of the shortest words, compared; the walk of made. -/
import Derived.Test.YtembekkanggciaaBestGood
namespace Go.Proofs.Ytembekkanggciaa
set_option maxRecDepth 100000
open Go.RowKit
set_option linter.unusedVariables false
theorem isum_sub {α : Type} [DecidableEq α] (f : α → Int) : ∀ (A B : List α), A.Nodup → (∀ a ∈ A, a ∈ B) → (∀ b ∈ B, 0 ≤ f b) → isum f A ≤ isum f B
  | [], B, _, _, h0 => by
    rw [show isum f [] = 0 from rfl]
    have := isum_le (fun _ => 0) f B h0
    rw [isum_zero (fun _ => (0 : Int)) B fun _ _ => rfl] at this
    exact this
  | a :: A, B, hn, h, h0 => by
    obtain ⟨h1, h2⟩ := List.nodup_cons.1 hn
    have p := List.perm_cons_erase (h a (by simp))
    rw [isum_perm f p, isum_cons, isum_cons]
    have := isum_sub f A (B.erase a) h2 (fun x hx => (List.mem_erase_of_ne (fun e => h1 (by rw [← e]; exact hx))).2 (h x (by simp [hx]))) (fun b hb => h0 b (List.mem_of_mem_erase hb))
    omega
theorem wOf_nonneg {c : List Int} {n : Nat} {s : Int} (h : s ∈ posL c n) : 0 < wOf c s := by
  have h1 := (posL_mem c n s).1 h
  unfold wOf; rw [if_neg (by omega)]; exact h1.2.2
/-- Words for more, or for what comes more often, serve here too. -/
theorem opt_le {t c C S : List Int} {n' n : Nat} {f : Int → Nat} (σ : Int → Int) (h : Mk t n' C S) (hf : LenOk c n f) (ht : ∀ i, i < n' → 0 ≤ nth t i) (hc : ∀ i, i < n → 0 ≤ nth c i)
    (hm : ∀ s ∈ posL t n', σ s ∈ posL c n ∧ wOf t s ≤ wOf c (σ s)) (hi : ∀ a ∈ posL t n', ∀ b ∈ posL t n', σ a = σ b → a = b) : costL t n' (lw (wds C S)) ≤ costL c n f := by
  have hnd : ((posL t n').map σ).Nodup := by
    have h1 := posL_nodup t n'
    rw [List.nodup_iff_pairwise_ne] at h1 ⊢
    rw [List.pairwise_map]
    exact h1.imp_of_mem fun ha hb hne e => hne (hi _ ha _ hb e)
  have hin : ∀ s ∈ (posL t n').map σ, s ∈ posL c n := fun s hs => by
    obtain ⟨a, ha, rfl⟩ := List.mem_map.1 hs
    exact (hm a ha).1
  have hl : LenOk t n' (fun s => f (σ s)) := by
    refine ⟨fun s hs => hf.top _ (hm s hs).1, ?_⟩
    have h1 := nsum_map σ (fun s => 2 ^ (16 - f s)) (posL t n')
    have h2 := nsum_sub (fun s => 2 ^ (16 - f s)) _ _ hnd hin
    have h3 := hf.kraft
    omega
  refine Int.le_trans (h.best _ hl) ?_
  rw [← costL_pos t n' _ ht, ← costL_pos c n f hc]
  have h1 := isum_map σ (fun s => wOf c s * (f s : Nat)) (posL t n')
  have h2 := isum_sub (fun s => wOf c s * (f s : Nat)) _ _ hnd hin fun s hs => Int.mul_nonneg (Int.le_of_lt (wOf_nonneg hs)) (by omega)
  rw [h1] at h2
  refine Int.le_trans (isum_le _ _ _ fun s hs => ?_) h2
  exact Int.mul_le_mul_of_nonneg_right (hm s hs).2 (by omega)
theorem wOf_at (c : List Int) (s : Int) (h : 0 ≤ s) : wOf c s = nth c s.toNat := by unfold wOf; rw [if_neg (by omega)]
/-- What made tells: the cost with the table that Make gives; 0 of what Make refuses. -/
def MadeIs (c : List Int) (n : Nat) (x : Int) : Prop := (bE c = 0 → ∃ C S, Mk c n C S ∧ x = costL c n (lw (wds C S))) ∧ (bE c ≠ 0 → x = 0)
set_option maxRecDepth 100000 in
set_option maxHeartbeats 4000000 in
theorem made_any (w0 : World) (c : List Int) (ad : Option Addr) (n cap : Nat) (hv : Sl w0 1 (.slice ad n cap) n (c.map (Value.int .i64))) (hn : n ≤ 9223372036854775807) :
    Calls Try.prog 16 #[.slice ad n cap] w0 fun e w => ∃ x, MadeIs c n x ∧ e = .returned (.tuple #[.int .i64 x, .bool (decide (bE c = 0))]) ∧ Ext w0 w := by
  have hS := St.start w0
  have hcl : c.length = n := by have := hv.1; simpa using this
  by_cases hb : bE c = 0
  · have HB := hid hb
    have HL := hid hcl
    rw [show decide (bE c = 0) = true from decide_eq_true hb]
    clear hb hcl
    go_enter Try.func16, Try.ntmps16
    repeat' (first
      | ((with_reducible show wpList _ _ _ (⟨some 10, _, _, _, _, _⟩ :: _) _ _); refine wpl_call (f := 13) Try.call13 (by kernel_rfl) ?_; refine ⟨_, (make_good _ c _ n cap (hv.ext hS.1) hn HB.out), ?_⟩; rintro e w ⟨C, S, ao, co, hM, rfl, hS2⟩; have hLen := hM.len; have HM := hid hM; replace hS := hS.call1 hS2; clear hS2 hM; refine ⟨_, rfl, ?_⟩; refine put_move ?_; go_step)
      | go_skip
      | go_big_skip
      | ((with_reducible show wpList _ _ _ (⟨_, .move _, _, _, _, _⟩ :: _) _ _); (first | go_big_want | go_step); go_step)
      | ((with_reducible show wpList _ _ _ (⟨_, .assign _, _, _, _, _⟩ :: _) _ _); (first | go_big_want | go_step); go_step)
      | ((with_reducible show wpList _ _ _ (⟨_, .pick _ _ _, _, _, _, _⟩ :: _) _ _); first | (refine wplPickT rfl (by kernel_rfl) ?_; go_step) | (refine wplPickF rfl (by kernel_rfl) ?_; go_step))
      | ((with_reducible show wpList _ _ _ (⟨_, .extract _ _, _, _, _, _⟩ :: _) _ _); first | (refine wplV _ (V.extract rfl rfl) (by kernel_rfl) ?_; go_step))
      | ((with_reducible show wpList _ _ _ (⟨some 4, .alloc 25, _, _, _, _⟩ :: _) _ _); first | (refine wpl (by kernel_rfl) ?_; apply wp_allocP (o := ⟨some 4, _, _, _, _, _⟩) hS 25 rfl _ zp25; clear hS; intro g4 w hS; refine put_move ?_; go_step))
      | ((with_reducible show wpList _ _ _ (⟨_, .store 25 _ _, _, _, _, _⟩ :: _) _ _); first | (refine wpl (by kernel_rfl) ?_; apply wp_storePP hS 25 _ _ rfl _ rfl 17 (row_of rfl) _ _; (case hp => (repeat (first | with_reducible exact Pull.head | apply Pull.tail))); (case hy => rfl); (case hn => (repeat (first | exact Pre.nil | (apply Pre.ints; (case hn => (first | (with_reducible assumption) | exact Len.rep | exact Len.set (by with_reducible assumption) | exact Len.set Len.rep | exact Len.set (Len.set Len.rep))); (case h => omega); (case hm => rfl)) | apply Pre.val))); (case hn' => (repeat (first | exact Pre.nil | (apply Pre.ints; (case hn => (first | (with_reducible assumption) | exact Len.rep | exact Len.set (by with_reducible assumption) | exact Len.set Len.rep | exact Len.set (Len.set Len.rep))); (case h => omega); (case hm => rfl)) | apply Pre.val))); (case hv => rfl); (case hd => exact rfl); clear hS; intro w hS) | (refine wpl (by kernel_rfl) ?_; apply wp_storeA hS 25 _ _ rfl _ rfl 17 (row_of rfl) _ _; (case hp => (repeat (first | with_reducible exact Pull.head | apply Pull.tail))); (case hy => rfl); (case hm => (repeat (first | assumption | exact Len.rep | apply Len.set | ((with_reducible show Len (_ :: _) _); exact rfl)))); (case hd => exact rfl); clear hS; intro w hS) | (refine wpl (by kernel_rfl) ?_; apply wp_storeG hS 25 _ _ rfl _ rfl 17 (row_of rfl) _ _; (case hp => (repeat (first | with_reducible exact Pull.head | apply Pull.tail))); (case hy => rfl); (case hn => rfl); (case hn' => rfl); (case hv => rfl); (case hd => exact rfl); clear hS; intro w hS))
      | ((fail_if_success (with_reducible show wpList _ _ _ (_ :: _) _ _)); go_step))
    have HCS := hid (cost_made HM.out HL.out HB.out)
    have hn5 : S.length ≤ 9223372036854775807 := by have := (tabE_ok HM.out.ok).2.2.1; omega
    have HMI : Hid (MadeIs c n (costL c n (lw (wds C S)))) := hid ⟨fun _ => ⟨C, S, HM.out, rfl⟩, fun h => absurd HB.out h⟩
    obtain ⟨X, hX⟩ : ∃ X, costL c n (lw (wds C S)) = X := ⟨_, rfl⟩
    rw [hX] at HCS HMI
    clear hX
    repeat' (first
      | ((with_reducible show wpList _ _ _ (⟨some 16, _, _, _, _, _⟩ :: _) _ _); refine wpl_call (f := 12) Try.call12 (by kernel_rfl) ?_; refine ⟨_, (cost_any _ C S ao S.length co hLen (hS.sl (by (repeat (first | with_reducible exact Pull.head | apply Pull.tail)))) hn5 c _ n cap (hv.ext hS.1) hn), ?_⟩; rintro e w ⟨rfl, hE2⟩; rw [HCS.out.1, HCS.out.2]; replace hS := hS.ext hE2; clear hE2; refine ⟨_, rfl, ?_⟩; refine put_move ?_; go_step)
      | go_skip
      | go_big_skip
      | ((with_reducible show wpList _ _ _ (⟨_, .move _, _, _, _, _⟩ :: _) _ _); (first | go_big_want | go_step); go_step)
      | ((with_reducible show wpList _ _ _ (⟨_, .assign _, _, _, _, _⟩ :: _) _ _); (first | go_big_want | go_step); go_step)
      | ((with_reducible show wpList _ _ _ (⟨_, .pick _ _ _, _, _, _, _⟩ :: _) _ _); first | (refine wplPickT rfl (by kernel_rfl) ?_; go_step) | (refine wplPickF rfl (by kernel_rfl) ?_; go_step))
      | ((with_reducible show wpList _ _ _ (⟨some 21, .binOp .eql 27 _ _ _, _, _, _, _⟩ :: _) _ _); first | (refine wplD _ (V.eql rfl rfl) (by kernel_rfl) (fun hB => ?_) (fun hB => ?_) <;> (try (have hF : False := (by omega); cases hF)) <;> go_step) | (refine wplB _ (V.eql rfl rfl) (by kernel_rfl) (fun hB => ?_) (fun hB => ?_) <;> (try (have hF : False := (absurd hB (by decide)); cases hF)) <;> go_step))
      | ((with_reducible show wpList _ _ _ (⟨_, .extract _ _, _, _, _, _⟩ :: _) _ _); first | (refine wplV _ (V.extract rfl rfl) (by kernel_rfl) ?_; go_step))
      | ((with_reducible show wpList _ _ _ (⟨_, .binOp .eql 27 _ _ _, _, _, _, _⟩ :: _) _ _); first | (refine wplV _ (V.eql rfl rfl) (by kernel_rfl) ?_; go_step))
      | ((with_reducible show wpList _ _ _ (⟨_, .load 25 _, _, _, _, _⟩ :: _) _ _); first | (refine wpl (by kernel_rfl) ?_; apply wp_loadPP hS 25 _ rfl _ _ rfl 17 (row_of rfl) _; (case hp => (repeat (first | with_reducible exact Pull.head | apply Pull.tail))); (case hi => (repeat (first | (apply AtP.head; (repeat (first | exact Pre.nil | (apply Pre.ints; (case hn => (first | (with_reducible assumption) | exact Len.rep | exact Len.set (by with_reducible assumption) | exact Len.set Len.rep | exact Len.set (Len.set Len.rep))); (case h => omega); (case hm => rfl)) | apply Pre.val))) | (apply AtP.skipI; (case hn => (first | (with_reducible assumption) | exact Len.rep | exact Len.set (by with_reducible assumption) | exact Len.set Len.rep | exact Len.set (Len.set Len.rep))); (case h => omega); (case ho => rfl)) | apply AtP.skipV))); refine put_move ?_; go_step) | (refine wpl (by kernel_rfl) ?_; apply wp_loadA hS 25 _ rfl _ rfl 17 (row_of rfl) _; (case hp => (repeat (first | with_reducible exact Pull.head | apply Pull.tail))); refine put_move ?_; go_step) | (refine wpl (by kernel_rfl) ?_; apply wp_loadG hS 25 _ rfl _ rfl 17 (row_of rfl) _; (case hp => (repeat (first | with_reducible exact Pull.head | apply Pull.tail))); (case hn => rfl); refine put_move ?_; go_step) | (refine wpl (by kernel_rfl) ?_; apply wp_loadRW hS 25 _ rfl _ _ rfl 17 (row_of rfl) _; (case hc => with_reducible assumption); (case hn => rfl); refine put_move ?_; go_step))
      | ((fail_if_success (with_reducible show wpList _ _ _ (_ :: _) _ _)); go_step))
    all_goals
      refine ret_all (xs := [_, _]) rfl (.cons (OneRes.tmp rfl) (.cons (OneRes.tmp rfl) (.nil))) (by simp) rfl ?_
      exact ⟨X, HMI.out, rfl, hS.1⟩
  · have HB := hid hb
    have HMI : Hid (MadeIs c n 0) := hid ⟨fun h => absurd h HB.out, fun _ => rfl⟩
    have HCE := hid (costE_bad (C := List.replicate 16 0) (S := []) hb zero_tab)
    have HCN : Hid (costN (List.replicate 16 0) [] c = 0) := hid (by unfold costN; rw [HCE.out, if_neg hb])
    obtain ⟨B, hB⟩ : ∃ B, bE c = B := ⟨_, rfl⟩
    have HB2 := hid hB
    rw [hB] at hb HCE
    clear hB hcl
    go_enter Try.func16, Try.ntmps16
    repeat' (first
      | ((with_reducible show wpList _ _ _ (⟨some 10, _, _, _, _, _⟩ :: _) _ _); refine wpl_call (f := 13) Try.call13 (by kernel_rfl) ?_; refine ⟨_, (make_bad _ c _ n cap (hv.ext hS.1) hn HB.out), ?_⟩; rintro e w ⟨rfl, hE2⟩; have hLen := zero_len; rw [HB2.out]; replace hS := hS.ext hE2; clear hE2; refine ⟨_, rfl, ?_⟩; refine put_move ?_; go_step)
      | ((with_reducible show wpList _ _ _ (⟨some 16, _, _, _, _, _⟩ :: _) _ _); refine wpl_call (f := 12) Try.call12 (by kernel_rfl) ?_; refine ⟨_, (cost_any _ _ [] none 0 0 hLen (Sl.nil _ _) (by omega) c _ n cap (hv.ext hS.1) hn), ?_⟩; rintro e w ⟨rfl, hE2⟩; rw [HCE.out, HCN.out]; replace hS := hS.ext hE2; clear hE2; refine ⟨_, rfl, ?_⟩; refine put_move ?_; go_step)
      | go_skip
      | go_big_skip
      | ((with_reducible show wpList _ _ _ (⟨_, .move _, _, _, _, _⟩ :: _) _ _); (first | go_big_want | go_step); go_step)
      | ((with_reducible show wpList _ _ _ (⟨_, .assign _, _, _, _, _⟩ :: _) _ _); (first | go_big_want | go_step); go_step)
      | ((with_reducible show wpList _ _ _ (⟨_, .pick _ _ _, _, _, _, _⟩ :: _) _ _); first | (refine wplPickT rfl (by kernel_rfl) ?_; go_step) | (refine wplPickF rfl (by kernel_rfl) ?_; go_step))
      | ((with_reducible show wpList _ _ _ (⟨some 21, .binOp .eql 27 _ _ _, _, _, _, _⟩ :: _) _ _); first | (refine wplD _ (V.eql rfl rfl) (by kernel_rfl) (fun hB => ?_) (fun hB => ?_) <;> (try (have hF : False := (by omega); cases hF)) <;> go_step) | (refine wplB _ (V.eql rfl rfl) (by kernel_rfl) (fun hB => ?_) (fun hB => ?_) <;> (try (have hF : False := (absurd hB (by decide)); cases hF)) <;> go_step))
      | ((with_reducible show wpList _ _ _ (⟨_, .extract _ _, _, _, _, _⟩ :: _) _ _); first | (refine wplV _ (V.extract rfl rfl) (by kernel_rfl) ?_; go_step))
      | ((with_reducible show wpList _ _ _ (⟨_, .binOp .eql 27 _ _ _, _, _, _, _⟩ :: _) _ _); first | (refine wplV _ (V.eql rfl rfl) (by kernel_rfl) ?_; go_step))
      | ((with_reducible show wpList _ _ _ (⟨some 4, .alloc 25, _, _, _, _⟩ :: _) _ _); first | (refine wpl (by kernel_rfl) ?_; apply wp_allocP (o := ⟨some 4, _, _, _, _, _⟩) hS 25 rfl _ zp25; clear hS; intro g4 w hS; refine put_move ?_; go_step))
      | ((with_reducible show wpList _ _ _ (⟨_, .store 25 _ _, _, _, _, _⟩ :: _) _ _); first | (refine wpl (by kernel_rfl) ?_; apply wp_storePP hS 25 _ _ rfl _ rfl 17 (row_of rfl) _ _; (case hp => (repeat (first | with_reducible exact Pull.head | apply Pull.tail))); (case hy => rfl); (case hn => (repeat (first | exact Pre.nil | (apply Pre.ints; (case hn => (first | (with_reducible assumption) | exact Len.rep | exact Len.set (by with_reducible assumption) | exact Len.set Len.rep | exact Len.set (Len.set Len.rep))); (case h => omega); (case hm => rfl)) | apply Pre.val))); (case hn' => (repeat (first | exact Pre.nil | (apply Pre.ints; (case hn => (first | (with_reducible assumption) | exact Len.rep | exact Len.set (by with_reducible assumption) | exact Len.set Len.rep | exact Len.set (Len.set Len.rep))); (case h => omega); (case hm => rfl)) | apply Pre.val))); (case hv => rfl); (case hd => exact rfl); clear hS; intro w hS) | (refine wpl (by kernel_rfl) ?_; apply wp_storeA hS 25 _ _ rfl _ rfl 17 (row_of rfl) _ _; (case hp => (repeat (first | with_reducible exact Pull.head | apply Pull.tail))); (case hy => rfl); (case hm => (repeat (first | assumption | exact Len.rep | apply Len.set | ((with_reducible show Len (_ :: _) _); exact rfl)))); (case hd => exact rfl); clear hS; intro w hS) | (refine wpl (by kernel_rfl) ?_; apply wp_storeG hS 25 _ _ rfl _ rfl 17 (row_of rfl) _ _; (case hp => (repeat (first | with_reducible exact Pull.head | apply Pull.tail))); (case hy => rfl); (case hn => rfl); (case hn' => rfl); (case hv => rfl); (case hd => exact rfl); clear hS; intro w hS))
      | ((with_reducible show wpList _ _ _ (⟨_, .load 25 _, _, _, _, _⟩ :: _) _ _); first | (refine wpl (by kernel_rfl) ?_; apply wp_loadPP hS 25 _ rfl _ _ rfl 17 (row_of rfl) _; (case hp => (repeat (first | with_reducible exact Pull.head | apply Pull.tail))); (case hi => (repeat (first | (apply AtP.head; (repeat (first | exact Pre.nil | (apply Pre.ints; (case hn => (first | (with_reducible assumption) | exact Len.rep | exact Len.set (by with_reducible assumption) | exact Len.set Len.rep | exact Len.set (Len.set Len.rep))); (case h => omega); (case hm => rfl)) | apply Pre.val))) | (apply AtP.skipI; (case hn => (first | (with_reducible assumption) | exact Len.rep | exact Len.set (by with_reducible assumption) | exact Len.set Len.rep | exact Len.set (Len.set Len.rep))); (case h => omega); (case ho => rfl)) | apply AtP.skipV))); refine put_move ?_; go_step) | (refine wpl (by kernel_rfl) ?_; apply wp_loadA hS 25 _ rfl _ rfl 17 (row_of rfl) _; (case hp => (repeat (first | with_reducible exact Pull.head | apply Pull.tail))); refine put_move ?_; go_step) | (refine wpl (by kernel_rfl) ?_; apply wp_loadG hS 25 _ rfl _ rfl 17 (row_of rfl) _; (case hp => (repeat (first | with_reducible exact Pull.head | apply Pull.tail))); (case hn => rfl); refine put_move ?_; go_step) | (refine wpl (by kernel_rfl) ?_; apply wp_loadRW hS 25 _ rfl _ _ rfl 17 (row_of rfl) _; (case hc => with_reducible assumption); (case hn => rfl); refine put_move ?_; go_step))
      | ((fail_if_success (with_reducible show wpList _ _ _ (_ :: _) _ _)); go_step))
    all_goals
      refine ret_all (xs := [_, _]) rfl (.cons (OneRes.tmp rfl) (.cons (OneRes.tmp rfl) (.nil))) (by simp) rfl ?_
      exact ⟨0, HMI.out, by first | (rw [decide_eq_false (show ¬ bE c = 0 from HB.out)]; rfl) | (rw [decide_eq_false hb]; rfl), hS.1⟩
end Go.Proofs.Ytembekkanggciaa
