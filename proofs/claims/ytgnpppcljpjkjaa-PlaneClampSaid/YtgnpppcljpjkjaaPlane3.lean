/- The walk of plane.Join. -/
import Derived.Test.YtgnpppcljpjkjaaPlane2
namespace Go.Proofs.Ytgnpppcljpjkjaa
open Go.RowKit
set_option linter.unusedVariables false
def joinOk (l : List Int) : Bool := allIn l (-40000) 40000
def joinE0 (n : Nat) (m h : Int) : Int := if 1 ≤ m ∧ m ≤ 64 ∧ 1 ≤ h ∧ h ≤ 64 then if n = manyN m h then 0 else 4 else 1
def joinE (l : List Int) (n : Nat) (m h : Int) : Int := if 1 ≤ m ∧ m ≤ 64 ∧ 1 ≤ h ∧ h ≤ 64 then if n = manyN m h then if joinOk l then 0 else 1 else 4 else 1
/-- The block of a place, and the place in it. -/
def jblk (m : Int) (x : Nat) : Int := (x : Int) / m / 8 * ((m + 7) / 8) + (x : Int) % m / 8
def jidx (m : Int) (x : Nat) : Int := (x : Int) / m % 8 * 8 + (x : Int) % m % 8
def joinV (l : List Int) (m : Int) (x : Nat) : Int := min (max (nth l (jblk m x * 64 + jidx m x).toNat + 128) 0) 255
def joinL (l : List Int) (m h : Int) : List Int := tab (m * h).toNat (joinV l m)
theorem jpos_of (m k i : Int) (hm : 1 ≤ m ∧ m ≤ 64) (hk : 0 ≤ k) (hi : 0 ≤ i ∧ i < 64) (x : Nat) (hx : (x : Int) = prow ((m + 7) / 8) k i * m + pcol ((m + 7) / 8) k i) (hc : pcol ((m + 7) / 8) k i < m) : jblk m x = k ∧ jidx m x = i := by
  have q1 : 0 ≤ k / ((m + 7) / 8) := Int.ediv_nonneg hk (by omega)
  have q3 := Int.emod_nonneg k (b := (m + 7) / 8) (by omega)
  have q5 := Int.mul_ediv_add_emod k ((m + 7) / 8)
  have e1 : (x : Int) / m = prow ((m + 7) / 8) k i := by
    rw [hx, Int.add_comm, Int.add_mul_ediv_right _ _ (by omega), Int.ediv_eq_zero_of_lt (by unfold pcol; omega) hc]; omega
  have e2 : (x : Int) % m = pcol ((m + 7) / 8) k i := by
    rw [hx, Int.add_comm, Int.add_mul_emod_self_right, Int.emod_eq_of_lt (by unfold pcol; omega) hc]
  unfold jblk jidx
  rw [e1, e2]
  unfold prow pcol
  rw [show (k / ((m + 7) / 8) * 8 + i / 8) / 8 = k / ((m + 7) / 8) by omega, show (k % ((m + 7) / 8) * 8 + i % 8) / 8 = k % ((m + 7) / 8) by omega, Int.mul_comm (k / ((m + 7) / 8))]
  exact ⟨q5, by omega⟩
theorem jpos_inv (m k i : Int) (hm : 1 ≤ m ∧ m ≤ 64) (x : Nat) (hk : jblk m x = k) (hi : jidx m x = i) : prow ((m + 7) / 8) k i = (x : Int) / m ∧ pcol ((m + 7) / 8) k i = (x : Int) % m := by
  subst hk; subst hi
  have q3 := Int.emod_nonneg (x : Int) (b := m) (by omega)
  have q4 := Int.emod_lt_of_pos (x : Int) (b := m) (by omega)
  have q1 : 0 ≤ (x : Int) / m := Int.ediv_nonneg (by omega) (by omega)
  have e1 : jblk m x / ((m + 7) / 8) = (x : Int) / m / 8 := by
    unfold jblk
    rw [Int.add_comm, Int.add_mul_ediv_right _ _ (by omega), Int.ediv_eq_zero_of_lt (by omega) (by omega)]; omega
  have e2 : jblk m x % ((m + 7) / 8) = (x : Int) % m / 8 := by
    unfold jblk
    rw [Int.add_comm, Int.add_mul_emod_self_right, Int.emod_eq_of_lt (by omega) (by omega)]
  unfold prow pcol
  rw [e1, e2]
  unfold jidx
  exact ⟨by omega, by omega⟩
theorem jblk_bd (m h : Int) (hm : 1 ≤ m ∧ m ≤ 64) (hh : 1 ≤ h ∧ h ≤ 64) (x : Nat) (hx : (x : Int) < m * h) : 0 ≤ jblk m x ∧ jblk m x < manyN m h ∧ 0 ≤ jidx m x ∧ jidx m x < 64 ∧ (x : Int) / m < h ∧ (x : Int) % m < m := by
  have q3 := Int.emod_nonneg (x : Int) (b := m) (by omega)
  have q4 := Int.emod_lt_of_pos (x : Int) (b := m) (by omega)
  have q1 : 0 ≤ (x : Int) / m := Int.ediv_nonneg (by omega) (by omega)
  have q2 : (x : Int) / m < h := Int.ediv_lt_of_lt_mul (by omega) (by rw [Int.mul_comm]; exact hx)
  have r1 : (x : Int) / m / 8 ≤ (h + 7) / 8 - 1 := by omega
  have r2 : (x : Int) % m / 8 < (m + 7) / 8 := by omega
  have r3 : (x : Int) / m / 8 * ((m + 7) / 8) ≤ ((h + 7) / 8 - 1) * ((m + 7) / 8) := Int.mul_le_mul_of_nonneg_right r1 (by omega)
  have r4 : ((h + 7) / 8 - 1) * ((m + 7) / 8) = (m + 7) / 8 * ((h + 7) / 8) - (m + 7) / 8 := by rw [Int.sub_mul, Int.one_mul, Int.mul_comm]
  have r5 : 0 ≤ (x : Int) / m / 8 * ((m + 7) / 8) := Int.mul_nonneg (by omega) (by omega)
  unfold jblk jidx manyN
  refine ⟨by omega, by omega, by omega, by omega, q2, q4⟩
theorem join1_any (n : Int) (w : World) : Calls Try.prog 35 #[.int .i64 n] w fun e w' => e = .returned (.bool (decide (n < -40000) || decide (40000 < n))) ∧ w = w' := by
  go_enter Try.func35, Try.ntmps35
  repeat' (first
    | go_skip
    | go_big_skip
    | ((with_reducible show wpList _ _ _ (⟨_, .move _, _, _, _, _⟩ :: _) _ _); (first | go_big_want | go_step); go_step)
    | ((with_reducible show wpList _ _ _ (⟨_, .assign _, _, _, _, _⟩ :: _) _ _); (first | go_big_want | go_step); go_step)
    | ((with_reducible show wpList _ _ _ (⟨_, .pick _ _ _, _, _, _, _⟩ :: _) _ _); first | (refine wplPickT rfl (by kernel_rfl) ?_; go_step) | (refine wplPickF rfl (by kernel_rfl) ?_; go_step))
    | ((with_reducible show wpList _ _ _ (⟨some 4, .binOp .lss _ _ _ _, _, _, _, _⟩ :: _) _ _); first | (refine wplD _ (V.lss rfl rfl) (by kernel_rfl) (fun hB => ?_) (fun hB => ?_) <;> (try (have hF : False := (by omega); cases hF)) <;> go_step) | (refine wplB _ (V.lss rfl rfl) (by kernel_rfl) (fun hB => ?_) (fun hB => ?_) <;> go_step))
    | ((with_reducible show wpList _ _ _ (⟨_, .binOp .gtr _ _ _ _, _, _, _, _⟩ :: _) _ _); first | (refine wplV _ (V.gtr rfl rfl) (by kernel_rfl) ?_; go_step))
    | ((fail_if_success (with_reducible show wpList _ _ _ (_ :: _) _ _)); go_step))
  all_goals (go_ret; exact ⟨ret_bool (by simp; omega), rfl⟩)
theorem any_joinOk (l : List Int) : (l.any fun n => decide (n < -40000) || decide (40000 < n)) = !joinOk l := by unfold joinOk allIn; simp
/-- The error behind k blocks. -/
def joinE1 (E0 : Int) (l : List Int) (k : Nat) : Int := if E0 = 0 then if joinOk (l.take (k * 64)) then 0 else 1 else E0
theorem joinOk_succ (l : List Int) (k n : Nat) (hl : l.length = n * 64) (hk : k < n) : joinOk (l.take ((k + 1) * 64)) = (joinOk (l.take (k * 64)) && joinOk (seg l 64 k)) := by
  have : l.take ((k + 1) * 64) = l.take (k * 64) ++ seg l 64 k := by
    unfold seg; rw [← List.take_add]; congr 1; omega
  rw [this]; unfold joinOk allIn; simp
theorem joinE1_good {E0 : Int} {l : List Int} {k n : Nat} (h : 0 = joinE1 E0 l k) (hl : l.length = n * 64) (hk : k < n) (hs : joinOk (seg l 64 k) = true) : 0 = joinE1 E0 l (k + 1) := by
  unfold joinE1 at *
  rw [joinOk_succ l k n hl hk, hs, Bool.and_true]
  exact h
theorem joinE1_bad {E0 : Int} {l : List Int} {k n : Nat} (h : 0 = joinE1 E0 l k) (hl : l.length = n * 64) (hk : k < n) (hs : joinOk (seg l 64 k) = false) : 1 = joinE1 E0 l (k + 1) := by
  unfold joinE1 at *
  rw [joinOk_succ l k n hl hk, hs, Bool.and_false]
  split at h
  · rename_i h0; rw [if_pos h0]; rfl
  · rename_i h0; exact absurd h.symm h0
theorem joinE1_keep {E0 E : Int} {l : List Int} {k n : Nat} (h : E = joinE1 E0 l k) (h0 : E ≠ 0) (hl : l.length = n * 64) (hk : k < n) : E = joinE1 E0 l (k + 1) := by
  unfold joinE1 at *
  rw [joinOk_succ l k n hl hk]
  split at h
  · rename_i h1
    rw [if_pos h1]
    split at h
    · exact absurd h h0
    · rename_i h2; rw [h]; rw [if_neg]; simp [h2]
  · rename_i h1; rw [if_neg h1]; exact h
theorem joinE_zero {l : List Int} {n : Nat} {m h : Int} (h0 : joinE l n m h = 0) : (1 ≤ m ∧ m ≤ 64 ∧ 1 ≤ h ∧ h ≤ 64) ∧ n = manyN m h ∧ joinOk l = true := by
  unfold joinE at h0
  split at h0
  · rename_i h1
    split at h0
    · rename_i h2
      split at h0
      · rename_i h3; exact ⟨h1, h2, h3⟩
      · exact absurd h0 (by decide)
    · exact absurd h0 (by decide)
  · exact absurd h0 (by decide)
def JoinGives (w0 : World) (l : List Int) (n : Nat) (m h : Int) (e : Ending) (w : World) : Prop :=
  ∃ ad c, e = .returned (.tuple #[.slice ad (if joinE l n m h = 0 then (m * h).toNat else 0) c, .int .i64 (joinE l n m h)]) ∧ St w0 w [own 3 1 ad (if joinE l n m h = 0 then (m * h).toNat else 0) c ((if joinE l n m h = 0 then joinL l m h else []).map (Value.int .i64))]
theorem join_no {w0 w : World} {l : List Int} {n : Nat} {m h : Int} (E : Int) (h1 : joinE l n m h = E) (h2 : E ≠ 0) (hE : Ext w0 w) : JoinGives w0 l n m h (.returned (.tuple #[.slice none 0 0, .int .i64 E])) w := by
  refine ⟨none, 0, ?_, ?_⟩
  · rw [h1, if_neg h2]
  · rw [if_neg (by rw [h1]; exact h2), if_neg (by rw [h1]; exact h2)]; exact (St.of_ext hE).nil _ _
set_option maxRecDepth 100000 in
set_option maxHeartbeats 4000000 in
theorem join_bad (w0 : World) (ad : Option Addr) (n c : Nat) (l : List Int) (m h : Int) (hm64 : -9223372036854775808 ≤ m ∧ m ≤ 9223372036854775807) (hn : n ≤ 9223372036854775807) (hv : Sl w0 64 (.slice ad n c) n (l.map (Value.int .i64))) (hbad : joinE l n m h ≠ 0) :
    Calls Try.prog 16 #[.slice ad n c, .int .i64 m, .int .i64 h] w0 (JoinGives w0 l n m h) := by
  have hl : l.length = n * 64 := by have := hv.1; simpa using this
  have hS := St.start w0
  have HL := hid hl
  clear hl
  have hEx : joinE l n m h = joinE1 (joinE0 n m h) l n := by
    unfold joinE joinE1 joinE0
    rw [show l.take (n * 64) = l by rw [← HL.out]; exact List.take_length]
    by_cases h1 : 1 ≤ m ∧ m ≤ 64 ∧ 1 ≤ h ∧ h ≤ 64
    · simp only [if_pos h1]
      by_cases h2 : n = manyN m h
      · simp only [if_pos h2, if_true]
      · simp only [if_neg h2]; rfl
    · simp only [if_neg h1]; rfl
  have HEx := hid hEx
  clear hEx
  obtain ⟨A, hA⟩ : ∃ A : Int, (if 1 ≤ m ∧ m ≤ 64 ∧ 1 ≤ h ∧ h ≤ 64 then 0 else 1) = A := ⟨_, rfl⟩
  have HA := hid hA
  have hA3 : A = 0 ∧ joinE0 n m h = 0 ∧ (1 ≤ m ∧ m ≤ 64 ∧ 1 ≤ h ∧ h ≤ 64) ∧ n = manyN m h ∨ A = 0 ∧ joinE0 n m h = 4 ∧ (1 ≤ m ∧ m ≤ 64 ∧ 1 ≤ h ∧ h ≤ 64) ∧ n ≠ manyN m h ∨ A = 1 ∧ joinE0 n m h = 1 ∧ True ∧ True := by
    unfold joinE0
    by_cases h1 : 1 ≤ m ∧ m ≤ 64 ∧ 1 ≤ h ∧ h ≤ 64
    · rw [if_pos h1] at hA
      rw [if_pos h1]
      by_cases h2 : n = manyN m h
      · rw [if_pos h2]; exact .inl ⟨hA.symm, rfl, h1, h2⟩
      · rw [if_neg h2]; exact .inr (.inl ⟨hA.symm, rfl, h1, h2⟩)
    · rw [if_neg h1] at hA
      rw [if_neg h1]; exact .inr (.inr ⟨hA.symm, rfl, trivial, trivial⟩)
  clear hA
  have hK : ∀ (h1 : 1 ≤ m ∧ m ≤ 64 ∧ 1 ≤ h ∧ h ≤ 64), (m + 7) / 8 * ((h + 7) / 8) = ((manyN m h : Nat) : Int) ∧ manyN m h ≤ 64 := fun h1 => by
    obtain ⟨kk0, kk1⟩ := mulb ((m + 7) / 8) ((h + 7) / 8) 8 8 (by omega) (by omega)
    have kk2 : 0 ≤ ((m + 7) / 8) * ((h + 7) / 8) := Int.mul_nonneg (by omega) (by omega)
    unfold manyN; omega
  rcases hA3 with ⟨a1, a2, a3, a4⟩ | ⟨a1, a2, a3, a4⟩ | ⟨a1, a2, a3, a4⟩
  all_goals
    try (have hKK := hK a3; obtain ⟨hK1, hK2⟩ := hKK)
    clear hK
    subst a1
    have H0 := hid a2
    clear a2
    go_enter Try.func16, Try.ntmps16
    repeat' (first
      | ((with_reducible show wpList _ _ _ (⟨_, .call ⟨.value (.func 32), _, _⟩, _, _, _, _⟩ :: _) _ _); refine wpl_call (f := 32) Try.call32 rfl ?_; refine ⟨_, (check_any _ m h), ?_⟩; rintro e w ⟨rfl, hE⟩; replace hS := hS.ext hE; clear hE; rw [HA.out]; refine ⟨_, rfl, ?_⟩; refine put_move ?_; go_step)
      | ((with_reducible show wpList _ _ _ (⟨_, .call ⟨.value (.func 33), _, _⟩, _, _, _, _⟩ :: _) _ _); refine wpl_call (f := 33) Try.call33 rfl ?_; refine ⟨_, (many_any _ m h (by omega) (by omega)), ?_⟩; rintro e w ⟨rfl, hE⟩; replace hS := hS.ext hE; clear hE; rw [hK1]; refine ⟨_, rfl, ?_⟩; refine put_move ?_; go_step)
      | go_skip
      | go_big_skip
      | ((with_reducible show wpList _ _ _ (⟨_, .move _, _, _, _, _⟩ :: _) _ _); (first | go_big_want | go_step); go_step)
      | ((with_reducible show wpList _ _ _ (⟨_, .assign _, _, _, _, _⟩ :: _) _ _); (first | go_big_want | go_step); go_step)
      | ((with_reducible show wpList _ _ _ (⟨_, .pick _ _ _, _, _, _, _⟩ :: _) _ _); first | (refine wplPickT rfl (by kernel_rfl) ?_; go_step) | (refine wplPickF rfl (by kernel_rfl) ?_; go_step))
      | ((with_reducible show wpList _ _ _ (⟨some 25, .binOp .eql 25 _ _ _, _, _, _, _⟩ :: _) _ _); first | (refine wplD _ (V.eql rfl rfl) (by kernel_rfl) (fun hB => ?_) (fun hB => ?_) <;> (try (have hF : False := (by omega); cases hF)) <;> go_step) | (refine wplB _ (V.eql rfl rfl) (by kernel_rfl) (fun hB => ?_) (fun hB => ?_) <;> go_step))
      | ((with_reducible show wpList _ _ _ (⟨some 21, .build 59 _, _, _, _, _⟩ :: _) _ _); first | (refine wplV _ (V.build (vs := [(0, _), (1, _)]) rfl (bl59_0_1 _ _)) (by kernel_rfl) ?_; go_step))
      | ((with_reducible show wpList _ _ _ (⟨_, .call ⟨.builtin .len, _, _⟩, _, _, _, _⟩ :: _) _ _); first | (refine wplV _ (V.len Try.underlying22 rfl) (by kernel_rfl) ?_; go_step))
      | ((with_reducible show wpList _ _ _ (⟨_, .binOp .neq 3 _ _ _, _, _, _, _⟩ :: _) _ _); first | (refine wplV _ (V.neq rfl rfl) (by kernel_rfl) ?_; go_step))
      | ((with_reducible show wpList _ _ _ (⟨some 8, .alloc 59, _, _, _, _⟩ :: _) _ _); first | (refine wpl (by kernel_rfl) ?_; apply wp_alloc (o := ⟨some 8, _, _, _, _, _⟩) hS 59 rfl (.agg #[.int .i64 0, .int .i64 0]) [.int .i64 0, .int .i64 0] (fun w => Try.zeroValue59 w) rfl; clear hS; intro g8 w hS; refine put_move ?_; go_step))
      | ((with_reducible show wpList _ _ _ (⟨_, .store 59 _ _, _, _, _, _⟩ :: _) _ _); first | (refine wpl (by kernel_rfl) ?_; apply wp_storeA hS 59 _ _ rfl _ rfl 2 (row_of rfl) _ _; (case hp => (repeat (first | with_reducible exact Pull.head | apply Pull.tail))); (case hy => rfl); (case hm => assumption); (case hd => exact rfl); clear hS; intro w hS) | (refine wpl (by kernel_rfl) ?_; apply wp_storeG hS 59 _ _ rfl _ rfl 2 (row_of rfl) _ _; (case hp => (repeat (first | with_reducible exact Pull.head | apply Pull.tail))); (case hy => rfl); (case hn => rfl); (case hn' => rfl); (case hv => rfl); (case hd => exact rfl); clear hS; intro w hS))
      | ((with_reducible show wpList _ _ _ (⟨_, .load 59 _, _, _, _, _⟩ :: _) _ _); first | (refine wpl (by kernel_rfl) ?_; apply wp_loadRI hS 59 _ rfl _ _ rfl 2 (row_of rfl) _; (case hl => with_reducible assumption); (case hr => with_reducible assumption); refine put_move ?_; go_step) | (refine wpl (by kernel_rfl) ?_; apply wp_loadRO hS 59 _ rfl _ _ rfl 2 (row_of rfl) _ _ _ _ _; (case hp => (repeat (first | with_reducible exact Pull.head | apply Pull.tail))); (case hi => omega); refine put_move ?_; go_step) | (refine wpl (by kernel_rfl) ?_; apply wp_loadA hS 59 _ rfl _ rfl 2 (row_of rfl) _; (case hp => (repeat (first | with_reducible exact Pull.head | apply Pull.tail))); refine put_move ?_; go_step) | (refine wpl (by kernel_rfl) ?_; apply wp_loadG hS 59 _ rfl _ rfl 2 (row_of rfl) _; (case hp => (repeat (first | with_reducible exact Pull.head | apply Pull.tail))); (case hn => rfl); refine put_move ?_; go_step) | (refine wpl (by kernel_rfl) ?_; apply wp_loadRW hS 59 _ rfl _ _ rfl 2 (row_of rfl) _; (case hc => with_reducible assumption); (case hn => rfl); refine put_move ?_; go_step))
      | ((fail_if_success (with_reducible show wpList _ _ _ (_ :: _) _ _)); go_step))
    go_loopg [9, 35] n (fun gk ev kv w => ∃ (k : Nat) (E : Int), gk + k = n ∧ kv = .int .i64 k ∧ ev = .int .i64 E ∧ E = joinE1 (joinE0 n m h) l k ∧ St w0 w [blk g8 [.int .i64 m, .int .i64 h]])
    case atStart => exact ⟨0, _, rfl, rfl, rfl, by rw [H0.out]; simp [joinE1, joinOk, allIn], hS.sub (by (repeat (first | exact Sub.nil | with_reducible exact Sub.refl | (refine Sub.cons (by (repeat (first | with_reducible exact Pull.head | apply Pull.tail))) ?_) | apply Sub.skip)))⟩
    case round =>
      clear hS
      obtain ⟨k, E, hk, rfl, rfl, hE, hS⟩ := hrel
      have HE := hid hE
      clear hE
      by_cases hlt : k < n
      · have ls : Len (seg l 64 k) 64 := seg_len l 64 k n HL.out hlt
        have HN := hid (joinOk_succ l k n HL.out hlt)
        by_cases hz : E = 0
        · subst hz
          cases hb : joinOk (seg l 64 k)
          all_goals
            have HB := hid hb
            clear hb
            repeat' (first
              | ((with_reducible show wpList _ _ _ (⟨_, .call ⟨.value (.func 34), _, _⟩, _, _, _, _⟩ :: _) _ _); refine wpl_call (f := 34) Try.call34 rfl ?_; refine ⟨_, (containsFunc_any _ _ (seg l 64 k) (hS.isl (by (repeat (first | with_reducible exact Pull.head | apply Pull.tail))) (by omega)) 35 #[] (fun n => decide (n < -40000) || decide (40000 < n)) Try.call35 (fun n => join1_any n _)), ?_⟩; rintro e w' ⟨rfl, rfl⟩; rw [any_joinOk, HB.out]; refine ⟨_, rfl, ?_⟩; refine put_move ?_; go_step)
              | go_skip
              | go_big_skip
              | ((with_reducible show wpList _ _ _ (⟨_, .move _, _, _, _, _⟩ :: _) _ _); (first | go_big_want | go_step); go_step)
              | ((with_reducible show wpList _ _ _ (⟨_, .assign _, _, _, _, _⟩ :: _) _ _); (first | go_big_want | go_step); go_step)
              | ((with_reducible show wpList _ _ _ (⟨_, .pick _ _ _, _, _, _, _⟩ :: _) _ _); first | (refine wplPickT rfl (by kernel_rfl) ?_; go_step) | (refine wplPickF rfl (by kernel_rfl) ?_; go_step))
              | ((with_reducible show wpList _ _ _ (⟨some 40, .binOp .eql 25 _ _ _, _, _, _, _⟩ :: _) _ _); first | (refine wplD _ (V.eql rfl rfl) (by kernel_rfl) (fun hB => ?_) (fun hB => ?_) <;> (try (have hF : False := (by omega); cases hF)) <;> go_step) | (refine wplB _ (V.eql rfl rfl) (by kernel_rfl) (fun hB => ?_) (fun hB => ?_) <;> go_step))
              | ((with_reducible show wpList _ _ _ (⟨_, .binOp .lss _ _ _ _, _, _, _, _⟩ :: _) _ _); first | (refine wplV _ (V.lss rfl rfl) (by kernel_rfl) ?_; go_step))
              | ((with_reducible show wpList _ _ _ (⟨some 37, .indexAddr 22 _ _, _, _, _, _⟩ :: _) _ _); first | (refine wplV _ (V.indexSl Try.underlying22 isz31 rfl rfl (by (repeat (first | exact IsN.auto | apply IsN.add | apply IsN.mul | apply IsN.div | apply IsN.mod | apply IsN.min | apply IsN.max | apply IsN.sub | (with_reducible show (_ : Nat) ≤ _; omega) | exact IsN.toNat (by omega)))) (by omega) rfl (by first | with_reducible exact Nat.zero_add _ | with_reducible exact Nat.add_zero _ | exact rfl)) (by kernel_rfl) ?_; go_step) | (refine wpl_indexS (by with_reducible assumption) Try.underlying22 isz31 rfl rfl (by (repeat (first | exact IsN.auto | apply IsN.add | apply IsN.mul | apply IsN.div | apply IsN.mod | apply IsN.min | apply IsN.max | apply IsN.sub | (with_reducible show (_ : Nat) ≤ _; omega) | exact IsN.toNat (by omega)))) (by omega) rfl ?_; intro b37 o37 hl37 hc37; go_step) | (refine wpl_indexW (by with_reducible assumption) Try.underlying22 isz31 rfl rfl (by (repeat (first | exact IsN.auto | apply IsN.add | apply IsN.mul | apply IsN.div | apply IsN.mod | apply IsN.min | apply IsN.max | apply IsN.sub | (with_reducible show (_ : Nat) ≤ _; omega) | exact IsN.toNat (by omega)))) (by omega) rfl ?_; intro b37 o37 hc37; go_step) | (refine wpl_indexO hS rfl (by (repeat (first | with_reducible exact Pull.head | apply Pull.tail))) Try.underlying22 isz31 rfl (by (repeat (first | exact IsN.auto | apply IsN.add | apply IsN.mul | apply IsN.div | apply IsN.mod | apply IsN.min | apply IsN.max | apply IsN.sub | (with_reducible show (_ : Nat) ≤ _; omega) | exact IsN.toNat (by omega)))) (by omega) rfl rfl ?_; (first | (rintro b37 rfl) | (intro b37 hb37; cases hb37)); go_step))
              | ((with_reducible show wpList _ _ _ (⟨_, .slice 31 _ _ _ _, _, _, _, _⟩ :: _) _ _); first | (refine wplV _ (V.sliceA Try.underlying31 isz3 rfl (by (first | exact Lo.none | exact Lo.some rfl (by (repeat (first | exact IsN.auto | apply IsN.add | apply IsN.mul | apply IsN.div | apply IsN.mod | apply IsN.min | apply IsN.max | apply IsN.sub | (with_reducible show (_ : Nat) ≤ _; omega) | exact IsN.toNat (by omega)))))) (by (first | exact Up.none | exact Up.some rfl (by (repeat (first | exact IsN.auto | apply IsN.add | apply IsN.mul | apply IsN.div | apply IsN.mod | apply IsN.min | apply IsN.max | apply IsN.sub | (with_reducible show (_ : Nat) ≤ _; omega) | exact IsN.toNat (by omega)))))) (by omega) (by omega) (by omega) rfl rfl rfl) (by kernel_rfl) ?_; go_step))
              | ((with_reducible show wpList _ _ _ (⟨_, .binOp .add _ _ _ _, _, _, _, _⟩ :: _) _ _); first | (refine wplV _ (V.addI rfl rfl (by omega)) (by kernel_rfl) ?_; go_step) | (refine wplV _ (V.addR (by decide) rfl rfl) (by kernel_rfl) ?_; go_step))
              | ((with_reducible show wpList _ _ _ (⟨_, .load 31 _, _, _, _, _⟩ :: _) _ _); first | (refine wpl (by kernel_rfl) ?_; apply wp_loadRI hS 31 _ rfl _ _ rfl 64 (row_of rfl) _; (case hl => with_reducible assumption); (case hr => with_reducible assumption); refine put_move ?_; go_step) | (refine wpl (by kernel_rfl) ?_; apply wp_loadRO hS 31 _ rfl _ _ rfl 64 (row_of rfl) _ _ _ _ _; (case hp => (repeat (first | with_reducible exact Pull.head | apply Pull.tail))); (case hi => omega); refine put_move ?_; go_step) | (refine wpl (by kernel_rfl) ?_; apply wp_loadA hS 31 _ rfl _ rfl 64 (row_of rfl) _; (case hp => (repeat (first | with_reducible exact Pull.head | apply Pull.tail))); refine put_move ?_; go_step) | (refine wpl (by kernel_rfl) ?_; apply wp_loadG hS 31 _ rfl _ rfl 64 (row_of rfl) _; (case hp => (repeat (first | with_reducible exact Pull.head | apply Pull.tail))); (case hn => rfl); refine put_move ?_; go_step) | (refine wpl (by kernel_rfl) ?_; apply wp_loadRW hS 31 _ rfl _ _ rfl 64 (row_of rfl) _; (case hc => with_reducible assumption); (case hn => rfl); refine put_move ?_; go_step))
              | ((with_reducible show wpList _ _ _ (⟨some 11, .alloc 31, _, _, _, _⟩ :: _) _ _); first | (refine wpl (by kernel_rfl) ?_; apply wp_allocA (o := ⟨some 11, _, _, _, _, _⟩) hS 31 rfl (List.replicate 64 0) 64 List.length_replicate za31; clear hS; intro g11 w hS; refine put_move ?_; go_step))
              | ((with_reducible show wpList _ _ _ (⟨_, .store 31 _ _, _, _, _, _⟩ :: _) _ _); first | (refine wpl (by kernel_rfl) ?_; apply wp_storeA hS 31 _ _ rfl _ rfl 64 (row_of rfl) _ _; (case hp => (repeat (first | with_reducible exact Pull.head | apply Pull.tail))); (case hy => rfl); (case hm => assumption); (case hd => exact rfl); clear hS; intro w hS) | (refine wpl (by kernel_rfl) ?_; apply wp_storeG hS 31 _ _ rfl _ rfl 64 (row_of rfl) _ _; (case hp => (repeat (first | with_reducible exact Pull.head | apply Pull.tail))); (case hy => rfl); (case hn => rfl); (case hn' => rfl); (case hv => rfl); (case hd => exact rfl); clear hS; intro w hS))
              | ((fail_if_success (with_reducible show wpList _ _ _ (_ :: _) _ _)); go_step))
            all_goals
              go_roundg (gk - 1)
              case measure => omega
              case rel =>
                exact ⟨k + 1, _, by omega, by go_num, rfl, by first | exact joinE1_good HE.out HL.out hlt HB.out | exact joinE1_bad HE.out HL.out hlt HB.out, hS.sub (by (repeat (first | exact Sub.nil | with_reducible exact Sub.refl | (refine Sub.cons (by (repeat (first | with_reducible exact Pull.head | apply Pull.tail))) ?_) | apply Sub.skip)))⟩
        · skip
          repeat' (first
            | go_skip
            | go_big_skip
            | ((with_reducible show wpList _ _ _ (⟨_, .move _, _, _, _, _⟩ :: _) _ _); (first | go_big_want | go_step); go_step)
            | ((with_reducible show wpList _ _ _ (⟨_, .assign _, _, _, _, _⟩ :: _) _ _); (first | go_big_want | go_step); go_step)
            | ((with_reducible show wpList _ _ _ (⟨_, .pick _ _ _, _, _, _, _⟩ :: _) _ _); first | (refine wplPickT rfl (by kernel_rfl) ?_; go_step) | (refine wplPickF rfl (by kernel_rfl) ?_; go_step))
            | ((with_reducible show wpList _ _ _ (⟨some 40, .binOp .eql 25 _ _ _, _, _, _, _⟩ :: _) _ _); first | (refine wplD _ (V.eql rfl rfl) (by kernel_rfl) (fun hB => ?_) (fun hB => ?_) <;> (try (have hF : False := (by omega); cases hF)) <;> go_step) | (refine wplB _ (V.eql rfl rfl) (by kernel_rfl) (fun hB => ?_) (fun hB => ?_) <;> go_step))
            | ((with_reducible show wpList _ _ _ (⟨_, .binOp .lss _ _ _ _, _, _, _, _⟩ :: _) _ _); first | (refine wplV _ (V.lss rfl rfl) (by kernel_rfl) ?_; go_step))
            | ((with_reducible show wpList _ _ _ (⟨some 37, .indexAddr 22 _ _, _, _, _, _⟩ :: _) _ _); first | (refine wplV _ (V.indexSl Try.underlying22 isz31 rfl rfl (by (repeat (first | exact IsN.auto | apply IsN.add | apply IsN.mul | apply IsN.div | apply IsN.mod | apply IsN.min | apply IsN.max | apply IsN.sub | (with_reducible show (_ : Nat) ≤ _; omega) | exact IsN.toNat (by omega)))) (by omega) rfl (by first | with_reducible exact Nat.zero_add _ | with_reducible exact Nat.add_zero _ | exact rfl)) (by kernel_rfl) ?_; go_step) | (refine wpl_indexS (by with_reducible assumption) Try.underlying22 isz31 rfl rfl (by (repeat (first | exact IsN.auto | apply IsN.add | apply IsN.mul | apply IsN.div | apply IsN.mod | apply IsN.min | apply IsN.max | apply IsN.sub | (with_reducible show (_ : Nat) ≤ _; omega) | exact IsN.toNat (by omega)))) (by omega) rfl ?_; intro b37 o37 hl37 hc37; go_step) | (refine wpl_indexW (by with_reducible assumption) Try.underlying22 isz31 rfl rfl (by (repeat (first | exact IsN.auto | apply IsN.add | apply IsN.mul | apply IsN.div | apply IsN.mod | apply IsN.min | apply IsN.max | apply IsN.sub | (with_reducible show (_ : Nat) ≤ _; omega) | exact IsN.toNat (by omega)))) (by omega) rfl ?_; intro b37 o37 hc37; go_step) | (refine wpl_indexO hS rfl (by (repeat (first | with_reducible exact Pull.head | apply Pull.tail))) Try.underlying22 isz31 rfl (by (repeat (first | exact IsN.auto | apply IsN.add | apply IsN.mul | apply IsN.div | apply IsN.mod | apply IsN.min | apply IsN.max | apply IsN.sub | (with_reducible show (_ : Nat) ≤ _; omega) | exact IsN.toNat (by omega)))) (by omega) rfl rfl ?_; (first | (rintro b37 rfl) | (intro b37 hb37; cases hb37)); go_step))
            | ((with_reducible show wpList _ _ _ (⟨_, .slice 31 _ _ _ _, _, _, _, _⟩ :: _) _ _); first | (refine wplV _ (V.sliceA Try.underlying31 isz3 rfl (by (first | exact Lo.none | exact Lo.some rfl (by (repeat (first | exact IsN.auto | apply IsN.add | apply IsN.mul | apply IsN.div | apply IsN.mod | apply IsN.min | apply IsN.max | apply IsN.sub | (with_reducible show (_ : Nat) ≤ _; omega) | exact IsN.toNat (by omega)))))) (by (first | exact Up.none | exact Up.some rfl (by (repeat (first | exact IsN.auto | apply IsN.add | apply IsN.mul | apply IsN.div | apply IsN.mod | apply IsN.min | apply IsN.max | apply IsN.sub | (with_reducible show (_ : Nat) ≤ _; omega) | exact IsN.toNat (by omega)))))) (by omega) (by omega) (by omega) rfl rfl rfl) (by kernel_rfl) ?_; go_step))
            | ((with_reducible show wpList _ _ _ (⟨_, .binOp .add _ _ _ _, _, _, _, _⟩ :: _) _ _); first | (refine wplV _ (V.addI rfl rfl (by omega)) (by kernel_rfl) ?_; go_step) | (refine wplV _ (V.addR (by decide) rfl rfl) (by kernel_rfl) ?_; go_step))
            | ((with_reducible show wpList _ _ _ (⟨_, .load 31 _, _, _, _, _⟩ :: _) _ _); first | (refine wpl (by kernel_rfl) ?_; apply wp_loadRI hS 31 _ rfl _ _ rfl 64 (row_of rfl) _; (case hl => with_reducible assumption); (case hr => with_reducible assumption); refine put_move ?_; go_step) | (refine wpl (by kernel_rfl) ?_; apply wp_loadRO hS 31 _ rfl _ _ rfl 64 (row_of rfl) _ _ _ _ _; (case hp => (repeat (first | with_reducible exact Pull.head | apply Pull.tail))); (case hi => omega); refine put_move ?_; go_step) | (refine wpl (by kernel_rfl) ?_; apply wp_loadA hS 31 _ rfl _ rfl 64 (row_of rfl) _; (case hp => (repeat (first | with_reducible exact Pull.head | apply Pull.tail))); refine put_move ?_; go_step) | (refine wpl (by kernel_rfl) ?_; apply wp_loadG hS 31 _ rfl _ rfl 64 (row_of rfl) _; (case hp => (repeat (first | with_reducible exact Pull.head | apply Pull.tail))); (case hn => rfl); refine put_move ?_; go_step) | (refine wpl (by kernel_rfl) ?_; apply wp_loadRW hS 31 _ rfl _ _ rfl 64 (row_of rfl) _; (case hc => with_reducible assumption); (case hn => rfl); refine put_move ?_; go_step))
            | ((with_reducible show wpList _ _ _ (⟨some 11, .alloc 31, _, _, _, _⟩ :: _) _ _); first | (refine wpl (by kernel_rfl) ?_; apply wp_allocA (o := ⟨some 11, _, _, _, _, _⟩) hS 31 rfl (List.replicate 64 0) 64 List.length_replicate za31; clear hS; intro g11 w hS; refine put_move ?_; go_step))
            | ((with_reducible show wpList _ _ _ (⟨_, .store 31 _ _, _, _, _, _⟩ :: _) _ _); first | (refine wpl (by kernel_rfl) ?_; apply wp_storeA hS 31 _ _ rfl _ rfl 64 (row_of rfl) _ _; (case hp => (repeat (first | with_reducible exact Pull.head | apply Pull.tail))); (case hy => rfl); (case hm => assumption); (case hd => exact rfl); clear hS; intro w hS) | (refine wpl (by kernel_rfl) ?_; apply wp_storeG hS 31 _ _ rfl _ rfl 64 (row_of rfl) _ _; (case hp => (repeat (first | with_reducible exact Pull.head | apply Pull.tail))); (case hy => rfl); (case hn => rfl); (case hn' => rfl); (case hv => rfl); (case hd => exact rfl); clear hS; intro w hS))
            | ((fail_if_success (with_reducible show wpList _ _ _ (_ :: _) _ _)); go_step))
          go_roundg (gk - 1)
          case measure => omega
          case rel => exact ⟨k + 1, _, by omega, by go_num, rfl, joinE1_keep HE.out hz HL.out hlt, hS.sub (by (repeat (first | exact Sub.nil | with_reducible exact Sub.refl | (refine Sub.cons (by (repeat (first | with_reducible exact Pull.head | apply Pull.tail))) ?_) | apply Sub.skip)))⟩
      · obtain rfl : k = n := by omega
        have hE := HE.out.trans HEx.out.symm
        clear HE
        have hz : E ≠ 0 := by rw [hE]; exact hbad
        have HJ := hid hE
        clear hE
        repeat' (first
          | go_skip
          | go_big_skip
          | ((with_reducible show wpList _ _ _ (⟨_, .move _, _, _, _, _⟩ :: _) _ _); (first | go_big_want | go_step); go_step)
          | ((with_reducible show wpList _ _ _ (⟨_, .assign _, _, _, _, _⟩ :: _) _ _); (first | go_big_want | go_step); go_step)
          | ((with_reducible show wpList _ _ _ (⟨_, .pick _ _ _, _, _, _, _⟩ :: _) _ _); first | (refine wplPickT rfl (by kernel_rfl) ?_; go_step) | (refine wplPickF rfl (by kernel_rfl) ?_; go_step))
          | ((with_reducible show wpList _ _ _ (⟨some 40, .binOp .eql 25 _ _ _, _, _, _, _⟩ :: _) _ _); first | (refine wplD _ (V.eql rfl rfl) (by kernel_rfl) (fun hB => ?_) (fun hB => ?_) <;> (try (have hF : False := (by omega); cases hF)) <;> go_step) | (refine wplB _ (V.eql rfl rfl) (by kernel_rfl) (fun hB => ?_) (fun hB => ?_) <;> go_step))
          | ((with_reducible show wpList _ _ _ (⟨_, .binOp .lss _ _ _ _, _, _, _, _⟩ :: _) _ _); first | (refine wplV _ (V.lss rfl rfl) (by kernel_rfl) ?_; go_step))
          | ((with_reducible show wpList _ _ _ (⟨some 37, .indexAddr 22 _ _, _, _, _, _⟩ :: _) _ _); first | (refine wplV _ (V.indexSl Try.underlying22 isz31 rfl rfl (by (repeat (first | exact IsN.auto | apply IsN.add | apply IsN.mul | apply IsN.div | apply IsN.mod | apply IsN.min | apply IsN.max | apply IsN.sub | (with_reducible show (_ : Nat) ≤ _; omega) | exact IsN.toNat (by omega)))) (by omega) rfl (by first | with_reducible exact Nat.zero_add _ | with_reducible exact Nat.add_zero _ | exact rfl)) (by kernel_rfl) ?_; go_step) | (refine wpl_indexS (by with_reducible assumption) Try.underlying22 isz31 rfl rfl (by (repeat (first | exact IsN.auto | apply IsN.add | apply IsN.mul | apply IsN.div | apply IsN.mod | apply IsN.min | apply IsN.max | apply IsN.sub | (with_reducible show (_ : Nat) ≤ _; omega) | exact IsN.toNat (by omega)))) (by omega) rfl ?_; intro b37 o37 hl37 hc37; go_step) | (refine wpl_indexW (by with_reducible assumption) Try.underlying22 isz31 rfl rfl (by (repeat (first | exact IsN.auto | apply IsN.add | apply IsN.mul | apply IsN.div | apply IsN.mod | apply IsN.min | apply IsN.max | apply IsN.sub | (with_reducible show (_ : Nat) ≤ _; omega) | exact IsN.toNat (by omega)))) (by omega) rfl ?_; intro b37 o37 hc37; go_step) | (refine wpl_indexO hS rfl (by (repeat (first | with_reducible exact Pull.head | apply Pull.tail))) Try.underlying22 isz31 rfl (by (repeat (first | exact IsN.auto | apply IsN.add | apply IsN.mul | apply IsN.div | apply IsN.mod | apply IsN.min | apply IsN.max | apply IsN.sub | (with_reducible show (_ : Nat) ≤ _; omega) | exact IsN.toNat (by omega)))) (by omega) rfl rfl ?_; (first | (rintro b37 rfl) | (intro b37 hb37; cases hb37)); go_step))
          | ((with_reducible show wpList _ _ _ (⟨_, .slice 31 _ _ _ _, _, _, _, _⟩ :: _) _ _); first | (refine wplV _ (V.sliceA Try.underlying31 isz3 rfl (by (first | exact Lo.none | exact Lo.some rfl (by (repeat (first | exact IsN.auto | apply IsN.add | apply IsN.mul | apply IsN.div | apply IsN.mod | apply IsN.min | apply IsN.max | apply IsN.sub | (with_reducible show (_ : Nat) ≤ _; omega) | exact IsN.toNat (by omega)))))) (by (first | exact Up.none | exact Up.some rfl (by (repeat (first | exact IsN.auto | apply IsN.add | apply IsN.mul | apply IsN.div | apply IsN.mod | apply IsN.min | apply IsN.max | apply IsN.sub | (with_reducible show (_ : Nat) ≤ _; omega) | exact IsN.toNat (by omega)))))) (by omega) (by omega) (by omega) rfl rfl rfl) (by kernel_rfl) ?_; go_step))
          | ((with_reducible show wpList _ _ _ (⟨_, .binOp .add _ _ _ _, _, _, _, _⟩ :: _) _ _); first | (refine wplV _ (V.addI rfl rfl (by omega)) (by kernel_rfl) ?_; go_step) | (refine wplV _ (V.addR (by decide) rfl rfl) (by kernel_rfl) ?_; go_step))
          | ((with_reducible show wpList _ _ _ (⟨_, .binOp .neq 25 _ _ _, _, _, _, _⟩ :: _) _ _); first | (refine wplV _ (V.neq rfl rfl) (by kernel_rfl) ?_; go_step))
          | ((with_reducible show wpList _ _ _ (⟨_, .binOp .mul _ _ _ _, _, _, _, _⟩ :: _) _ _); first | (refine wplV _ (V.mulI rfl rfl (by omega)) (by kernel_rfl) ?_; go_step) | (refine wplV _ (V.mulR (by decide) rfl rfl) (by kernel_rfl) ?_; go_step))
          | ((with_reducible show wpList _ _ _ (⟨_, .call ⟨.builtin .len, _, _⟩, _, _, _, _⟩ :: _) _ _); first | (refine wplV _ (V.len Try.underlying22 rfl) (by kernel_rfl) ?_; go_step))
          | ((with_reducible show wpList _ _ _ (⟨_, .load 31 _, _, _, _, _⟩ :: _) _ _); first | (refine wpl (by kernel_rfl) ?_; apply wp_loadRI hS 31 _ rfl _ _ rfl 64 (row_of rfl) _; (case hl => with_reducible assumption); (case hr => with_reducible assumption); refine put_move ?_; go_step) | (refine wpl (by kernel_rfl) ?_; apply wp_loadRO hS 31 _ rfl _ _ rfl 64 (row_of rfl) _ _ _ _ _; (case hp => (repeat (first | with_reducible exact Pull.head | apply Pull.tail))); (case hi => omega); refine put_move ?_; go_step) | (refine wpl (by kernel_rfl) ?_; apply wp_loadA hS 31 _ rfl _ rfl 64 (row_of rfl) _; (case hp => (repeat (first | with_reducible exact Pull.head | apply Pull.tail))); refine put_move ?_; go_step) | (refine wpl (by kernel_rfl) ?_; apply wp_loadG hS 31 _ rfl _ rfl 64 (row_of rfl) _; (case hp => (repeat (first | with_reducible exact Pull.head | apply Pull.tail))); (case hn => rfl); refine put_move ?_; go_step) | (refine wpl (by kernel_rfl) ?_; apply wp_loadRW hS 31 _ rfl _ _ rfl 64 (row_of rfl) _; (case hc => with_reducible assumption); (case hn => rfl); refine put_move ?_; go_step))
          | ((with_reducible show wpList _ _ _ (⟨some 11, .alloc 31, _, _, _, _⟩ :: _) _ _); first | (refine wpl (by kernel_rfl) ?_; apply wp_allocA (o := ⟨some 11, _, _, _, _, _⟩) hS 31 rfl (List.replicate 64 0) 64 List.length_replicate za31; clear hS; intro g11 w hS; refine put_move ?_; go_step))
          | ((with_reducible show wpList _ _ _ (⟨_, .store 31 _ _, _, _, _, _⟩ :: _) _ _); first | (refine wpl (by kernel_rfl) ?_; apply wp_storeA hS 31 _ _ rfl _ rfl 64 (row_of rfl) _ _; (case hp => (repeat (first | with_reducible exact Pull.head | apply Pull.tail))); (case hy => rfl); (case hm => assumption); (case hd => exact rfl); clear hS; intro w hS) | (refine wpl (by kernel_rfl) ?_; apply wp_storeG hS 31 _ _ rfl _ rfl 64 (row_of rfl) _ _; (case hp => (repeat (first | with_reducible exact Pull.head | apply Pull.tail))); (case hy => rfl); (case hn => rfl); (case hn' => rfl); (case hv => rfl); (case hd => exact rfl); clear hS; intro w hS))
          | ((with_reducible show wpList _ _ _ (⟨some 52, .makeSlice 24 _ _, _, _, _, _⟩ :: _) _ _); first | (refine wpl (by kernel_rfl) ?_; apply wp_make (o := ⟨some 52, _, _, _, _, _⟩) hS 24 _ _ rfl _ _ _ _ elz24 _ _ _ _ _ _ rfl rfl; (case hi => (repeat (first | exact IsN.auto | apply IsN.add | apply IsN.mul | apply IsN.div | apply IsN.mod | apply IsN.min | apply IsN.max | apply IsN.sub | (with_reducible show (_ : Nat) ≤ _; omega) | exact IsN.toNat (by omega)))); (case hj => (repeat (first | exact IsN.auto | apply IsN.add | apply IsN.mul | apply IsN.div | apply IsN.mod | apply IsN.min | apply IsN.max | apply IsN.sub | (with_reducible show (_ : Nat) ≤ _; omega) | exact IsN.toNat (by omega)))); (case hnm => omega); (case hb => omega); (case h63 => unfold maxLen; omega); clear hS; intro g52 w hS; refine put_move ?_; go_step))
          | ((fail_if_success (with_reducible show wpList _ _ _ (_ :: _) _ _)); go_step))
        go_ret2
        exact join_no E HJ.out.symm hz hS.1
end Go.Proofs.Ytgnpppcljpjkjaa
