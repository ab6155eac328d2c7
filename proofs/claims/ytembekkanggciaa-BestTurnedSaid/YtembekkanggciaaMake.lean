/- The walk of best.Make: packages merged. -/
import Derived.Test.YtembekkanggciaaConcat
import Derived.Test.YtembekkanggciaaBestMath
import Derived.Test.YtembekkanggciaaContains
import Derived.Test.YtembekkanggciaaMap2
import Derived.Test.YtembekkanggciaaSplit0
namespace Go.Proofs.Ytembekkanggciaa
set_option maxRecDepth 100000
open Go.RowKit
set_option linter.unusedVariables false
theorem bcheckC_any (w : World) (n : Int) : Calls Try.prog 26 #[.int .i64 n] w fun e w' => e = .returned (.bool (decide (n < 0) || decide (9999 < n))) ∧ w = w' := by
  by_cases h : n < 0
  · have h2 : decide (n < 0) = true := by simpa using h
    rw [h2]
    go_enter Try.func26, Try.ntmps26
    go_wp2_with fail
    go_ret
    exact ⟨rfl, rfl⟩
  · have h2 : decide (n < 0) = false := by simpa using h
    rw [h2, Bool.false_or]
    have h3 : 0 ≤ n := by omega
    clear h
    go_enter Try.func26, Try.ntmps26
    go_wp2_with fail
    go_ret
    exact ⟨rfl, rfl⟩
/-- What best.check answers. -/
def bE (c : List Int) : Int := if 256 < c.length then 2 else if allIn c 0 9999 then 0 else 1
theorem bcheck_any (w0 : World) (c : List Int) (ad : Option Addr) (n cap : Nat) (hv : Sl w0 1 (.slice ad n cap) n (c.map (Value.int .i64))) (hn : n ≤ 9223372036854775807) :
    Calls Try.prog 18 #[.slice ad n cap] w0 fun e w => e = .returned (.int .i64 (bE c)) ∧ Ext w0 w := by
  have hl : c.length = n := by have := hv.1; simpa using this
  have hS := St.start w0
  have HC := hid (fun (w : World) (hE : Ext w0 w) => containsFunc_any w (.slice ad n cap) c (by unfold ISl; rw [hl]; exact hv.ext hE) 26 #[] (fun n => decide (n < 0) || decide (9999 < n)) Try.call26 (fun m => bcheckC_any w m))
  obtain ⟨B, hB⟩ : ∃ B, c.any (fun n => decide (n < 0) || decide (9999 < n)) = B := ⟨_, rfl⟩
  have hE : bE c = if 256 < n then 2 else if B then 1 else 0 := by
    unfold bE allIn; rw [hl, hB]
    cases B <;> rfl
  rw [hB] at HC
  rw [hE]
  clear hE hB hv
  by_cases h256 : 256 < n
  · rw [if_pos h256]
    go_enter Try.func18, Try.ntmps18
    repeat' (first
      | ((with_reducible show wpList _ _ _ (⟨_, .move _, _, _, _, _⟩ :: _) _ _); (first | go_big_want | go_step); go_step)
      | ((with_reducible show wpList _ _ _ (⟨_, .assign _, _, _, _, _⟩ :: _) _ _); (first | go_big_want | go_step); go_step)
      | ((with_reducible show wpList _ _ _ (⟨some 5, .call ⟨.builtin .len, _, _⟩, _, _, _, _⟩ :: _) _ _); (refine wplV _ (V.len Try.underlying23 rfl) (by kernel_rfl) ?_; go_step))
      | ((with_reducible show wpList _ _ _ (⟨some 6, .binOp .gtr _ _ _ _, _, _, _, _⟩ :: _) _ _); (refine wplV _ (V.gtr rfl rfl) (by kernel_rfl) ?_; go_step))
      | ((fail_if_success (with_reducible show wpList _ _ _ (_ :: _) _ _)); go_step))
    go_ret
    exact ⟨rfl, hS.1⟩
  · rw [if_neg h256]
    cases B with
    | true =>
      rw [if_pos rfl]
      go_enter Try.func18, Try.ntmps18
      repeat' (first
        | ((with_reducible show wpList _ _ _ (⟨_, .move _, _, _, _, _⟩ :: _) _ _); (first | go_big_want | go_step); go_step)
        | ((with_reducible show wpList _ _ _ (⟨_, .assign _, _, _, _, _⟩ :: _) _ _); (first | go_big_want | go_step); go_step)
        | ((with_reducible show wpList _ _ _ (⟨some 5, .call ⟨.builtin .len, _, _⟩, _, _, _, _⟩ :: _) _ _); (refine wplV _ (V.len Try.underlying23 rfl) (by kernel_rfl) ?_; go_step))
        | ((with_reducible show wpList _ _ _ (⟨some 6, .binOp .gtr _ _ _ _, _, _, _, _⟩ :: _) _ _); (refine wplV _ (V.gtr rfl rfl) (by kernel_rfl) ?_; go_step))
        | ((fail_if_success (with_reducible show wpList _ _ _ (_ :: _) _ _)); go_step))
      repeat' (first
        | ((with_reducible show wpList _ _ _ (⟨_, .call ⟨.value (.func 25), _, _⟩, _, _, _, _⟩ :: _) _ _); refine wpl_call (f := 25) Try.call25 (by kernel_rfl) ?_; refine ⟨_, (HC.out _ hS.1), ?_⟩; rintro e w ⟨rfl, rfl⟩; refine ⟨_, rfl, ?_⟩; refine put_move ?_; go_step)
        | ((with_reducible show wpList _ _ _ (⟨_, .assign _, _, _, _, _⟩ :: _) _ _); (first | go_big_want | go_step); go_step)
        | ((fail_if_success (with_reducible show wpList _ _ _ (_ :: _) _ _)); go_step))
      all_goals go_ret
      all_goals exact ⟨rfl, hS.1⟩
    | false =>
      rw [if_neg (by decide)]
      go_enter Try.func18, Try.ntmps18
      repeat' (first
        | ((with_reducible show wpList _ _ _ (⟨_, .move _, _, _, _, _⟩ :: _) _ _); (first | go_big_want | go_step); go_step)
        | ((with_reducible show wpList _ _ _ (⟨_, .assign _, _, _, _, _⟩ :: _) _ _); (first | go_big_want | go_step); go_step)
        | ((with_reducible show wpList _ _ _ (⟨some 5, .call ⟨.builtin .len, _, _⟩, _, _, _, _⟩ :: _) _ _); (refine wplV _ (V.len Try.underlying23 rfl) (by kernel_rfl) ?_; go_step))
        | ((with_reducible show wpList _ _ _ (⟨some 6, .binOp .gtr _ _ _ _, _, _, _, _⟩ :: _) _ _); (refine wplV _ (V.gtr rfl rfl) (by kernel_rfl) ?_; go_step))
        | ((fail_if_success (with_reducible show wpList _ _ _ (_ :: _) _ _)); go_step))
      repeat' (first
        | ((with_reducible show wpList _ _ _ (⟨_, .call ⟨.value (.func 25), _, _⟩, _, _, _, _⟩ :: _) _ _); refine wpl_call (f := 25) Try.call25 (by kernel_rfl) ?_; refine ⟨_, (HC.out _ hS.1), ?_⟩; rintro e w ⟨rfl, rfl⟩; refine ⟨_, rfl, ?_⟩; refine put_move ?_; go_step)
        | ((with_reducible show wpList _ _ _ (⟨_, .assign _, _, _, _, _⟩ :: _) _ _); (first | go_big_want | go_step); go_step)
        | ((fail_if_success (with_reducible show wpList _ _ _ (_ :: _) _ _)); go_step))
      all_goals go_ret
      all_goals exact ⟨rfl, hS.1⟩
/-- A package: its weight, its row of symbols. -/
structure GP where
  w : Int
  r : Sr
def gpV (p : GP) : PkV := ⟨p.w, p.r.ad, p.r.xs.length, p.r.c⟩
def gpM (p : GP) : Pk := (p.w, p.r.xs)
theorem gp_snoc (G : List GP) (p : GP) : ((G ++ [p]).map gpV).flatMap pkE = (G.map gpV).flatMap pkE ++ [.int .i64 p.w, .slice p.r.ad p.r.xs.length p.r.c] := by
  rw [List.map_append, List.flatMap_append]; rfl
theorem gp_app (G H : List GP) : ((G ++ H).map gpV).flatMap pkE = (G.map gpV).flatMap pkE ++ (H.map gpV).flatMap pkE := by
  rw [List.map_append, List.flatMap_append]
/-- The singles of the first k symbols. -/
def sgs (c : List Int) (k : Nat) : List Pk := (0, [-1]) :: ((List.range k).filter fun s => decide (0 < nth c s)).map fun s => (nth c s, [(s : Int)])
theorem sgs_succ (c : List Int) (k : Nat) : sgs c (k + 1) = if 0 < nth c k then sgs c k ++ [(nth c k, [(k : Int)])] else sgs c k := by
  unfold sgs
  rw [List.range_succ, List.filter_append]
  by_cases h : 0 < nth c k
  · rw [if_pos h, List.filter_cons_of_pos (by simpa using h)]; simp
  · rw [if_neg h, List.filter_cons_of_neg (by simpa using h)]; simp
theorem sgs_len (c : List Int) (k : Nat) : (sgs c k).length ≤ k + 1 := by
  unfold sgs
  have := List.length_filter_le (fun s => decide (0 < nth c s)) (List.range k)
  simp at this ⊢
  exact this
theorem RowK.syll {S R : List Pk} {k : Nat} (h : RowK S k R) : (syl R).length ≤ k * (syl S).length := by
  induction h with
  | one R p _ => have := (syl_perm p).length_eq; omega
  | @more k R Q h p _ ih =>
    have h1 := (syl_perm p).length_eq
    rw [syl_append, List.length_append] at h1
    obtain ⟨z, hu, _⟩ := prs_unp R
    have h2 : syl (pkgs R) = syl (unp (prs R)) := syl_join (prs R)
    have h3 := congrArg (fun l => (syl l).length) hu
    simp only [syl_append, List.length_append] at h3
    rw [h2] at h1
    rw [Nat.add_mul, Nat.one_mul]
    omega
theorem syl_mem {R : List Pk} {x : Pk} (h : x ∈ R) : x.2.length ≤ (syl R).length := by
  induction R with
  | nil => cases h
  | cons a R ih =>
    rw [syl_cons, List.length_append]
    rcases List.mem_cons.1 h with rfl | h
    · omega
    · have := ih h; omega
theorem pkgs_take (R : List Pk) (q : Nat) (h : 2 * q + 1 < R.length) : (pkgs R).take (q + 1) = (pkgs R).take q ++ [pjoin (elt R (2 * q), elt R (2 * q + 1))] := by
  induction q generalizing R with
  | zero =>
    match R, h with
    | a :: b :: l, _ => simp [pkgs, prs, elt]
  | succ q ih =>
    match R, h with
    | a :: b :: l, h =>
      have e := ih l (by simp at h; omega)
      have e1 : pkgs (a :: b :: l) = pjoin (a, b) :: pkgs l := by simp [pkgs, prs]
      rw [e1, List.take_succ_cons, e, List.take_succ_cons, List.cons_append]
      congr 3
theorem elt_get {α : Type} [Inhabited α] (l : List α) (i : Nat) (h : i < l.length) : l[i] = elt l i := by simp [elt, h]
theorem gp_at (G : List GP) (k : Nat) (h : k < G.length) : ∃ p, p ∈ G ∧ elt (G.map gpV) k = gpV p ∧ elt (G.map gpM) k = gpM p := by
  refine ⟨G[k], List.getElem_mem h, ?_, ?_⟩
  · simp [elt, h]
  · simp [elt, h]
theorem RowK.wbd {S R : List Pk} {k : Nat} (h0 : ∀ x ∈ S, 0 ≤ x.1 ∧ x.1 ≤ 9999 * x.2.length) (h : RowK S k R) : ∀ x ∈ R, 0 ≤ x.1 ∧ x.1 ≤ 9999 * x.2.length := by
  induction h with
  | one R p _ => exact fun x hx => h0 x (p.mem_iff.1 hx)
  | @more k R Q h p _ ih =>
    intro x hx
    rcases List.mem_append.1 (p.mem_iff.1 hx) with hx | hx
    · obtain ⟨q, hq, rfl⟩ := List.mem_map.1 hx
      have h1 := ih q.1 (prs_mem hq).1
      have h2 := ih q.2 (prs_mem hq).2
      simp only [pjoin, List.length_append]
      push_cast
      omega
    · exact h0 x hx
theorem sgs_bd (c : List Int) (n k : Nat) (h : ∀ i, i < n → 0 ≤ nth c i ∧ nth c i ≤ 9999) (hk : k ≤ n) : ∀ x ∈ sgs c k, 0 ≤ x.1 ∧ x.1 ≤ 9999 * x.2.length := by
  intro x hx
  rcases List.mem_cons.1 hx with rfl | hx
  · simp
  · obtain ⟨s, hs, rfl⟩ := List.mem_map.1 hx
    have h1 := (List.mem_filter.1 hs).1
    have := h s (by simp at h1; omega)
    simp; omega
theorem sgs_syl (c : List Int) (k : Nat) : (syl (sgs c k)).length = (sgs c k).length := by
  have : ∀ l : List Nat, (syl (l.map fun s => (nth c s, [(s : Int)]))).length = l.length := fun l => by
    induction l with
    | nil => rfl
    | cons a l ih => rw [List.map_cons, syl_cons, List.length_append, ih]; simp; omega
  unfold sgs
  rw [syl_cons, List.length_append, this]
  simp; omega
/-- What a row's packages are bounded by. -/
theorem row_bd {c : List Int} {n j : Nat} {R : List Pk} (h : ∀ i, i < n → 0 ≤ nth c i ∧ nth c i ≤ 9999) (hn : n ≤ 256) (hj : j ≤ 16) (hR : RowK (sgs c n) j R) : ∀ x ∈ R, 0 ≤ x.1 ∧ x.1 ≤ 50000000 ∧ x.2.length ≤ 5000 := by
  intro x hx
  have h1 := hR.wbd (sgs_bd c n n h (Nat.le_refl _)) x hx
  have h2 := hR.syll
  have h3 := syl_mem hx
  have h4 := sgs_len c n
  rw [sgs_syl] at h2
  have h5 : j * (sgs c n).length ≤ 16 * 257 := Nat.mul_le_mul hj (by omega)
  omega
/-- How often each comes, as a map holds it. -/
def cntF (l : List Int) (s : Int) : Option Value := if l.count s = 0 then none else some (.int .i64 (l.count s : Nat))
theorem cntF_snoc (l : List Int) (s : Int) : (fun j => if j = s then some (Value.int .i64 ((l.count s + 1 : Nat) : Int)) else cntF l j) = cntF (l ++ [s]) := by
  funext j
  unfold cntF
  rw [List.count_append]
  by_cases h : j = s
  · subst h; simp
  · have : List.count j [s] = 0 := by rw [List.count_eq_zero]; simp [h]
    rw [if_neg h, this, Nat.add_zero]
theorem cntF_nil : cntF [] = fun _ => none := by funext j; simp [cntF]
/-- The symbols whose words have k bits, up to the n-th. -/
def symsK (f : Int → Nat) (n k : Nat) : List Int := ((List.range n).filter fun (s : Nat) => decide (f (s : Int) = k)).map fun (s : Nat) => (s : Int)
theorem symsK_succ (f : Int → Nat) (n k : Nat) : symsK f (n + 1) k = if f (n : Int) = k then symsK f n k ++ [(n : Int)] else symsK f n k := by
  unfold symsK
  rw [List.range_succ, List.filter_append]
  by_cases h : f (n : Int) = k
  · rw [if_pos h, List.filter_cons_of_pos (by simpa using h)]; simp
  · rw [if_neg h, List.filter_cons_of_neg (by simpa using h)]; simp
def symsTo (f : Int → Nat) (n k : Nat) : List Int := (List.range k).flatMap fun i => symsK f n (i + 1)
theorem symsTo_succ (f : Int → Nat) (n k : Nat) : symsTo f n (k + 1) = symsTo f n k ++ symsK f n (k + 1) := by
  unfold symsTo; rw [List.range_succ, List.flatMap_append]; simp
theorem symsK_len (f : Int → Nat) (n k : Nat) : (symsK f n k).length ≤ n := by
  have := List.length_filter_le (fun s : Nat => decide (f (s : Int) = k)) (List.range n)
  simp [symsK] at this ⊢; exact this
theorem symsTo_len (f : Int → Nat) (n k : Nat) : (symsTo f n k).length ≤ k * n := by
  induction k with
  | zero => simp [symsTo]
  | succ k ih => rw [symsTo_succ, List.length_append, Nat.add_mul, Nat.one_mul]; have := symsK_len f n (k + 1); omega
/-- The counts of a table that is under way: whole rows up to k, and row k up to the s-th symbol. -/
def cntTo (f : Int → Nat) (n k s i : Nat) : Int := if i < k then ((symsK f n (i + 1)).length : Nat) else if i = k then ((symsK f s (i + 1)).length : Nat) else 0
end Go.Proofs.Ytembekkanggciaa
