/- The law SegPure: what its proof needs, part 3. -/
import Derived.Test.YtehbjhocgnfpmaaDoorSegPureZ2
import Derived.WideKeyRuns
/- Packages that are merged (best.Make): what their words' lengths are, in plain lists: KRAFT; no words of at most 16 bits cost less; what weighs more has no longer word. -/
namespace Go.Proofs.YtehbjhocgnfpmaaDoor
set_option linter.unusedVariables false
/-- a pack: its weight, its symbols -/
abbrev Pk := Int × List Int
def wsum (l : List Pk) : Int := (l.map (·.1)).sum
def syl (l : List Pk) : List Int := l.flatMap (·.2)
theorem wsum_nil : wsum [] = 0 := rfl
theorem wsum_cons (x : Pk) (l : List Pk) : wsum (x :: l) = x.1 + wsum l := by simp [wsum]
theorem wsum_append (a b : List Pk) : wsum (a ++ b) = wsum a + wsum b := by simp [wsum]
theorem wsum_perm {a b : List Pk} (h : a.Perm b) : wsum a = wsum b := by
  induction h with
  | nil => rfl
  | cons x _ ih => simp [wsum_cons, ih]
  | swap x y l => simp only [wsum_cons]; omega
  | trans _ _ h1 h2 => rw [h1, h2]
theorem syl_cons (x : Pk) (l : List Pk) : syl (x :: l) = x.2 ++ syl l := by simp [syl]
theorem syl_append (a b : List Pk) : syl (a ++ b) = syl a ++ syl b := by simp [syl]
theorem syl_perm {a b : List Pk} (h : a.Perm b) : (syl a).Perm (syl b) := h.flatMap_right _
def Srt (l : List Pk) : Prop := l.Pairwise (fun a b => a.1 ≤ b.1)
def pjoin (p : Pk × Pk) : Pk := (p.1.1 + p.2.1, p.1.2 ++ p.2.2)
def prs : List Pk → List (Pk × Pk)
  | a :: b :: l => (a, b) :: prs l
  | _ => []
def unp (l : List (Pk × Pk)) : List Pk := l.flatMap fun p => [p.1, p.2]
def pkgs (l : List Pk) : List Pk := (prs l).map pjoin
theorem prs_unp : ∀ (l : List Pk), ∃ z, unp (prs l) ++ z = l ∧ z.length ≤ 1
  | [] => ⟨[], rfl, by simp⟩
  | [a] => ⟨[a], rfl, by simp⟩
  | a :: b :: l => by
    obtain ⟨z, h, hz⟩ := prs_unp l
    exact ⟨z, by simp [prs, unp] at h ⊢; exact h, hz⟩
theorem unp_len (l : List (Pk × Pk)) : (unp l).length = 2 * l.length := by
  induction l with
  | nil => rfl
  | cons x l ih => simp [unp] at ih ⊢; omega
theorem prs_len (l : List Pk) : (prs l).length = l.length / 2 := by
  obtain ⟨z, h, hz⟩ := prs_unp l
  have := congrArg List.length h
  rw [List.length_append, unp_len] at this
  omega
theorem pairs_len (l : List Pk) : (pkgs l).length = l.length / 2 := by simp [pkgs, prs_len]
theorem wsum_join (l : List (Pk × Pk)) : wsum (l.map pjoin) = wsum (unp l) := by
  induction l with
  | nil => rfl
  | cons x l ih => simp only [List.map_cons, wsum_cons, ih, pjoin, unp, List.flatMap_cons, List.cons_append, List.nil_append]; simp only [unp] at *; omega
theorem syl_join (l : List (Pk × Pk)) : syl (l.map pjoin) = syl (unp l) := by
  induction l with
  | nil => rfl
  | cons x l ih => simp only [List.map_cons, syl_cons, ih, pjoin, unp, List.flatMap_cons, List.cons_append, List.nil_append, List.append_assoc]
theorem perm_lift {α β : Type} (f : α → β) {L L0 : List β} (h : L.Perm L0) : ∀ M : List α, M.map f = L0 → ∃ M' : List α, M'.Perm M ∧ M'.map f = L := by
  induction h with
  | nil => intro M e; exact ⟨[], (by cases M with | nil => exact List.Perm.refl _ | cons => cases e), rfl⟩
  | cons x _ ih =>
    intro M e
    cases M with
    | nil => cases e
    | cons m M =>
      simp only [List.map_cons, List.cons.injEq] at e
      obtain ⟨M', h1, h2⟩ := ih M e.2
      exact ⟨m :: M', h1.cons m, by simp [e.1, h2]⟩
  | swap x y l =>
    intro M e
    match M, e with
    | m1 :: m2 :: M, e =>
      simp only [List.map_cons, List.cons.injEq] at e
      exact ⟨m2 :: m1 :: M, List.Perm.swap _ _ _, by simp [e.1, e.2.1, e.2.2]⟩
  | trans _ _ h1 h2 =>
    intro M e
    obtain ⟨M1, p1, e1⟩ := h2 M e
    obtain ⟨M2, p2, e2⟩ := h1 M1 e1
    exact ⟨M2, p2.trans p1, e2⟩
/-- X lies in R -/
def LiesIn (X R : List Pk) : Prop := ∃ Z, (X ++ Z).Perm R
theorem LiesIn.take (R : List Pk) (m : Nat) : LiesIn (R.take m) R := ⟨R.drop m, by rw [List.take_append_drop]⟩
theorem LiesIn.right {X R Q : List Pk} (h : LiesIn X R) (p : R.Perm Q) : LiesIn X Q := by
  obtain ⟨Z, hz⟩ := h; exact ⟨Z, hz.trans p⟩
theorem LiesIn.app {X Y R Q : List Pk} (h : LiesIn X R) (k : LiesIn Y Q) : LiesIn (X ++ Y) (R ++ Q) := by
  obtain ⟨Z, hz⟩ := h; obtain ⟨U, hu⟩ := k
  refine ⟨Z ++ U, List.Perm.trans ?_ (hz.append hu)⟩
  rw [List.append_assoc, List.append_assoc]
  refine List.Perm.append_left X ?_
  rw [← List.append_assoc, ← List.append_assoc]
  exact List.Perm.append_right U List.perm_append_comm
theorem LiesIn.mem {X R : List Pk} (h : LiesIn X R) {x : Pk} (hx : x ∈ X) : x ∈ R := by
  obtain ⟨Z, hz⟩ := h; exact hz.mem_iff.1 (List.mem_append_left _ hx)
theorem LiesIn.len {X R : List Pk} (h : LiesIn X R) : X.length ≤ R.length := by
  obtain ⟨Z, hz⟩ := h; have := hz.length_eq; rw [List.length_append] at this; omega
/-- what lies among the packages comes of twice as many -/
theorem LiesIn.unpair {B R : List Pk} (h : LiesIn B (pkgs R)) : ∃ Y, LiesIn Y R ∧ Y.length = 2 * B.length ∧ syl Y = syl B ∧ wsum Y = wsum B ∧ ∃ B', B'.map pjoin = B ∧ Y = unp B' := by
  obtain ⟨Z, hz⟩ := h
  obtain ⟨M, hp, hm⟩ := perm_lift pjoin hz (prs R) rfl
  obtain ⟨B', Z', e, hb, hz'⟩ := List.map_eq_append_iff.1 hm
  obtain ⟨z, hu, _⟩ := prs_unp R
  refine ⟨unp B', ⟨unp Z' ++ z, ?_⟩, by rw [unp_len, ← hb, List.length_map], by rw [← hb, syl_join], by rw [← hb, wsum_join], B', hb, rfl⟩
  have h1 : (unp M).Perm (unp (prs R)) := hp.flatMap_right _
  have h2 : unp M = unp B' ++ unp Z' := by rw [e]; simp [unp]
  rw [← List.append_assoc, ← h2]
  conv => rhs; rw [← hu]
  exact h1.append_right z
/-- the lightest m weigh no more than any as many or more -/
theorem take_least : ∀ (R : List Pk), Srt R → (∀ x ∈ R, 0 ≤ x.1) → ∀ (X : List Pk) (m : Nat), LiesIn X R → m ≤ X.length → wsum (R.take m) ≤ wsum X := by
  have nn : ∀ X : List Pk, (∀ x ∈ X, 0 ≤ x.1) → 0 ≤ wsum X := fun X h => by
    induction X with
    | nil => simp [wsum]
    | cons x X ih => rw [wsum_cons]; have := h x (by simp); have := ih fun y hy => h y (by simp [hy]); omega
  intro R
  induction R with
  | nil =>
    intro _ _ X m hX _
    have : X = [] := by have := hX.len; exact List.eq_nil_of_length_eq_zero (by simpa using this)
    subst this; simp [wsum]
  | cons r R ih =>
    intro hs h0 X m hX hm
    cases m with
    | zero => simp only [List.take_zero, wsum_nil]; exact nn X fun x hx => h0 x (hX.mem hx)
    | succ m =>
      obtain ⟨hr, hs'⟩ := List.pairwise_cons.1 hs
      rw [List.take_succ_cons, wsum_cons]
      obtain ⟨Z, hz⟩ := hX
      have hrm : r ∈ X ++ Z := hz.mem_iff.2 (by simp)
      rcases List.mem_append.1 hrm with hx | hx
      · have p := List.perm_cons_erase hx
        have hz2 : (X.erase r ++ Z).Perm R := by
          have : (r :: (X.erase r ++ Z)).Perm (r :: R) := (p.symm.append_right Z).trans hz
          exact this.cons_inv
        have hl := p.length_eq
        rw [List.length_cons] at hl
        have := ih hs' (fun x hx => h0 x (by simp [hx])) (X.erase r) m ⟨Z, hz2⟩ (by omega)
        rw [wsum_perm p, wsum_cons]; omega
      · cases X with
        | nil => simp at hm
        | cons x X =>
          have p := List.perm_cons_erase hx
          have hz2 : (X ++ (x :: Z.erase r)).Perm R := by
            have h1 : (r :: (X ++ (x :: Z.erase r))).Perm (r :: R) := by
              refine List.Perm.trans ?_ hz
              have a1 : (X ++ x :: Z.erase r).Perm (x :: (X ++ Z.erase r)) := List.perm_middle
              have a2 : (r :: (X ++ x :: Z.erase r)).Perm (r :: x :: (X ++ Z.erase r)) := a1.cons r
              refine a2.trans ((List.Perm.swap x r _).trans ?_)
              refine List.Perm.cons x ?_
              have a3 : (r :: (X ++ Z.erase r)).Perm (X ++ r :: Z.erase r) := List.perm_middle.symm
              exact a3.trans (List.Perm.append_left X p.symm)
            exact h1.cons_inv
          have hxr : r.1 ≤ x.1 := by
            have : x ∈ r :: R := hz.mem_iff.1 (by simp)
            rcases List.mem_cons.1 this with e | e
            · rw [e]; exact Int.le_refl _
            · exact hr x e
          have := ih hs' (fun x hx => h0 x (by simp [hx])) X m ⟨_, hz2⟩ (by simp at hm; omega)
          rw [wsum_cons]; omega
/-- row k of packages over the singles S: sorted, of S and the pkgs of the row ahead -/
inductive RowK (S : List Pk) : Nat → List Pk → Prop
  | one (R : List Pk) (p : R.Perm S) (s : Srt R) : RowK S 1 R
  | more {k : Nat} {R Q : List Pk} (h : RowK S k R) (p : Q.Perm (pkgs R ++ S)) (s : Srt Q) : RowK S (k + 1) Q
theorem RowK.srt {S R : List Pk} {k : Nat} (h : RowK S k R) : Srt R := by cases h <;> assumption
theorem RowK.nonneg {S R : List Pk} {k : Nat} (h0 : ∀ x ∈ S, 0 ≤ x.1) (h : RowK S k R) : ∀ x ∈ R, 0 ≤ x.1 := by
  induction h with
  | one R p _ => exact fun x hx => h0 x (p.mem_iff.1 hx)
  | @more k R Q h p _ ih =>
    intro x hx
    rcases List.mem_append.1 (p.mem_iff.1 hx) with hx | hx
    · obtain ⟨q, hq, rfl⟩ := List.mem_map.1 hx
      obtain ⟨z, hu, _⟩ := prs_unp R
      have hm : ∀ y ∈ unp (prs R), y ∈ R := fun y hy => by rw [← hu]; exact List.mem_append_left _ hy
      have h1 := ih q.1 (hm _ (by simp only [unp, List.mem_flatMap]; exact ⟨q, hq, by simp⟩))
      have h2 := ih q.2 (hm _ (by simp only [unp, List.mem_flatMap]; exact ⟨q, hq, by simp⟩))
      simp only [pjoin]; omega
    · exact h0 x hx
theorem RowK.len {S R : List Pk} {k : Nat} (h : RowK S k R) : R.length ≤ 2 * S.length := by
  induction h with
  | one R p _ => have := p.length_eq; omega
  | more h p _ ih => have := p.length_eq; rw [List.length_append, pairs_len] at this; omega
/-- long enough -/
theorem RowK.long {S R : List Pk} {k : Nat} (h : RowK S k R) (_h1 : 1 ≤ S.length) : 2 * S.length ≤ R.length + 1 + S.length / 2 ^ (k - 1) := by
  induction h with
  | one R p _ => have := p.length_eq; simp; omega
  | @more k R Q h p _ ih =>
    have := p.length_eq; rw [List.length_append, pairs_len] at this
    have hk : 1 ≤ k := by cases h <;> omega
    have e : S.length / 2 ^ (k + 1 - 1) = S.length / 2 ^ (k - 1) / 2 := by
      rw [Nat.div_div_eq_div_mul, ← Nat.pow_succ, show (k - 1).succ = k + 1 - 1 by omega]
    rw [e]; omega
/-- sums of naturals over a list -/
def nsum {α : Type} (f : α → Nat) (l : List α) : Nat := (l.map f).sum
theorem nsum_cons {α : Type} (f : α → Nat) (x : α) (l : List α) : nsum f (x :: l) = f x + nsum f l := by simp [nsum]
theorem nsum_add {α : Type} (f g : α → Nat) (l : List α) : nsum (fun x => f x + g x) l = nsum f l + nsum g l := by
  induction l with
  | nil => rfl
  | cons x l ih => simp only [nsum_cons, ih]; omega
theorem nsum_le {α : Type} (f g : α → Nat) (l : List α) (h : ∀ x ∈ l, f x ≤ g x) : nsum f l ≤ nsum g l := by
  induction l with
  | nil => exact Nat.le_refl _
  | cons x l ih => have := h x (by simp); have := ih fun y hy => h y (by simp [hy]); simp only [nsum_cons]; omega
theorem nsum_congr {α : Type} (f g : α → Nat) (l : List α) (h : ∀ x ∈ l, f x = g x) : nsum f l = nsum g l := by
  induction l with
  | nil => rfl
  | cons x l ih => have := h x (by simp); have := ih fun y hy => h y (by simp [hy]); simp only [nsum_cons]; omega
theorem nsum_mul {α : Type} (f : α → Nat) (c : Nat) (l : List α) : nsum (fun x => f x * c) l = nsum f l * c := by
  induction l with
  | nil => simp [nsum]
  | cons x l ih => simp only [nsum_cons, ih, Nat.add_mul]
theorem nsum_one {α : Type} (p : α → Bool) (l : List α) : nsum (fun x => if p x then 1 else 0) l = (l.filter p).length := by
  induction l with
  | nil => rfl
  | cons x l ih => rw [nsum_cons, ih, List.filter_cons]; by_cases h : p x = true <;> simp [h]; omega
theorem nsum_zero {α : Type} (f : α → Nat) (l : List α) (h : ∀ x ∈ l, f x = 0) : nsum f l = 0 := by
  induction l with
  | nil => rfl
  | cons x l ih => have := h x (by simp); have := ih fun y hy => h y (by simp [hy]); simp only [nsum_cons]; omega
/-- how many of each symbol -/
def lng (X : List Pk) (s : Int) : Nat := (syl X).count s
/-- singles: each of one symbol, all apart -/
structure Sing (S : List Pk) (ss : List Int) : Prop where
  syms : S.map (·.2) = ss.map fun s => [s]
  nd : ss.Nodup
theorem Sing.len {S : List Pk} {ss : List Int} (h : Sing S ss) : S.length = ss.length := by
  have := congrArg List.length h.syms; simpa using this
theorem Sing.one {S : List Pk} {ss : List Int} (h : Sing S ss) : ∀ x ∈ S, ∃ s ∈ ss, x.2 = [s] := fun x hx => by
  have : x.2 ∈ S.map (·.2) := List.mem_map.2 ⟨x, hx, rfl⟩
  rw [h.syms] at this
  obtain ⟨s, hs, e⟩ := List.mem_map.1 this
  exact ⟨s, hs, e.symm⟩
theorem Sing.syls {S : List Pk} {ss : List Int} (h : Sing S ss) : syl S = ss := by
  have : syl S = (S.map (·.2)).flatten := by simp [syl, List.flatMap]
  rw [this, h.syms]
  clear h this
  induction ss with
  | nil => rfl
  | cons a l ih => rw [List.map_cons, List.flatten_cons, ih]; rfl
theorem RowK.pos {S R : List Pk} {k : Nat} {ss : List Int} (hS : Sing S ss) (h : RowK S k R) : ∀ x ∈ R, 1 ≤ x.2.length := by
  induction h with
  | one R p _ => intro x hx; obtain ⟨s, _, e⟩ := hS.one x (p.mem_iff.1 hx); rw [e]; simp
  | @more k R Q h p _ ih =>
    intro x hx
    rcases List.mem_append.1 (p.mem_iff.1 hx) with hx | hx
    · obtain ⟨q, hq, rfl⟩ := List.mem_map.1 hx
      obtain ⟨z, hu, _⟩ := prs_unp R
      have h1 := ih q.1 (by rw [← hu]; exact List.mem_append_left _ (by simp only [unp, List.mem_flatMap]; exact ⟨q, hq, by simp⟩))
      simp only [pjoin, List.length_append]; omega
    · obtain ⟨s, _, e⟩ := hS.one x hx; rw [e]; simp
/-- what lies in a row is of packages and of singles -/
theorem LiesIn.parts {S R Q X : List Pk} {k : Nat} {ss : List Int} (hS : Sing S ss) (h : RowK S k R) (p : Q.Perm (pkgs R ++ S)) (hX : LiesIn X Q) :
    ∃ B A, LiesIn B (pkgs R) ∧ LiesIn A S ∧ X.Perm (B ++ A) := by
  obtain ⟨Z, hz⟩ := hX
  have hz := hz.trans p
  have hpos := h.pos hS
  have h1 : ∀ x ∈ pkgs R, decide (2 ≤ x.2.length) = true := fun x hx => by
    obtain ⟨q, hq, rfl⟩ := List.mem_map.1 hx
    obtain ⟨z, hu, _⟩ := prs_unp R
    have e1 := hpos q.1 (by rw [← hu]; exact List.mem_append_left _ (by simp only [unp, List.mem_flatMap]; exact ⟨q, hq, by simp⟩))
    have e2 := hpos q.2 (by rw [← hu]; exact List.mem_append_left _ (by simp only [unp, List.mem_flatMap]; exact ⟨q, hq, by simp⟩))
    simp only [pjoin, List.length_append, decide_eq_true_eq]; omega
  have h2 : ∀ x ∈ S, decide (2 ≤ x.2.length) = false := fun x hx => by obtain ⟨s, _, e⟩ := hS.one x hx; rw [e]; simp
  have f1 := hz.filter (fun x => decide (2 ≤ x.2.length))
  have f2 := hz.filter (fun x => !decide (2 ≤ x.2.length))
  rw [List.filter_append, List.filter_append, List.filter_eq_self.2 h1, (List.filter_eq_nil_iff (l := S)).2 (fun x hx => by rw [h2 x hx]; simp), List.append_nil] at f1
  rw [List.filter_append, List.filter_append, (List.filter_eq_nil_iff (l := pkgs R)).2 (fun x hx => by rw [h1 x hx]; simp), (List.filter_eq_self (l := S)).2 (fun x hx => by rw [h2 x hx]; rfl), List.nil_append] at f2
  exact ⟨_, _, ⟨_, f1⟩, ⟨_, f2⟩, (List.filter_append_perm _ X).symm⟩
theorem lng_app (X Y : List Pk) (s : Int) : lng (X ++ Y) s = lng X s + lng Y s := by simp [lng, syl_append]
theorem lng_perm {X Y : List Pk} (h : X.Perm Y) (s : Int) : lng X s = lng Y s := (syl_perm h).count_eq s
theorem LiesIn.single {A S : List Pk} {ss : List Int} (hS : Sing S ss) (h : LiesIn A S) : (syl A).Nodup ∧ (syl A).length = A.length ∧ ∀ s ∈ syl A, s ∈ ss := by
  obtain ⟨Z, hz⟩ := h
  have hp : (syl A ++ syl Z).Perm ss := by rw [← syl_append, ← hS.syls]; exact syl_perm hz
  refine ⟨(List.nodup_append.1 (hp.nodup_iff.2 hS.nd)).1, ?_, fun s hs => hp.mem_iff.1 (List.mem_append_left _ hs)⟩
  have : ∀ x ∈ A, x.2.length = 1 := fun x hx => by
    obtain ⟨s, _, e⟩ := hS.one x (hz.mem_iff.1 (List.mem_append_left _ hx)); rw [e]; rfl
  clear hp hz
  induction A with
  | nil => rfl
  | cons x A ih => rw [syl_cons, List.length_append, this x (by simp), ih fun y hy => this y (by simp [hy]), List.length_cons]; omega
theorem two_pow_pred (k : Nat) (h : 1 ≤ k) : 2 ^ k = 2 * 2 ^ (k - 1) := by
  cases k with
  | zero => omega
  | succ k => rw [Nat.pow_succ, Nat.add_sub_cancel]; omega
/-- KRAFT: what lies in row k, by the width of its words -/
theorem RowK.kraft {S R : List Pk} {k : Nat} {ss : List Int} (hS : Sing S ss) (h : RowK S k R) : ∀ X, LiesIn X R →
    (∀ s, lng X s ≤ k) ∧ X.length * 2 ^ (k - 1) ≤ nsum (fun s => 2 ^ k - 2 ^ (k - lng X s)) ss ∧ (∀ s ∈ syl X, s ∈ ss) := by
  have sums : ∀ (L : List Int), L.Nodup → (∀ s ∈ L, s ∈ ss) → nsum (fun s => L.count s) ss = L.length := by
    intro L
    induction L with
    | nil => intro _ _; exact nsum_zero _ _ fun s _ => rfl
    | cons x L ih =>
      intro hn hm
      obtain ⟨h1, h2⟩ := List.nodup_cons.1 hn
      have := ih h2 fun s hs => hm s (by simp [hs])
      have e : nsum (fun s => (x :: L).count s) ss = nsum (fun s => L.count s) ss + nsum (fun s => if s = x then 1 else 0) ss := by
        rw [← nsum_add]
        refine nsum_congr _ _ _ fun s _ => ?_
        rw [List.count_cons]; by_cases h : s = x
        · subst h; simp
        · have : (x == s) = false := by simp; exact fun e => h e.symm
          simp [h, this]
      have e2 : nsum (fun s => if s = x then 1 else 0) ss = 1 := by
        have hx := hm x (by simp)
        have e3 : nsum (fun s => if s = x then 1 else 0) ss = ss.count x := by
          clear e this ih h1 h2 hn hm hx h hS
          induction ss with
          | nil => rfl
          | cons a l ih => rw [nsum_cons, ih, List.count_cons]; by_cases h : a = x <;> simp [h]; omega
        rw [e3]
        have a1 := List.nodup_iff_count.1 hS.nd x
        have a2 := List.count_pos_iff.2 hx
        omega
      rw [e, e2, this, List.length_cons]
  induction h with
  | one R p _ =>
    intro X hX
    obtain ⟨h1, h2, h3⟩ := (hX.right p).single hS
    have hle : ∀ s, lng X s ≤ 1 := fun s => List.nodup_iff_count.1 h1 s
    refine ⟨hle, ?_, h3⟩
    have := sums _ h1 h3
    have e : nsum (fun s => 2 ^ 1 - 2 ^ (1 - lng X s)) ss = nsum (fun s => (syl X).count s) ss := nsum_congr _ _ _ fun s _ => by
      have := hle s
      have e : lng X s = (syl X).count s := rfl
      rcases Nat.lt_or_ge (lng X s) 1 with h | h
      · rw [← e, show lng X s = 0 by omega]
      · rw [← e, show lng X s = 1 by omega]
    rw [e, this, h2]; simp
  | @more k R Q h p _ ih =>
    intro X hX
    obtain ⟨B, A, hB, hA, hp⟩ := LiesIn.parts hS h p hX
    obtain ⟨Y, hY, hYl, hYs, _, _⟩ := hB.unpair
    obtain ⟨i1, i2, i3⟩ := ih Y hY
    obtain ⟨a1, a2, a3⟩ := hA.single hS
    have hk : 1 ≤ k := by cases h <;> omega
    have hlx : ∀ s, lng X s = lng Y s + (syl A).count s := fun s => by rw [lng_perm hp, lng_app]; simp only [lng, hYs]
    have ha : ∀ s, (syl A).count s ≤ 1 := fun s => List.nodup_iff_count.1 a1 s
    refine ⟨fun s => by rw [hlx]; have := i1 s; have := ha s; omega, ?_, fun s hs => ?_⟩
    · have hs := sums _ a1 a3
      rw [a2] at hs
      have key : nsum (fun s => (syl A).count s * 2 ^ k + (2 ^ k - 2 ^ (k - lng Y s))) ss ≤ nsum (fun s => 2 ^ (k + 1) - 2 ^ (k + 1 - lng X s)) ss := by
        refine nsum_le _ _ _ fun s _ => ?_
        rw [hlx]
        have h1 := i1 s
        have h2 := ha s
        have e1 : 2 ^ (k + 1) = 2 * 2 ^ k := by rw [Nat.pow_succ]; omega
        have e3 : 2 ^ (k - lng Y s) ≤ 2 ^ k := Nat.pow_le_pow_right (by omega) (by omega)
        rcases Nat.lt_or_ge ((syl A).count s) 1 with h | h
        · rw [show (syl A).count s = 0 by omega, Nat.zero_mul, Nat.zero_add, Nat.add_zero (lng Y s), e1]
          have e2 : 2 ^ (k + 1 - lng Y s) = 2 * 2 ^ (k - lng Y s) := by rw [show k + 1 - lng Y s = (k - lng Y s) + 1 by omega, Nat.pow_succ]; omega
          rw [e2]; omega
        · rw [show (syl A).count s = 1 by omega, Nat.one_mul, e1, show k + 1 - (lng Y s + 1) = k - lng Y s by omega]
          omega
      rw [nsum_add, nsum_mul, hs] at key
      have hl := hp.length_eq
      rw [List.length_append] at hl
      have e4 := two_pow_pred k hk
      rw [hl, Nat.add_sub_cancel, Nat.add_mul]
      rw [hYl] at i2
      have e5 : B.length * 2 ^ k = 2 * B.length * 2 ^ (k - 1) := by rw [e4, ← Nat.mul_assoc]; congr 1; omega
      omega
    · have := (syl_perm hp).mem_iff.1 hs
      rw [syl_append, List.mem_append] at this
      rcases this with h | h
      · exact i3 s (hYs ▸ h)
      · exact a3 s h
def isum {α : Type} (f : α → Int) (l : List α) : Int := (l.map f).sum
theorem isum_cons {α : Type} (f : α → Int) (x : α) (l : List α) : isum f (x :: l) = f x + isum f l := by simp [isum]
theorem isum_add {α : Type} (f g : α → Int) (l : List α) : isum (fun x => f x + g x) l = isum f l + isum g l := by
  induction l with
  | nil => rfl
  | cons x l ih => simp only [isum_cons, ih]; omega
theorem isum_congr {α : Type} (f g : α → Int) (l : List α) (h : ∀ x ∈ l, f x = g x) : isum f l = isum g l := by
  induction l with
  | nil => rfl
  | cons x l ih => have := h x (by simp); have := ih fun y hy => h y (by simp [hy]); simp only [isum_cons]; omega
theorem isum_zero {α : Type} (f : α → Int) (l : List α) (h : ∀ x ∈ l, f x = 0) : isum f l = 0 := by
  induction l with
  | nil => rfl
  | cons x l ih => have := h x (by simp); have := ih fun y hy => h y (by simp [hy]); simp only [isum_cons]; omega
theorem nsum_perm {α : Type} (f : α → Nat) {l m : List α} (h : l.Perm m) : nsum f l = nsum f m := by
  induction h with
  | nil => rfl
  | cons x _ ih => simp [nsum_cons, ih]
  | swap x y l => simp only [nsum_cons]; omega
  | trans _ _ h1 h2 => rw [h1, h2]
theorem isum_append {α : Type} (f : α → Int) (l m : List α) : isum f (l ++ m) = isum f l + isum f m := by simp [isum]
theorem nsum_append {α : Type} (f : α → Nat) (l m : List α) : nsum f (l ++ m) = nsum f l + nsum f m := by simp [nsum]
/-- a pack weighs what its symbols weigh -/
theorem RowK.weigh {S R : List Pk} {k : Nat} (w : Int → Int) (hw : ∀ x ∈ S, x.1 = isum w x.2) (h : RowK S k R) : ∀ x ∈ R, x.1 = isum w x.2 := by
  induction h with
  | one R p _ => exact fun x hx => hw x (p.mem_iff.1 hx)
  | @more k R Q h p _ ih =>
    intro x hx
    rcases List.mem_append.1 (p.mem_iff.1 hx) with hx | hx
    · obtain ⟨q, hq, rfl⟩ := List.mem_map.1 hx
      obtain ⟨z, hu, _⟩ := prs_unp R
      have h1 := ih q.1 (by rw [← hu]; exact List.mem_append_left _ (by simp only [unp, List.mem_flatMap]; exact ⟨q, hq, by simp⟩))
      have h2 := ih q.2 (by rw [← hu]; exact List.mem_append_left _ (by simp only [unp, List.mem_flatMap]; exact ⟨q, hq, by simp⟩))
      simp only [pjoin, isum_append]; omega
    · exact hw x hx
theorem wsum_syl (w : Int → Int) : ∀ (X : List Pk), (∀ x ∈ X, x.1 = isum w x.2) → wsum X = isum w (syl X)
  | [], _ => rfl
  | x :: X, h => by rw [wsum_cons, syl_cons, isum_append, h x (by simp), wsum_syl w X fun y hy => h y (by simp [hy])]
theorem isum_count (w : Int → Int) (ss : List Int) (hn : ss.Nodup) : ∀ (L : List Int), (∀ s ∈ L, s ∈ ss) → isum w L = isum (fun s => w s * (L.count s : Nat)) ss
  | [], _ => (isum_zero _ _ fun s _ => by simp).symm
  | x :: L, h => by
    rw [isum_cons, isum_count w ss hn L fun s hs => h s (by simp [hs])]
    have e : isum (fun s => w s * ((x :: L).count s : Nat)) ss = isum (fun s => w s * (L.count s : Nat)) ss + isum (fun s => if s = x then w s else 0) ss := by
      rw [← isum_add]
      refine isum_congr _ _ _ fun s _ => ?_
      rw [List.count_cons]; by_cases h : s = x
      · subst h; simp [Int.mul_add]
      · have : (x == s) = false := by simp; exact fun e => h e.symm
        simp [h, this]
    have hx := h x (by simp)
    have e2 : isum (fun s => if s = x then w s else 0) ss = w x := by
      clear e h
      induction ss with
      | nil => cases hx
      | cons a l ih =>
        obtain ⟨h1, h2⟩ := List.nodup_cons.1 hn
        rw [isum_cons]
        by_cases ha : a = x
        · subst ha
          rw [if_pos rfl, isum_zero _ l fun s hs => by rw [if_neg]; intro e; exact h1 (e ▸ hs)]; omega
        · rw [if_neg ha, ih h2 ((List.mem_cons.1 hx).resolve_left (fun e => ha e.symm))]; omega
    rw [e, e2]; omega
def fN (K l : Nat) : Nat → Nat
  | 0 => 0
  | k + 1 => fN K l k + (if K ≤ l + k then 2 ^ k else 0)
def fC (K l : Nat) : Nat → Nat
  | 0 => 0
  | k + 1 => fC K l k + (if K ≤ l + k then 1 else 0)
theorem fN_16 (l : Nat) (h : l ≤ 16) : fN 16 l 16 + 2 ^ (16 - l) = 2 ^ 16 := by
  have : ∀ l, l < 17 → fN 16 l 16 + 2 ^ (16 - l) = 2 ^ 16 := by decide
  exact this l (by omega)
theorem fC_16 (l : Nat) (h : l ≤ 16) : fC 16 l 16 = l := by
  have : ∀ l, l < 17 → fC 16 l 16 = l := by decide
  exact this l (by omega)
theorem pairs_take : ∀ (R : List Pk) (t : Nat), 2 * t ≤ R.length → wsum ((pkgs R).take t) = wsum (R.take (2 * t))
  | _, 0, _ => by simp
  | a :: b :: l, t + 1, h => by
    have ih := pairs_take l t (by simp at h; omega)
    rw [show 2 * (t + 1) = 2 * t + 1 + 1 by omega, List.take_succ_cons, List.take_succ_cons, wsum_cons, wsum_cons, ← ih]
    simp only [pkgs, prs, List.map_cons, List.take_succ_cons, wsum_cons, pjoin]; omega
  | [a], t + 1, h => by simp at h; omega
  | [], t + 1, h => by simp at h
theorem RowK.lower {S R : List Pk} {k : Nat} (K : Nat) (len : Pk → Nat) (h0 : ∀ x ∈ S, 0 ≤ x.1) (h : RowK S k R) :
    ∃ X, LiesIn X R ∧ X.length = nsum (fun x => fN K (len x) k) S / 2 ^ (k - 1) ∧ wsum X ≤ isum (fun x => x.1 * (fC K (len x) k : Nat)) S := by
  have sel : ∀ k, nsum (fun x => fN K (len x) (k + 1)) S = nsum (fun x => fN K (len x) k) S + (S.filter fun x => decide (K ≤ len x + k)).length * 2 ^ k ∧
      isum (fun x => x.1 * (fC K (len x) (k + 1) : Nat)) S = isum (fun x => x.1 * (fC K (len x) k : Nat)) S + wsum (S.filter fun x => decide (K ≤ len x + k)) := fun k => by
    clear h h0
    induction S with
    | nil => exact ⟨by simp [nsum], by simp [isum, wsum]⟩
    | cons x S ih =>
      simp only [nsum_cons, isum_cons, List.filter_cons]
      rw [ih.1, ih.2]
      by_cases hx : K ≤ len x + k
      · simp only [fN, fC, hx, if_true, decide_true, List.length_cons, wsum_cons, Nat.add_mul, Nat.one_mul]
        refine ⟨by omega, ?_⟩
        push_cast; rw [Int.mul_add]; omega
      · simp only [fN, fC, hx, if_false, decide_false, Bool.false_eq_true]
        exact ⟨by omega, by simp; omega⟩
  have filt : ∀ k, LiesIn (S.filter fun x => decide (K ≤ len x + k)) S := fun k => ⟨_, List.filter_append_perm _ S⟩
  induction h with
  | one R p _ =>
    refine ⟨_, (filt 0).right p.symm, ?_, ?_⟩
    · rw [(sel 0).1, nsum_zero (fun x => fN K (len x) 0) S fun _ _ => rfl]; simp
    · rw [(sel 0).2, isum_zero (fun x => x.1 * (fC K (len x) 0 : Nat)) S fun _ _ => by simp [fC]]; omega
  | @more k R Q h p _ ih =>
    obtain ⟨X, hX, hl, hw⟩ := ih
    have hk : 1 ≤ k := by cases h <;> omega
    have ht := hX.len
    refine ⟨_, ((LiesIn.take (pkgs R) (X.length / 2)).app (filt k)).right p.symm, ?_, ?_⟩
    · rw [(sel k).1, List.length_append, List.length_take, pairs_len, Nat.min_eq_left (by omega), Nat.add_sub_cancel, Nat.add_mul_div_right _ _ (Nat.two_pow_pos k), hl, Nat.div_div_eq_div_mul, ← Nat.pow_succ, show (k - 1).succ = k by omega]
    · rw [(sel k).2, wsum_append, pairs_take R _ (by omega)]
      have := take_least R h.srt (h.nonneg h0) X (2 * (X.length / 2)) hX (by omega)
      omega
theorem prs_mem {R : List Pk} {q : Pk × Pk} (h : q ∈ prs R) : q.1 ∈ R ∧ q.2 ∈ R := by
  obtain ⟨z, hu, _⟩ := prs_unp R
  exact ⟨by rw [← hu]; exact List.mem_append_left _ (by simp only [unp, List.mem_flatMap]; exact ⟨q, h, by simp⟩), by rw [← hu]; exact List.mem_append_left _ (by simp only [unp, List.mem_flatMap]; exact ⟨q, h, by simp⟩)⟩
theorem prs_srt : ∀ (R : List Pk), Srt R → (prs R).Pairwise (fun q p => q.2.1 ≤ p.1.1) ∧ ∀ q ∈ prs R, q.1.1 ≤ q.2.1
  | [], _ => ⟨List.Pairwise.nil, fun q h => by cases h⟩
  | [a], _ => ⟨List.Pairwise.nil, fun q h => by cases h⟩
  | a :: b :: l, h => by
    obtain ⟨h1, h2⟩ := List.pairwise_cons.1 h
    obtain ⟨h3, h4⟩ := List.pairwise_cons.1 h2
    obtain ⟨i1, i2⟩ := prs_srt l h4
    refine ⟨List.pairwise_cons.2 ⟨fun q hq => h3 _ (prs_mem hq).1, i1⟩, fun q hq => ?_⟩
    rcases List.mem_cons.1 hq with rfl | hq
    · exact h1 _ (by simp)
    · exact i2 q hq
/-- a part of a row, with all that is lighter -/
def Low (C Z R : List Pk) : Prop := (C ++ Z).Perm R ∧ ∀ p ∈ C, ∀ q ∈ Z, p.1 ≤ q.1
theorem Low.take {R : List Pk} (h : Srt R) (m : Nat) : Low (R.take m) (R.drop m) R :=
  ⟨by rw [List.take_append_drop], fun p hp q hq => by
    have : (R.take m ++ R.drop m).Pairwise (fun a b => a.1 ≤ b.1) := by rw [List.take_append_drop]; exact h
    exact (List.pairwise_append.1 this).2.2 p hp q hq⟩
theorem prs_last : ∀ (R : List Pk), Srt R → ∀ z, unp (prs R) ++ z = R → ∀ y ∈ z, ∀ x ∈ unp (prs R), x.1 ≤ y.1 := fun R h z e y hy x hx => by
  have : (unp (prs R) ++ z).Pairwise (fun a b => a.1 ≤ b.1) := by rw [e]; exact h
  exact (List.pairwise_append.1 this).2.2 x hx y hy
theorem RowK.order {S R : List Pk} {k : Nat} {ss : List Int} (hS : Sing S ss) (w : Int → Int) (hw : ∀ x ∈ S, x.1 = isum w x.2) (h : RowK S k R) {a b : Int} (hb : b ∈ ss) (hab : w b < w a) :
    ∀ C Z, Low C Z R → lng C a ≤ lng C b := by
  have single : ∀ C Z, (C ++ Z).Perm S → (∀ p ∈ C, ∀ q ∈ Z, p.1 ≤ q.1) → (syl C).count a ≤ (syl C).count b := by
    intro C Z hp hl
    have hsp : (syl C ++ syl Z).Perm ss := by rw [← syl_append, ← hS.syls]; exact syl_perm hp
    have hn := hsp.nodup_iff.2 hS.nd
    have h1 : (syl C).count a ≤ 1 := List.nodup_iff_count.1 (List.nodup_append.1 hn).1 a
    by_cases ha : a ∈ syl C
    · have hbm := hsp.mem_iff.2 hb
      rcases List.mem_append.1 hbm with hbC | hbZ
      · have := List.count_pos_iff.2 hbC; omega
      · exfalso
        obtain ⟨x, hx, hax⟩ := List.mem_flatMap.1 ha
        obtain ⟨y, hy, hby⟩ := List.mem_flatMap.1 hbZ
        have hxS := hp.mem_iff.1 (List.mem_append_left _ hx)
        have hyS := hp.mem_iff.1 (List.mem_append_right _ hy)
        obtain ⟨s, _, es⟩ := hS.one x hxS
        obtain ⟨t, _, et⟩ := hS.one y hyS
        rw [es] at hax; rw [et] at hby
        simp at hax hby
        subst hax; subst hby
        have w1 := hw x hxS
        have w2 := hw y hyS
        rw [es] at w1; rw [et] at w2
        simp [isum] at w1 w2
        have := hl x hx y hy
        omega
    · rw [List.count_eq_zero.2 ha]; omega
  induction h with
  | one R p _ => exact fun C Z hL => single C Z (hL.1.trans p) hL.2
  | @more k R Q h p _ ih =>
    intro C Z hL
    obtain ⟨hp, hl⟩ := hL
    have hz := hp.trans p
    have hpos := h.pos hS
    have h1 : ∀ x ∈ pkgs R, decide (2 ≤ x.2.length) = true := fun x hx => by
      obtain ⟨q, hq, rfl⟩ := List.mem_map.1 hx
      have e1 := hpos q.1 (prs_mem hq).1
      have e2 := hpos q.2 (prs_mem hq).2
      simp only [pjoin, List.length_append, decide_eq_true_eq]; omega
    have h2 : ∀ x ∈ S, decide (2 ≤ x.2.length) = false := fun x hx => by obtain ⟨s, _, e⟩ := hS.one x hx; rw [e]; simp
    have f1 := hz.filter (fun x => decide (2 ≤ x.2.length))
    have f2 := hz.filter (fun x => !decide (2 ≤ x.2.length))
    rw [List.filter_append, List.filter_append, List.filter_eq_self.2 h1, (List.filter_eq_nil_iff (l := S)).2 (fun x hx => by rw [h2 x hx]; simp), List.append_nil] at f1
    rw [List.filter_append, List.filter_append, (List.filter_eq_nil_iff (l := pkgs R)).2 (fun x hx => by rw [h1 x hx]; simp), (List.filter_eq_self (l := S)).2 (fun x hx => by rw [h2 x hx]; rfl), List.nil_append] at f2
    have hC := (List.filter_append_perm (fun x : Pk => decide (2 ≤ x.2.length)) C).symm
    obtain ⟨M, hM, hm⟩ := perm_lift pjoin f1 (prs R) rfl
    obtain ⟨B, B', e, hb1, hb2⟩ := List.map_eq_append_iff.1 hm
    obtain ⟨z, hu, _⟩ := prs_unp R
    obtain ⟨s1, s2⟩ := prs_srt R h.srt
    have hpw : (B ++ B').Pairwise (fun q p => q.2.1 ≤ p.1.1 ∨ p.2.1 ≤ q.1.1) := by
      rw [← e]
      exact (List.Perm.pairwise_iff (R := fun (q p : Pk × Pk) => q.2.1 ≤ p.1.1 ∨ p.2.1 ≤ q.1.1) (fun hh => hh.symm) hM).2 (s1.imp Or.inl)
    have hcross := (List.pairwise_append.1 hpw).2.2
    have hmem : ∀ q, q ∈ B ++ B' → q ∈ prs R := fun q hq => hM.mem_iff.1 (e ▸ hq)
    have hlow : Low (unp B) (unp B' ++ z) R := by
      refine ⟨?_, ?_⟩
      · rw [← List.append_assoc]
        have h3 : (unp M).Perm (unp (prs R)) := hM.flatMap_right _
        have h4 : unp M = unp B ++ unp B' := by rw [e]; simp [unp]
        rw [← h4]
        conv => rhs; rw [← hu]
        exact h3.append_right z
      · intro y hy y' hy'
        simp only [unp, List.mem_flatMap] at hy
        obtain ⟨q, hq, hyq⟩ := hy
        have hqR := hmem q (List.mem_append_left _ hq)
        rcases List.mem_append.1 hy' with hy' | hy'
        · simp only [unp, List.mem_flatMap] at hy'
          obtain ⟨q', hq', hyq'⟩ := hy'
          have hqR' := hmem q' (List.mem_append_right _ hq')
          have c1 := s2 q hqR
          have c2 := s2 q' hqR'
          have c3 := hcross q hq q' hq'
          have c4 : (pjoin q).1 ≤ (pjoin q').1 := by
            refine hl _ ?_ _ ?_
            · exact (List.mem_filter.1 (hb1 ▸ List.mem_map.2 ⟨q, hq, rfl⟩)).1
            · exact (List.mem_filter.1 (hb2 ▸ List.mem_map.2 ⟨q', hq', rfl⟩)).1
          simp only [pjoin] at c4
          simp at hyq hyq'
          rcases hyq with rfl | rfl <;> rcases hyq' with rfl | rfl <;> rcases c3 with c3 | c3 <;> omega
        · exact prs_last R h.srt z hu y' hy' y (by simp only [unp, List.mem_flatMap]; exact ⟨q, hqR, hyq⟩)
    have i1 := ih _ _ hlow
    have e1 : ∀ s, lng C s = lng (unp B) s + (syl (C.filter fun x => !decide (2 ≤ x.2.length))).count s := fun s => by
      rw [lng_perm hC, lng_app]; simp only [lng]; rw [← hb1, syl_join]
    rw [e1, e1]
    have := single _ _ f2 fun p hp q hq => hl p (List.mem_filter.1 hp).1 q (List.mem_filter.1 hq).1
    omega
theorem nsum_const {α : Type} (l : List α) : nsum (fun _ => 1) l = l.length := by
  induction l with
  | nil => rfl
  | cons a l ih => rw [nsum_cons, ih, List.length_cons]; omega
/-- WHAT PACKAGES GIVE: the lengths of the words, as many as a symbol lies in what is taken of the last row. -/
theorem best_spec {S R : List Pk} {ss : List Int} (hS : Sing S ss) (w : Int → Int) (hw : ∀ x ∈ S, x.1 = isum w x.2) (h0 : ∀ s ∈ ss, 0 ≤ w s) (h1 : 1 ≤ ss.length) (h2 : ss.length < 32768) (hR : RowK S 16 R) :
    2 * ss.length - 2 ≤ R.length ∧
    (∀ s, lng (R.take (2 * ss.length - 2)) s ≤ 16) ∧ (∀ s, s ∉ ss → lng (R.take (2 * ss.length - 2)) s = 0) ∧
    nsum (fun s => 2 ^ (16 - lng (R.take (2 * ss.length - 2)) s)) ss ≤ 2 ^ 16 ∧
    (∀ len : Int → Nat, (∀ s ∈ ss, len s ≤ 16) → nsum (fun s => 2 ^ (16 - len s)) ss ≤ 2 ^ 16 → isum (fun s => w s * (lng (R.take (2 * ss.length - 2)) s : Nat)) ss ≤ isum (fun s => w s * (len s : Nat)) ss) ∧
    (∀ a b, b ∈ ss → w b < w a → lng (R.take (2 * ss.length - 2)) a ≤ lng (R.take (2 * ss.length - 2)) b) := by
  have hSl := hS.len
  have hlong := hR.long (by omega)
  have hd : S.length / 2 ^ (16 - 1) = 0 := Nat.div_eq_of_lt (by omega)
  rw [hd] at hlong
  have hlen : 2 * ss.length - 2 ≤ R.length := by omega
  obtain ⟨k1, k2, k3⟩ := hR.kraft hS _ (LiesIn.take R (2 * ss.length - 2))
  have h0S : ∀ x ∈ S, 0 ≤ x.1 := fun x hx => by
    obtain ⟨s, hs, e⟩ := hS.one x hx
    have := hw x hx; rw [e] at this; simp [isum] at this
    have := h0 s hs; omega
  refine ⟨hlen, k1, fun s hs => List.count_eq_zero.2 fun hm => hs (k3 s hm), ?_, ?_, fun a b hb hab => hR.order hS w hw hb hab _ _ (Low.take hR.srt _)⟩
  · rw [List.length_take, Nat.min_eq_left hlen] at k2
    have e : nsum (fun s => 2 ^ 16 - 2 ^ (16 - lng (R.take (2 * ss.length - 2)) s)) ss + nsum (fun s => 2 ^ (16 - lng (R.take (2 * ss.length - 2)) s)) ss = ss.length * 2 ^ 16 := by
      rw [← nsum_add, nsum_congr _ (fun _ => 1 * 2 ^ 16) ss fun s _ => ?_, nsum_mul, nsum_const]
      · have : 2 ^ (16 - lng (R.take (2 * ss.length - 2)) s) ≤ 2 ^ 16 := Nat.pow_le_pow_right (by omega) (by omega)
        omega
    omega
  · intro len hl hk
    obtain ⟨X, hX, hXl, hXw⟩ := hR.lower 16 (fun x => len (x.2.headD 0)) h0S
    have conv1 : nsum (fun x : Pk => fN 16 (len (x.2.headD 0)) 16) S = nsum (fun s => fN 16 (len s) 16) ss := by
      have : S.map (fun x : Pk => fN 16 (len (x.2.headD 0)) 16) = (S.map (·.2)).map fun l => fN 16 (len (l.headD 0)) 16 := by rw [List.map_map]; rfl
      simp only [nsum]; rw [this, hS.syms, List.map_map]; rfl
    have conv2 : isum (fun x : Pk => x.1 * (fC 16 (len (x.2.headD 0)) 16 : Nat)) S = isum (fun s => w s * (len s : Nat)) ss := by
      have e1 : S.map (fun x : Pk => x.1 * (fC 16 (len (x.2.headD 0)) 16 : Nat)) = (S.map (·.2)).map fun l => isum w l * (fC 16 (len (l.headD 0)) 16 : Nat) := by
        rw [List.map_map]; exact List.map_congr_left fun x hx => by simp only [Function.comp]; rw [hw x hx]
      simp only [isum] at e1 ⊢; rw [e1, hS.syms, List.map_map]
      have := isum_congr (fun s => (List.map w [s]).sum * (fC 16 (len s) 16 : Nat)) (fun s => w s * (len s : Nat)) ss fun s hs => by rw [fC_16 _ (hl s hs)]; simp
      simp only [isum] at this
      exact this
    rw [conv1] at hXl
    rw [conv2] at hXw
    have e : nsum (fun s => fN 16 (len s) 16) ss + nsum (fun s => 2 ^ (16 - len s)) ss = ss.length * 2 ^ 16 := by
      rw [← nsum_add, nsum_congr _ (fun _ => 1 * 2 ^ 16) ss fun s hs => by rw [fN_16 _ (hl s hs), Nat.one_mul], nsum_mul, nsum_const]
    have hm : 2 * ss.length - 2 ≤ X.length := by
      rw [hXl, Nat.le_div_iff_mul_le (Nat.two_pow_pos _)]
      rw [show (2 : Nat) ^ 16 = 65536 from rfl] at e hk
      rw [show (16 : Nat) - 1 = 15 from rfl, show (2 : Nat) ^ 15 = 32768 from rfl]
      generalize nsum (fun s => fN 16 (len s) 16) ss = A at e ⊢
      generalize nsum (fun s => 2 ^ (16 - len s)) ss = B at e hk
      clear hXl hXw hX conv1 conv2 hd hlong hlen k1 k2 k3 hl
      omega
    have := take_least R hR.srt (hR.nonneg h0S) X _ hX hm
    have wt : wsum (R.take (2 * ss.length - 2)) = isum (fun s => w s * (lng (R.take (2 * ss.length - 2)) s : Nat)) ss := by
      rw [wsum_syl w _ fun x hx => hR.weigh w hw x (List.mem_of_mem_take hx), isum_count w ss hS.nd _ k3]; rfl
    omega
theorem nsum_mem_le {α : Type} (f : α → Nat) {l : List α} {x : α} (h : x ∈ l) : f x ≤ nsum f l := by
  induction l with
  | nil => cases h
  | cons a l ih => rw [nsum_cons]; rcases List.mem_cons.1 h with rfl | h; omega; have := ih h; omega
theorem nsum_two {α : Type} (f : α → Nat) {l : List α} {x y : α} (hx : x ∈ l) (hy : y ∈ l) (hn : x ≠ y) : f x + f y ≤ nsum f l := by
  induction l with
  | nil => cases hx
  | cons a l ih =>
    rw [nsum_cons]
    rcases List.mem_cons.1 hx with e1 | hx <;> rcases List.mem_cons.1 hy with e2 | hy
    · exact absurd (e1.trans e2.symm) hn
    · have := nsum_mem_le f hy; rw [e1]; omega
    · have := nsum_mem_le f hx; rw [e2]; omega
    · have := ih hx hy; omega
/-- every symbol has a word, if there is more than one -/
theorem kraft_pos {ss : List Int} {f : Int → Nat} (hk : nsum (fun s => 2 ^ (16 - f s)) ss ≤ 2 ^ 16) {a b : Int} (ha : a ∈ ss) (hb : b ∈ ss) (hab : a ≠ b) : 1 ≤ f a := by
  have h1 : 2 ^ (16 - f a) + 2 ^ (16 - f b) ≤ nsum (fun s => 2 ^ (16 - f s)) ss := nsum_two (fun s => 2 ^ (16 - f s)) ha hb hab
  rcases Nat.lt_or_ge (f a) 1 with h | h
  · have : f a = 0 := by omega
    rw [this] at h1
    have : 1 ≤ 2 ^ (16 - f b) := Nat.one_le_two_pow
    omega
  · exact h
end Go.Proofs.YtehbjhocgnfpmaaDoor

/- Maps that a call makes, keyed by ints or by pairs of ints, told by a function from keys to values. -/
namespace Go.Proofs.YtehbjhocgnfpmaaDoor
open Go.RowKit
/-- An entry of a map, the key encoded. -/
def entryOf {K : Type} (enc : K → Value) (x : K × Value × Nat) : MapEntry := { key := enc x.1, val := x.2.1, born := x.2.2 }
/-- The first entry with a key. -/
def findIn {K : Type} [DecidableEq K] (k : K) : List (K × Value × Nat) → Nat → Option (Nat × Value)
  | [], _ => none
  | x :: l, i => if k = x.1 then some (i, x.2.1) else findIn k l (i + 1)
/-- What the laws of a map ask of its keys' type. -/
structure KeyLaw {K : Type} [DecidableEq K] (P : Program) (kt : TypeId) (enc : K → Value) : Prop where
  check : ∀ (w : World) (b : Bool) (k : K), (Instr.checkKey b 10000 kt (enc k)).run P w = .ok () w
  find : ∀ (w : World) (k : K) (l : List (K × Value × Nat)), (Instr.findKey kt (enc k) (l.map (entryOf enc))).run P w = .ok (findIn k l 0) w
  same : ∀ k, Instr.sameBits 10000 (enc k) (enc k) = true
/-- Block b is a map: f tells its values. -/
def MapF {K : Type} [DecidableEq K] (enc : K → Value) (w : World) (b : Nat) (f : K → Option Value) : Prop :=
  ∃ (l : List (K × Value × Nat)) (clock : Nat), w.heap[b]? = some (.map (l.map (entryOf enc)).toArray clock) ∧ ∀ k, (findIn k l 0).map (·.2) = f k
section
variable {K : Type} [DecidableEq K] {P : Program} {enc : K → Value}
theorem findIn_shift (k : K) (l : List (K × Value × Nat)) : ∀ i, findIn k l i = (findIn k l 0).map fun x => (x.1 + i, x.2) := by
  induction l with
  | nil => intro i; rfl
  | cons x l ih =>
    intro i
    simp only [findIn]
    split
    · simp
    · rw [ih (i + 1), ih (0 + 1)]
      cases findIn k l 0 with
      | none => rfl
      | some y => simp; omega
theorem findIn_append (k : K) (l m : List (K × Value × Nat)) : ∀ i, findIn k (l ++ m) i = (findIn k l i).or (findIn k m (i + l.length)) := by
  induction l with
  | nil => intro i; simp [findIn]
  | cons x l ih =>
    intro i
    simp only [List.cons_append, findIn]
    split
    · simp
    · rw [ih, List.length_cons, show i + 1 + l.length = i + (l.length + 1) by omega]
theorem findIn_modify (k j : K) (v : Value) : ∀ (l : List (K × Value × Nat)) (n i : Nat) (u : Value), findIn k l n = some (n + i, u) →
    (findIn j (l.modify i fun e => (k, v, e.2.2)) n).map (·.2) = if j = k then some v else (findIn j l n).map (·.2) := by
  intro l
  induction l with
  | nil => intro n i u h; simp [findIn] at h
  | cons x l ih =>
    intro n i u h
    simp only [findIn] at h
    split at h
    · rename_i hk
      simp only [Option.some.injEq, Prod.mk.injEq] at h
      have hi : i = 0 := by omega
      subst hi
      simp only [List.modify_zero_cons, findIn]
      by_cases hj : j = k
      · simp [hj]
      · have : ¬ j = x.1 := fun e => hj (e.trans hk.symm)
        simp [hj, this]
    · rename_i hk
      cases i with
      | zero =>
        exfalso
        rw [findIn_shift] at h
        cases hf : findIn k l 0 with
        | none => simp [hf] at h
        | some y => simp [hf] at h; omega
      | succ i =>
        simp only [List.modify_succ_cons, findIn]
        have h' : findIn k l (n + 1) = some (n + 1 + i, u) := by rw [h]; congr 2; omega
        split
        · rename_i hj
          have : ¬ j = k := fun e => hk (e ▸ hj)
          simp [this]
        · exact ih (n + 1) i u h'
theorem MapF.new (w : World) : MapF enc (w.alloc (.map #[] 0)) w.heap.size (fun _ => none) :=
  ⟨[], 0, heap_alloc_new w _, fun _ => rfl⟩
theorem MapF.lt {w : World} {b : Nat} {f : K → Option Value} (h : MapF enc w b f) : b < w.heap.size := by
  obtain ⟨l, c, h, _⟩ := h
  exact (Array.getElem?_eq_some_iff.1 h).1
theorem MapF.of_heap {w w' : World} {b : Nat} {f : K → Option Value} (h : MapF enc w b f) (hh : w'.heap[b]? = w.heap[b]?) : MapF enc w' b f := by
  obtain ⟨l, c, h, hf⟩ := h
  exact ⟨l, c, by rw [hh]; exact h, hf⟩
theorem shape_map {w : World} {b : Nat} {es : Array MapEntry} {c : Nat} (h : w.heap[b]? = some (.map es c)) : (getObj b : Sem Obj).run P w = .ok (.map es c) w := by
  simp [getObj, Sem.run, h]
/-- 'm[k]'. -/
theorem MapF.lookup {w : World} {b : Nat} {f : K → Option Value} {mt kt et : TypeId} (h : MapF enc w b f) (hm : P.underlying mt = some (.map kt et)) (law : KeyLaw P kt enc) (k : K) (ok : Bool)
    {z : Value} (hz : ∀ w, (zeroValue et).run P w = .ok z w) :
    (Instr.lookup mt (.map (some b)) (enc k) ok).run P w = .ok (if ok then .tuple #[(f k).getD z, .bool (f k).isSome] else (f k).getD z) w := by
  obtain ⟨l, c, hb, hf⟩ := h
  have hfk := hf k
  simp only [Instr.lookup, Sem.run_bind, run_underlying hm, Result.andThen_ok, shape_map hb, Sem.run_pure, law.check, law.find]
  cases hfi : findIn k l 0 with
  | none =>
    rw [hfi] at hfk
    simp only [Option.map_none] at hfk
    rw [← hfk]
    simp [hz]
  | some y =>
    rw [hfi] at hfk
    simp only [Option.map_some] at hfk
    rw [← hfk]
    simp
/-- 'm[k] = v'. -/
theorem MapF.update {w : World} {b : Nat} {f : K → Option Value} {mt kt et : TypeId} (h : MapF enc w b f) (hm : P.underlying mt = some (.map kt et)) (law : KeyLaw P kt enc) (k : K) (v : Value) :
    ∃ w', (Instr.mapUpdate mt (.map (some b)) (enc k) v).run P w = .ok () w' ∧ MapF enc w' b (fun j => if j = k then some v else f j) ∧
      (∀ W, W.heap.size ≤ b → Ext W w → Ext W w') ∧ ∀ i, i ≠ b → w'.heap[i]? = w.heap[i]? := by
  obtain ⟨l, c, hb, hf⟩ := h
  have hlt : b < w.heap.size := (Array.getElem?_eq_some_iff.1 hb).1
  have hset : ∀ o : Obj, (setObj b o).run P w = .ok () { w with heap := w.heap.setIfInBounds b o } := by
    intro o
    simp [setObj, Sem.run, hb]
  have hext : ∀ (o : Obj) W, W.heap.size ≤ b → Ext W w → Ext W { w with heap := w.heap.setIfInBounds b o } := fun o W hW hE =>
    Below.trans hE ⟨rfl, rfl, rfl, by simp, fun i hi => by simp only [Array.getElem?_setIfInBounds]; rw [if_neg (by omega)]⟩
  have hoth : ∀ (o : Obj) i, i ≠ b → ({ w with heap := w.heap.setIfInBounds b o } : World).heap[i]? = w.heap[i]? := fun o i hi => by
    simp only [Array.getElem?_setIfInBounds]; rw [if_neg (fun e => hi e.symm)]
  have hnew : ∀ (o : Obj), ({ w with heap := w.heap.setIfInBounds b o } : World).heap[b]? = some o := fun o => by
    simp [hlt]
  cases hfi : findIn k l 0 with
  | none =>
    refine ⟨{ w with heap := w.heap.setIfInBounds b (.map ((l ++ [(k, v, c)]).map (entryOf enc)).toArray (c + 1)) }, ?_, ⟨l ++ [(k, v, c)], c + 1, hnew _, fun j => ?_⟩, hext _, hoth _⟩
    · simp only [Instr.mapUpdate, Sem.run_bind, run_underlying hm, Result.andThen_ok, shape_map hb, law.check, law.find, hfi]
      rw [hset]
      congr 4
      simp [entryOf]
    · show _ = if j = k then some v else f j
      rw [findIn_append, ← hf j]
      by_cases hj : j = k
      · subst hj; simp [hfi, findIn]
      · cases findIn j l 0 <;> simp [findIn, hj]
  | some y =>
    obtain ⟨i, u⟩ := y
    have hmod := fun j => findIn_modify k j v l 0 i u (by rw [hfi]; simp)
    have hik : ∃ e, l[i]? = some e ∧ e.1 = k := by
      have : ∀ (l : List (K × Value × Nat)) n i u, findIn k l n = some (n + i, u) → ∃ e, l[i]? = some e ∧ e.1 = k := by
        intro l
        induction l with
        | nil => intro n i u h; simp [findIn] at h
        | cons x l ih =>
          intro n i u h
          simp only [findIn] at h
          split at h
          · rename_i hk
            simp only [Option.some.injEq, Prod.mk.injEq] at h
            have hi : i = 0 := by omega
            subst hi
            exact ⟨x, rfl, hk.symm⟩
          · cases i with
            | zero =>
              exfalso
              rw [findIn_shift] at h
              cases hf : findIn k l 0 with
              | none => simp [hf] at h
              | some y => simp [hf] at h; omega
            | succ i => exact ih (n + 1) i u (by rw [h]; congr 2; omega)
      exact this l 0 i u (by rw [hfi]; simp)
    obtain ⟨e, he, hek⟩ := hik
    refine ⟨{ w with heap := w.heap.setIfInBounds b (.map ((l.modify i fun e => (k, v, e.2.2)).map (entryOf enc)).toArray c) }, ?_, ⟨l.modify i fun e => (k, v, e.2.2), c, hnew _, fun j => ?_⟩, hext _, hoth _⟩
    · simp only [Instr.mapUpdate, Sem.run_bind, run_underlying hm, Result.andThen_ok, shape_map hb, law.check, law.find, hfi]
      have hold : (((l.map (entryOf enc)).toArray[i]?).map (·.key)).getD (enc k) = enc k := by simp [he, entryOf, hek]
      rw [hold]
      simp only [Instr.keyThatStays, law.same, if_true, Sem.run_pure, Result.andThen_ok]
      rw [hset]
      congr 4
      apply Array.ext_getElem?
      intro j
      simp only [Array.getElem?_modify, List.getElem?_toArray, List.getElem?_map, List.getElem?_modify]
      by_cases hij : i = j
      · subst hij; simp [he, entryOf]
      · simp [hij]
    · rw [hmod j, hf j]
end
/-- Ints as keys. -/
def ik (n : Int) : Value := .int .i64 n
theorem keyLaw_int {P : Program} {kt : TypeId} (h : P.underlying kt = some (.int .i64)) : KeyLaw P kt ik where
  check w b k := by
    unfold ik
    rw [show (10000 : Nat) = 9999 + 1 from rfl, Instr.checkKey]
    simp [run_underlying h]
  find w k l := by
    have key : ∀ (l : List (Int × Value × Nat)) i, Instr.findNow (.int .i64) (ik k) (l.map (entryOf ik)) i = some (findIn k l i) := by
      intro l
      induction l with
      | nil => intro i; rfl
      | cons x l ih =>
        intro i
        simp only [List.map_cons, Instr.findNow, findIn, entryOf, ik, Instr.sameNow, if_true]
        by_cases hx : k = x.1
        · simp [hx]
        · have : (k == x.1) = false := by simpa using hx
          simp only [this, hx, if_false]
          exact ih (i + 1)
    simp [Instr.findKey, run_underlying h, key]
  same k := by unfold ik; rw [Instr.sameBits.eq_2]; simp
section
variable {K : Type} [DecidableEq K] {P : Program} {enc : K → Value}
end
end Go.Proofs.YtehbjhocgnfpmaaDoor

/- Structs with rows of ints and single values among their fields: cells in parts. -/
namespace Go.Proofs.YtehbjhocgnfpmaaDoor
open Go.RowKit
set_option linter.unusedVariables false
/-- A part of a struct's cells: a row of ints, or one value. -/
inductive Part where
  | ints (l : List Int)
  | val (v : Value)
def Part.cells : Part → List Value
  | .ints l => l.map (Value.int .i64)
  | .val v => [v]
def pcells : List Part → List Value
  | [] => []
  | p :: ps => p.cells ++ pcells ps
/-- Block g holds these parts. -/
def prt (g : Nat) (ps : List Part) : Res := blk g (pcells ps)
/-- The number at a place. -/
inductive AtI : List Part → Nat → List Int → Nat → Prop
  | head {l : List Int} {ps : List Part} {off n : Nat} (hn : Len l n) (h : off < n) : AtI (.ints l :: ps) off l off
  | skipI {l : List Int} {ps : List Part} {off n o2 r : Nat} {l' : List Int} (hn : Len l n) (h : n ≤ off) (ho : off - n = o2) (t : AtI ps o2 l' r) : AtI (.ints l :: ps) off l' r
  | skipV {v : Value} {ps : List Part} {off r : Nat} {l' : List Int} (t : AtI ps off l' r) : AtI (.val v :: ps) (off + 1) l' r
theorem AtI.get {ps : List Part} {off r : Nat} {l : List Int} (h : AtI ps off l r) : (pcells ps)[off]? = some (.int .i64 (nth l r)) := by
  induction h with
  | @head l ps off n hn h =>
    have hl := hn.out
    rw [pcells, Part.cells, List.getElem?_append_left (by simp; omega), List.getElem?_map, get_nth l off (by omega)]; rfl
  | @skipI l ps off n o2 r l' hn h ho t ih =>
    have hl := hn.out
    rw [pcells, Part.cells, List.getElem?_append_right (by simp; omega), List.length_map, hl, ho, ih]
  | @skipV v ps off r l' t ih =>
    rw [pcells, Part.cells, List.singleton_append, List.getElem?_cons_succ, ih]
/-- The value at a place. -/
inductive AtV : List Part → Nat → Value → Prop
  | head {v : Value} {ps : List Part} : AtV (.val v :: ps) 0 v
  | skipI {l : List Int} {ps : List Part} {off n o2 : Nat} {v : Value} (hn : Len l n) (h : n ≤ off) (ho : off - n = o2) (t : AtV ps o2 v) : AtV (.ints l :: ps) off v
  | skipV {u v : Value} {ps : List Part} {off : Nat} (t : AtV ps off v) : AtV (.val u :: ps) (off + 1) v
theorem AtV.get {ps : List Part} {off : Nat} {v : Value} (h : AtV ps off v) : (pcells ps)[off]? = some v := by
  induction h with
  | head => rfl
  | @skipI l ps off n o2 v hn h ho t ih =>
    have hl := hn.out
    rw [pcells, Part.cells, List.getElem?_append_right (by simp; omega), List.length_map, hl, ho, ih]
  | @skipV u v ps off t ih =>
    rw [pcells, Part.cells, List.singleton_append, List.getElem?_cons_succ, ih]
/-- Some cells that are parts: m cells from a place on. -/
inductive Pre : List Part → Nat → List Part → Prop
  | nil {ps : List Part} : Pre ps 0 []
  | ints {l : List Int} {ps ss : List Part} {n m m2 : Nat} (hn : Len l n) (h : n ≤ m) (hm : m - n = m2) (t : Pre ps m2 ss) : Pre (.ints l :: ps) m (.ints l :: ss)
  | val {v : Value} {ps ss : List Part} {m : Nat} (t : Pre ps m ss) : Pre (.val v :: ps) (m + 1) (.val v :: ss)
theorem Pre.take {ps ss : List Part} {m : Nat} (h : Pre ps m ss) : (pcells ps).take m = pcells ss ∧ (pcells ss).length = m := by
  induction h with
  | nil => exact ⟨by simp [pcells], rfl⟩
  | @ints l ps ss n m m2 hn h hm t ih =>
    have hl := hn.out
    refine ⟨?_, by simp only [pcells, Part.cells, List.length_append, List.length_map, ih.2]; omega⟩
    rw [pcells, pcells, Part.cells, List.take_append, List.length_map, hl, hm, ih.1, List.take_of_length_le (by simp; omega)]
  | @val v ps ss m t ih =>
    exact ⟨by simp only [pcells, Part.cells, List.singleton_append, List.take_succ_cons, ih.1], by simp only [pcells, Part.cells, List.singleton_append, List.length_cons, ih.2]⟩
inductive AtP : List Part → Nat → Nat → List Part → Prop
  | head {ps ss : List Part} {m : Nat} (h : Pre ps m ss) : AtP ps 0 m ss
  | skipI {l : List Int} {ps ss : List Part} {off n o2 m : Nat} (hn : Len l n) (h : n ≤ off) (ho : off - n = o2) (t : AtP ps o2 m ss) : AtP (.ints l :: ps) off m ss
  | skipV {u : Value} {ps ss : List Part} {off m : Nat} (t : AtP ps off m ss) : AtP (.val u :: ps) (off + 1) m ss
theorem AtP.get {ps ss : List Part} {off m : Nat} (h : AtP ps off m ss) : ((pcells ps).drop off).take m = pcells ss ∧ (pcells ss).length = m := by
  induction h with
  | head h => rw [List.drop_zero]; exact h.take
  | @skipI l ps ss off n o2 m hn h ho t ih =>
    have hl := hn.out
    rw [pcells, Part.cells, List.drop_append, List.length_map, hl, ho, List.drop_of_length_le (by simp; omega), List.nil_append]; exact ih
  | @skipV u ps ss off m t ih =>
    rw [pcells, Part.cells, List.singleton_append, List.drop_succ_cons]; exact ih
/-- A row of ints alone. -/
inductive AtR : List Part → Nat → Nat → List Int → Prop
  | head {l : List Int} {ps : List Part} {n : Nat} (hn : Len l n) : AtR (.ints l :: ps) 0 n l
  | skipI {l l' : List Int} {ps : List Part} {off n o2 m : Nat} (hn : Len l n) (h : n ≤ off) (ho : off - n = o2) (t : AtR ps o2 m l') : AtR (.ints l :: ps) off m l'
  | skipV {u : Value} {l' : List Int} {ps : List Part} {off m : Nat} (t : AtR ps off m l') : AtR (.val u :: ps) (off + 1) m l'
theorem AtR.get {ps : List Part} {off m : Nat} {l : List Int} (h : AtR ps off m l) : ((pcells ps).drop off).take m = l.map (Value.int .i64) ∧ l.length = m := by
  induction h with
  | @head l ps n hn =>
    have hl := hn.out
    rw [List.drop_zero, pcells, Part.cells, List.take_append, List.length_map, hl, Nat.sub_self, List.take_of_length_le (by simp; omega)]
    exact ⟨by simp, rfl⟩
  | @skipI l l' ps off n o2 m hn h ho t ih =>
    have hl := hn.out
    rw [pcells, Part.cells, List.drop_append, List.length_map, hl, ho, List.drop_of_length_le (by simp; omega), List.nil_append]; exact ih
  | @skipV u l' ps off m t ih =>
    rw [pcells, Part.cells, List.singleton_append, List.drop_succ_cons]; exact ih
section
variable {P : Program} {W w : World} {rs rs' : List Res} {Q : Exit → Act → World → Prop} {K : Act → World → Prop} {o : Oper} {a : Act}
theorem wp_load1P (hS : St W w rs) (ty : TypeId) (x : Operand) (ho : o.op = .load ty x) (g off : Nat) (hx : a.eval x = .pointer (some ⟨g, off, none⟩)) (h1 : One P ty) (ps : List Part) (hp : Pull (prt g ps) rs rs')
    (l : List Int) (r : Nat) (hi : AtI ps off l r) (h : K (a.put o.dst (.int .i64 (nth l r))) w) : o.wp P a w K Q :=
  wp_load1 hS ty x ho g off hx h1 _ hp _ hi.get h
theorem wp_loadVP (hS : St W w rs) (ty : TypeId) (x : Operand) (ho : o.op = .load ty x) (g off : Nat) (hx : a.eval x = .pointer (some ⟨g, off, none⟩)) (h1 : One P ty) (ps : List Part) (hp : Pull (prt g ps) rs rs')
    (v : Value) (hi : AtV ps off v) (h : K (a.put o.dst v) w) : o.wp P a w K Q :=
  wp_load1 hS ty x ho g off hx h1 _ hp _ hi.get h
theorem prt_range {g off m : Nat} {ps : List Part} {cs : List Value} (hS : St W w rs) (hp : Pull (prt g ps) rs rs') (h : ((pcells ps).drop off).take m = cs) : w.rangeAt g off cs := fun j v hv => by
  rw [← h, List.getElem?_take] at hv
  split at hv
  · rw [List.getElem?_drop] at hv
    rw [(St.blk hS hp).1.cell]; simpa using hv
  · cases hv
theorem wp_loadRP (hS : St W w rs) (ty : TypeId) (x : Operand) (ho : o.op = .load ty x) (g off : Nat) (hx : a.eval x = .pointer (some ⟨g, off, none⟩)) (m : Nat) (h1 : RowN P ty m) (ps : List Part) (hp : Pull (prt g ps) rs rs')
    (l : List Int) (hi : AtR ps off m l) (h : K (a.put o.dst (.agg (iv l))) w) : o.wp P a w K Q :=
  wp_loadR ty x ho g off hx m h1 (l.map (Value.int .i64)) (by simpa using hi.get.2) (prt_range hS hp hi.get.1) h
theorem wp_loadPP (hS : St W w rs) (ty : TypeId) (x : Operand) (ho : o.op = .load ty x) (g off : Nat) (hx : a.eval x = .pointer (some ⟨g, off, none⟩)) (m : Nat) (h1 : RowN P ty m) (ps : List Part) (hp : Pull (prt g ps) rs rs')
    (ss : List Part) (hi : AtP ps off m ss) (h : K (a.put o.dst (.agg (pcells ss).toArray)) w) : o.wp P a w K Q :=
  wp_loadR ty x ho g off hx m h1 (pcells ss) hi.get.2 (prt_range hS hp hi.get.1) h
theorem wp_boxP (hS : St W w rs) (ty : TypeId) (x : Operand) (ho : o.op = .box ty x) (ps : List Part) (hx : a.eval x = .agg (pcells ps).toArray)
    (h : ∀ g w', St W w' (prt g ps :: rs) → K (a.put o.dst (.pointer (some ⟨g, 0, none⟩))) w') : o.wp P a w K Q :=
  wp_boxG hS ty x ho (pcells ps) hx h
end
/-- A part that is turned. -/
inductive PutI (z : Int) : List Part → Nat → List Part → Prop
  | head {l : List Int} {ps : List Part} {off n : Nat} (hn : Len l n) (h : off < n) : PutI z (.ints l :: ps) off (.ints (l.set off z) :: ps)
  | skipI {l : List Int} {ps ps' : List Part} {off n o2 : Nat} (hn : Len l n) (h : n ≤ off) (ho : off - n = o2) (t : PutI z ps o2 ps') : PutI z (.ints l :: ps) off (.ints l :: ps')
  | skipV {v : Value} {ps ps' : List Part} {off : Nat} (t : PutI z ps off ps') : PutI z (.val v :: ps) (off + 1) (.val v :: ps')
theorem PutI.eq {z : Int} {ps ps' : List Part} {off : Nat} (h : PutI z ps off ps') : off < (pcells ps).length ∧ pcells ps' = (pcells ps).set off (.int .i64 z) := by
  induction h with
  | @head l ps off n hn h =>
    have hl := hn.out
    refine ⟨by simp [pcells, Part.cells]; omega, ?_⟩
    rw [pcells, pcells, Part.cells, Part.cells, List.set_append_left _ _ (by simp; omega), List.map_set]
  | @skipI l ps ps' off n o2 hn h ho t ih =>
    have hl := hn.out
    refine ⟨by simp [pcells, Part.cells]; omega, ?_⟩
    rw [pcells, pcells, Part.cells, List.set_append_right _ _ (by simp; omega), List.length_map, hl, ho, ih.2]
  | @skipV v ps ps' off t ih =>
    refine ⟨by simp [pcells, Part.cells]; omega, ?_⟩
    rw [pcells, pcells, Part.cells, List.singleton_append, List.singleton_append, List.set_cons_succ, ih.2]
inductive PutV (z : Value) : List Part → Nat → List Part → Prop
  | head {v : Value} {ps : List Part} : PutV z (.val v :: ps) 0 (.val z :: ps)
  | skipI {l : List Int} {ps ps' : List Part} {off n o2 : Nat} (hn : Len l n) (h : n ≤ off) (ho : off - n = o2) (t : PutV z ps o2 ps') : PutV z (.ints l :: ps) off (.ints l :: ps')
  | skipV {v : Value} {ps ps' : List Part} {off : Nat} (t : PutV z ps off ps') : PutV z (.val v :: ps) (off + 1) (.val v :: ps')
theorem PutV.eq {z : Value} {ps ps' : List Part} {off : Nat} (h : PutV z ps off ps') : off < (pcells ps).length ∧ pcells ps' = (pcells ps).set off z := by
  induction h with
  | head => exact ⟨by simp [pcells, Part.cells], rfl⟩
  | @skipI l ps ps' off n o2 hn h ho t ih =>
    have hl := hn.out
    refine ⟨by simp [pcells, Part.cells]; omega, ?_⟩
    rw [pcells, pcells, Part.cells, List.set_append_right _ _ (by simp; omega), List.length_map, hl, ho, ih.2]
  | @skipV v ps ps' off t ih =>
    refine ⟨by simp [pcells, Part.cells]; omega, ?_⟩
    rw [pcells, pcells, Part.cells, List.singleton_append, List.singleton_append, List.set_cons_succ, ih.2]
theorem SetAt.of {v : Value} : ∀ {l : List Value} {i : Nat}, i < l.length → SetAt v i l (l.set i v)
  | [], i, h => by simp at h
  | x :: l, 0, _ => .head
  | x :: l, i + 1, h => .tail (SetAt.of (by simpa using h))
section
variable {P : Program} {W w : World} {rs rs' : List Res} {Q : Exit → Act → World → Prop} {K : Act → World → Prop} {o : Oper} {a : Act}
theorem wp_store1P (hS : St W w rs) (ty : TypeId) (x y : Operand) (ho : o.op = .store ty x y) (g off : Nat) (hx : a.eval x = .pointer (some ⟨g, off, none⟩)) (h1 : One P ty) (ps ps' : List Part) (hp : Pull (prt g ps) rs rs')
    (z : Int) (hy : a.eval y = .int .i64 z) (hi : PutI z ps off ps') (hd : o.dst = none) (h : ∀ w', St W w' (prt g ps' :: rs') → K a w') : o.wp P a w K Q := by
  obtain ⟨h2, h3⟩ := hi.eq
  refine wp_store1 hS ty x y ho g off hx h1 (pcells ps) (pcells ps') hp (.int .i64 z) (.int hy) rfl ?_ hd h
  rw [h3]; exact SetAt.of h2
theorem wp_storeVP (hS : St W w rs) (ty : TypeId) (x y : Operand) (ho : o.op = .store ty x y) (g off : Nat) (hx : a.eval x = .pointer (some ⟨g, off, none⟩)) (h1 : One P ty) (ps ps' : List Part) (hp : Pull (prt g ps) rs rs')
    (z : Value) (hy : IsV (a.eval y) z) (hz : z.oneCell' = true) (hi : PutV z ps off ps') (hd : o.dst = none) (h : ∀ w', St W w' (prt g ps' :: rs') → K a w') : o.wp P a w K Q := by
  obtain ⟨h2, h3⟩ := hi.eq
  refine wp_store1 hS ty x y ho g off hx h1 (pcells ps) (pcells ps') hp z hy hz ?_ hd h
  rw [h3]; exact SetAt.of h2
def partOk : Part → Bool
  | .ints _ => true
  | .val v => v.oneCell'
theorem parts_one : ∀ {ps : List Part}, ps.all partOk = true → (pcells ps).all (·.oneCell') = true
  | [], _ => rfl
  | .ints l :: ps, h => by
    simp only [List.all_cons, Bool.and_eq_true] at h
    simp only [pcells, Part.cells, List.all_append, Bool.and_eq_true]
    refine ⟨?_, parts_one h.2⟩
    rw [List.all_eq_true]; intro u hu; obtain ⟨x, _, rfl⟩ := List.mem_map.1 hu; rfl
  | .val v :: ps, h => by
    simp only [List.all_cons, Bool.and_eq_true] at h
    simp only [pcells, Part.cells, List.all_append, Bool.and_eq_true]
    exact ⟨by simpa [partOk] using h.1, parts_one h.2⟩
theorem wp_storePP (hS : St W w rs) (ty : TypeId) (x y : Operand) (ho : o.op = .store ty x y) (g : Nat) (hx : a.eval x = .pointer (some ⟨g, 0, none⟩)) (m : Nat) (h1 : RowN P ty m) (ps ps' : List Part) (hp : Pull (prt g ps) rs rs')
    (hy : a.eval y = .agg (pcells ps').toArray) (hn : Pre ps m ps) (hn' : Pre ps' m ps') (hv : ps'.all partOk = true) (hd : o.dst = none) (h : ∀ w', St W w' (prt g ps' :: rs') → K a w') : o.wp P a w K Q :=
  wp_storeG hS ty x y ho g hx m h1 (pcells ps) (pcells ps') hp hy hn.take.2 hn'.take.2 (parts_one hv) hd h
theorem wp_allocP (hS : St W w rs) (ty : TypeId) (ho : o.op = .alloc ty) (ps : List Part) (hz : ∀ w, (zeroValue ty).run P w = .ok (.agg (pcells ps).toArray) w)
    (h : ∀ g w', St W w' (prt g ps :: rs) → K (a.put o.dst (.pointer (some ⟨g, 0, none⟩))) w') : o.wp P a w K Q :=
  wp_alloc hS ty ho _ (pcells ps) hz rfl h
end
end Go.Proofs.YtehbjhocgnfpmaaDoor

/- Maps that the call owns. -/
namespace Go.Proofs.YtehbjhocgnfpmaaDoor
open Go.RowKit
set_option linter.unusedVariables false
/-- Block g is a map: f tells its values. -/
def mp {K : Type} [DecidableEq K] (enc : K → Value) (g : Nat) (f : K → Option Value) : Res where
  holds w fp := fp = [g] ∧ MapF enc w g f
  lt := fun ⟨e, h⟩ b hb => by rw [e, List.mem_singleton] at hb; rw [hb]; exact h.lt
  loc := fun ⟨e, h⟩ hs => ⟨e, h.of_heap (hs _ (by rw [e]; simp))⟩
/-- Pairs of ints as keys. -/
def pk (x : Int × Int) : Value := .agg #[.int .i64 x.1, .int .i64 x.2]
theorem sameBits_pk (k : Int × Int) : Instr.sameBits 10000 (pk k) (pk k) = true := by
  unfold pk
  rw [show (10000 : Nat) = 9999 + 1 from rfl, Instr.sameBits]
  simp [Instr.sameBits.eq_2]
theorem keyLaw_pair {P : Program} {kt e : TypeId} (ht : P.underlying kt = some (.array 2 e)) (he : P.underlying e = some (.int .i64)) (hs : (P.info? e).map (·.size) = some 1) : KeyLaw P kt pk where
  check w b k := by
    have px : ∀ i (v : Value), (#[Value.int .i64 k.1, .int .i64 k.2] : Array Value)[i]? = some v → (part e #[Value.int .i64 k.1, .int .i64 k.2] (i * 1)).run P w = .ok v w := fun i v hv => by
      have e3 : (isAgg e).run P w = .ok false w := by simp [isAgg, run_underlying he]
      rw [run_part, e3, Nat.mul_one, Result.andThen_ok]
      simp only [Bool.false_eq_true, if_false, hv]
    have p0 := px 0 (.int .i64 k.1) rfl
    have p1 := px 1 (.int .i64 k.2) rfl
    have ck : ∀ z : Int, (Instr.checkKey b 9999 e (.int .i64 z)).run P w = .ok () w := fun z => by
      rw [show (9999 : Nat) = 9998 + 1 from rfl, Instr.checkKey]
      simp [run_underlying he]
    have hsz := run_sizeOf' (P := P) w hs
    unfold pk
    rw [show (10000 : Nat) = 9999 + 1 from rfl, Instr.checkKey]
    simp only [Sem.run_bind, run_underlying ht, Result.andThen_ok, Std.Legacy.Range.forIn_eq_forIn_range', Std.Legacy.Range.size, Nat.sub_zero, Nat.add_sub_cancel, Nat.div_one]
    rw [show List.range' 0 2 1 = [0, 1] from rfl]
    simp [hsz, p0, p1, ck]
  find w k l := by
    have key : ∀ (l : List ((Int × Int) × Value × Nat)) i, (Instr.findAsking kt (pk k) (l.map (entryOf pk)) i).run P w = .ok (findIn k l i) w := by
      intro l
      induction l with
      | nil => intro i; rfl
      | cons x l ih =>
        intro i
        have e1 := run_equalIn_iv (P := P) w (Op.maxDepth - 2) kt e 2 ht he (fun w => run_sizeOf' w hs) [k.1, k.2] [x.1.1, x.1.2] rfl rfl
        have e2 : (Op.equal kt (pk k) (pk x.1)).run P w = .ok ([k.1, k.2] == [x.1.1, x.1.2]) w := e1
        simp only [List.map_cons, Instr.findAsking, findIn, entryOf, Sem.run_bind, e2, Result.andThen_ok]
        by_cases hx : k = x.1
        · have : ([k.1, k.2] == [x.1.1, x.1.2]) = true := by rw [hx]; simp
          rw [this]; simp [hx]
        · have : ([k.1, k.2] == [x.1.1, x.1.2]) = false := by
            rw [beq_eq_false_iff_ne]; intro h; injection h with h1 h2; injection h2 with h2 _
            exact hx (Prod.ext h1 h2)
          rw [this]; simp only [hx, Bool.false_eq_true, if_false]
          exact ih (i + 1)
    exact (run_findKey_eq (P := P) (w := w) (k := kt) (by rw [ht]) (pk k) _).trans (key l 0)
  same := sameBits_pk
section
variable {K : Type} [DecidableEq K] {P : Program} {enc : K → Value} {W w : World} {rs rs' : List Res} {Q : Exit → Act → World → Prop} {K' : Act → World → Prop} {o : Oper} {a : Act}
theorem St.mp {g : Nat} {f : K → Option Value} (h : St W w rs) (p : Pull (Go.Proofs.YtehbjhocgnfpmaaDoor.mp enc g f) rs rs') : MapF enc w g f := by
  obtain ⟨_, fp, _, _, f1, f2, e, ⟨e1, h4⟩, _⟩ := h.pull p
  exact h4
/-- A map that is made. -/
theorem wp_makeMap (enc : K → Value) (hS : St W w rs) (t : TypeId) (ho : o.op = .makeMap t none)
    (h : ∀ g w', St W w' (Go.Proofs.YtehbjhocgnfpmaaDoor.mp enc g (fun _ => none) :: rs) → K' (a.put o.dst (.map (some g))) w') : o.wp P a w K' Q := by
  have hE : Ext w (w.alloc (.map #[] 0)) := (Ext.refl w).alloc _
  have hst : St w (w.alloc (.map #[] 0)) [Go.Proofs.YtehbjhocgnfpmaaDoor.mp enc w.heap.size (fun _ => none)] :=
    ⟨hE, [w.heap.size], by simp, by simp, [w.heap.size], [], rfl, ⟨rfl, MapF.new w⟩, rfl⟩
  have hh := h _ _ (hS.call1 hst)
  unfold Oper.wp execOp
  simp only [ho]
  exact hh
theorem wp_lookupS (hS : St W w rs) (mt : TypeId) (x i : Operand) (ho : o.op = .lookup mt x i false) (b : Nat) (hx : a.eval x = .map (some b)) (k : K) (hk : a.eval i = enc k) {kt et : TypeId} (hm : P.underlying mt = some (.map kt et)) (law : KeyLaw P kt enc) (z : Value) (hz : ∀ w, (zeroValue et).run P w = .ok z w)
    (f : K → Option Value) (hp : Pull (Go.Proofs.YtehbjhocgnfpmaaDoor.mp enc b f) rs rs') (v : Value) (hf : f k = some v) (h : K' (a.put o.dst v) w) : o.wp P a w K' Q := by
  have hl := (hS.mp hp).lookup hm law k false hz
  unfold Oper.wp execOp
  simp only [ho, hx, hk, Sem.run_bind, hl, hf, Result.andThen_ok, Sem.run_pure]
  exact h
theorem wp_lookupN (hS : St W w rs) (mt : TypeId) (x i : Operand) (ho : o.op = .lookup mt x i false) (b : Nat) (hx : a.eval x = .map (some b)) (k : K) (hk : a.eval i = enc k) {kt et : TypeId} (hm : P.underlying mt = some (.map kt et)) (law : KeyLaw P kt enc) (z : Value) (hz : ∀ w, (zeroValue et).run P w = .ok z w)
    (f : K → Option Value) (hp : Pull (Go.Proofs.YtehbjhocgnfpmaaDoor.mp enc b f) rs rs') (hf : f k = none) (h : K' (a.put o.dst z) w) : o.wp P a w K' Q := by
  have hl := (hS.mp hp).lookup hm law k false hz
  unfold Oper.wp execOp
  simp only [ho, hx, hk, Sem.run_bind, hl, hf, Result.andThen_ok, Sem.run_pure]
  exact h
theorem wp_lookupS2 (hS : St W w rs) (mt : TypeId) (x i : Operand) (ho : o.op = .lookup mt x i true) (b : Nat) (hx : a.eval x = .map (some b)) (k : K) (hk : a.eval i = enc k) {kt et : TypeId} (hm : P.underlying mt = some (.map kt et)) (law : KeyLaw P kt enc) (z : Value) (hz : ∀ w, (zeroValue et).run P w = .ok z w)
    (f : K → Option Value) (hp : Pull (Go.Proofs.YtehbjhocgnfpmaaDoor.mp enc b f) rs rs') (v : Value) (hf : f k = some v) (h : K' (a.put o.dst (.tuple #[v, .bool true])) w) : o.wp P a w K' Q := by
  have hl := (hS.mp hp).lookup hm law k true hz
  unfold Oper.wp execOp
  simp only [ho, hx, hk, Sem.run_bind, hl, hf, Result.andThen_ok, Sem.run_pure]
  exact h
theorem wp_lookupN2 (hS : St W w rs) (mt : TypeId) (x i : Operand) (ho : o.op = .lookup mt x i true) (b : Nat) (hx : a.eval x = .map (some b)) (k : K) (hk : a.eval i = enc k) {kt et : TypeId} (hm : P.underlying mt = some (.map kt et)) (law : KeyLaw P kt enc) (z : Value) (hz : ∀ w, (zeroValue et).run P w = .ok z w)
    (f : K → Option Value) (hp : Pull (Go.Proofs.YtehbjhocgnfpmaaDoor.mp enc b f) rs rs') (hf : f k = none) (h : K' (a.put o.dst (.tuple #[z, .bool false])) w) : o.wp P a w K' Q := by
  have hl := (hS.mp hp).lookup hm law k true hz
  unfold Oper.wp execOp
  simp only [ho, hx, hk, Sem.run_bind, hl, hf, Result.andThen_ok, Sem.run_pure]
  exact h
/-- 'm[k] = v'. -/
theorem wp_mapUpdate (hS : St W w rs) (mt : TypeId) (x i y : Operand) (ho : o.op = .mapUpdate mt x i y) (b : Nat) (hx : a.eval x = .map (some b)) (k : K) (hk : a.eval i = enc k) {kt et : TypeId} (hm : P.underlying mt = some (.map kt et)) (law : KeyLaw P kt enc)
    (f : K → Option Value) (hp : Pull (Go.Proofs.YtehbjhocgnfpmaaDoor.mp enc b f) rs rs') (v : Value) (hv : IsV (a.eval y) v) (hd : o.dst = none) (h : ∀ w', St W w' (Go.Proofs.YtehbjhocgnfpmaaDoor.mp enc b (fun j => if j = k then some v else f j) :: rs') → K' a w') : o.wp P a w K' Q := by
  obtain ⟨w', hrun, h1, h2, h3⟩ := (hS.mp hp).update hm law k (a.eval y)
  rw [hv.eq] at h1
  have hE0 : Ext ({ w with heap := #[] } : World) w := ⟨rfl, rfl, rfl, by simp, fun i hi => by simp at hi⟩
  have hE1 := h2 _ (by simp) hE0
  have hlt' := h1.lt
  have hsz : w.heap.size ≤ w'.heap.size := by
    by_cases hc : w.heap.size ≤ b + 1
    · omega
    · have e1 := h3 (w.heap.size - 1) (by omega)
      have e2 : w.heap[w.heap.size - 1]? = some (w.heap[w.heap.size - 1]'(by omega)) := Array.getElem?_eq_getElem (by omega)
      rw [e2] at e1
      have := (Array.getElem?_eq_some_iff.1 e1).1
      omega
  have hO : Only [b] w w' := ⟨hE1.os, hE1.tape, hE1.output, hsz, fun i _ hi => h3 i (by simpa using hi)⟩
  have hh := h w' (by
    refine St.change (rs1 := [Go.Proofs.YtehbjhocgnfpmaaDoor.mp enc b (fun j => if j = k then some v else f j)]) (hS.pull hp) fun f1 hf1 _ _ => ?_
    obtain ⟨rfl, _⟩ := hf1
    exact ⟨[b], ⟨[b], [], rfl, ⟨rfl, h1⟩, rfl⟩, by simp, fun c hc => .inl hc, hO⟩)
  unfold Oper.wp execOp
  simp only [ho, hx, hk, Sem.run_bind, hrun, Result.andThen_ok, Sem.run_pure]
  show K' (a.put o.dst undef) _
  rw [hd]
  exact hh
end
end Go.Proofs.YtehbjhocgnfpmaaDoor

/- Things of the call's own, as one thing. -/
namespace Go.Proofs.YtehbjhocgnfpmaaDoor
open Go.RowKit
set_option linter.unusedVariables false
/-- Things of the call's own, as one thing. -/
def star (rs : List Res) : Res := bag fun _ : Unit => rs
theorem St.star0 {W w : World} {rs : List Res} (h : St W w rs) : St W w (Go.Proofs.YtehbjhocgnfpmaaDoor.star [] :: rs) := St.close () h
theorem St.starPut {W w : World} {r : Res} {ss rs rs' : List Res} (h : St W w (Go.Proofs.YtehbjhocgnfpmaaDoor.star ss :: rs)) (p : Pull r rs rs') : St W w (Go.Proofs.YtehbjhocgnfpmaaDoor.star (ss ++ [r]) :: rs') := by
  have h1 : St W w (r :: Go.Proofs.YtehbjhocgnfpmaaDoor.star ss :: rs') := h.pull (.tail p)
  obtain ⟨_, h2⟩ := (h1.pull (.tail .head)).open
  refine St.close () ?_
  have h3 : St W w (ss ++ (r :: rs')) := h2
  simpa using h3
theorem Pull.mem {r : Res} : ∀ {ss : List Res} (rs : List Res), r ∈ ss → ∃ ss', Pull r (ss ++ rs) ss'
  | [], _, h => by cases h
  | x :: ss, rs, h => by
    by_cases hx : r = x
    · subst hx; exact ⟨_, .head⟩
    · obtain ⟨s, hs⟩ := Pull.mem (ss := ss) rs ((List.mem_cons.1 h).resolve_left hx); exact ⟨x :: s, .tail hs⟩
theorem St.starGet {W w : World} {ss rs rs' : List Res} (h : St W w rs) (p : Pull (Go.Proofs.YtehbjhocgnfpmaaDoor.star ss) rs rs') {r : Res} (hr : r ∈ ss) : ∃ rs'', St W w (r :: rs'') := by
  obtain ⟨_, h2⟩ := (h.pull p).open
  obtain ⟨s, hs⟩ := Pull.mem rs' hr
  exact ⟨s, h2.pull hs⟩
theorem own_nil {W w : World} {rs rs' : List Res} {e : TypeId} {s n c : Nat} {ad : Option Addr} {cs : List Value} (hS : St W w rs) (hp : Pull (own e s ad n c cs) rs rs') (h : ad = none) : c = 0 := by
  rcases (hS.own hp).2 with ⟨h1, _⟩ | ⟨g, cap, cur, h1, _⟩
  · cases h1; rfl
  · subst h; cases h1
end Go.Proofs.YtehbjhocgnfpmaaDoor

/- The walk of best.Make: packages merged. -/
namespace Go.Proofs.YtehbjhocgnfpmaaDoor
set_option maxRecDepth 100000
open Go.RowKit
set_option linter.unusedVariables false
theorem bcheckC_any (w : World) (n : Int) : Calls Tryd.prog 63 #[.int .i64 n] w fun e w' => e = .returned (.bool (decide (n < 0) || decide (9999 < n))) ∧ w = w' := by
  by_cases h : n < 0
  · have h2 : decide (n < 0) = true := by simpa using h
    rw [h2]
    go_enter Tryd.func63, Tryd.ntmps63
    go_wp2_with fail
    go_ret
    exact ⟨rfl, rfl⟩
  · have h2 : decide (n < 0) = false := by simpa using h
    rw [h2, Bool.false_or]
    have h3 : 0 ≤ n := by omega
    clear h
    go_enter Tryd.func63, Tryd.ntmps63
    go_wp2_with fail
    go_ret
    exact ⟨rfl, rfl⟩
/-- What best.check answers. -/
def bE (c : List Int) : Int := if 256 < c.length then 2 else if allIn c 0 9999 then 0 else 1
theorem bcheck_any (w0 : World) (c : List Int) (ad : Option Addr) (n cap : Nat) (hv : Sl w0 1 (.slice ad n cap) n (c.map (Value.int .i64))) (hn : n ≤ 9223372036854775807) :
    Calls Tryd.prog 45 #[.slice ad n cap] w0 fun e w => e = .returned (.int .i64 (bE c)) ∧ Ext w0 w := by
  have hl : c.length = n := by have := hv.1; simpa using this
  have hS := St.start w0
  have HC := hid (fun (w : World) (hE : Ext w0 w) => containsFunc_any w (.slice ad n cap) c (by unfold ISl; rw [hl]; exact hv.ext hE) 63 #[] (fun n => decide (n < 0) || decide (9999 < n)) Tryd.call63 (fun m => bcheckC_any w m))
  obtain ⟨B, hB⟩ : ∃ B, c.any (fun n => decide (n < 0) || decide (9999 < n)) = B := ⟨_, rfl⟩
  have hE : bE c = if 256 < n then 2 else if B then 1 else 0 := by
    unfold bE allIn; rw [hl, hB]
    cases B <;> rfl
  rw [hB] at HC
  rw [hE]
  clear hE hB hv
  by_cases h256 : 256 < n
  · rw [if_pos h256]
    go_enter Tryd.func45, Tryd.ntmps45
    repeat' (first
      | ((with_reducible apply gt9 _ (.move _)); (first | go_big_want | go_step); go_step) | ((with_reducible apply gt9 _ (.assign _)); (first | go_big_want | go_step); go_step) | ((with_reducible apply gt9 (some 5) (.call ⟨.builtin .len, _, _⟩)); (refine wvv9 (V.len Tryd.underlying24 rfl) ?_; go_step)) | ((with_reducible apply gt9 (some 6) (.binOp .gtr _ _ _ _)); (refine wvv9 (V.gtr rfl rfl) ?_; go_step)) | ((fail_if_success with_reducible apply ga9); go_step))
    go_ret
    exact ⟨rfl, hS.1⟩
  · rw [if_neg h256]
    cases B with
    | true =>
      rw [if_pos rfl]
      go_enter Tryd.func45, Tryd.ntmps45
      repeat' (first
        | ((with_reducible apply gt9 _ (.move _)); (first | go_big_want | go_step); go_step) | ((with_reducible apply gt9 _ (.assign _)); (first | go_big_want | go_step); go_step) | ((with_reducible apply gt9 (some 5) (.call ⟨.builtin .len, _, _⟩)); (refine wvv9 (V.len Tryd.underlying24 rfl) ?_; go_step)) | ((with_reducible apply gt9 (some 6) (.binOp .gtr _ _ _ _)); (refine wvv9 (V.gtr rfl rfl) ?_; go_step)) | ((fail_if_success with_reducible apply ga9); go_step))
      repeat' (first
        | ((with_reducible apply gt9 _ (.call ⟨.value (.func 62), _, _⟩)); refine wpl_call (f := 62) Tryd.call62 (by kernel_rfl) ?_; refine ⟨_, (HC.out _ hS.1), ?_⟩; rintro e w ⟨rfl, rfl⟩; refine ⟨_, rfl, ?_⟩; refine put_move ?_; go_step) | ((with_reducible apply gt9 _ (.assign _)); (first | go_big_want | go_step); go_step) | ((fail_if_success with_reducible apply ga9); go_step))
      all_goals go_ret
      all_goals exact ⟨rfl, hS.1⟩
    | false =>
      rw [if_neg (by decide)]
      go_enter Tryd.func45, Tryd.ntmps45
      repeat' (first
        | ((with_reducible apply gt9 _ (.move _)); (first | go_big_want | go_step); go_step) | ((with_reducible apply gt9 _ (.assign _)); (first | go_big_want | go_step); go_step) | ((with_reducible apply gt9 (some 5) (.call ⟨.builtin .len, _, _⟩)); (refine wvv9 (V.len Tryd.underlying24 rfl) ?_; go_step)) | ((with_reducible apply gt9 (some 6) (.binOp .gtr _ _ _ _)); (refine wvv9 (V.gtr rfl rfl) ?_; go_step)) | ((fail_if_success with_reducible apply ga9); go_step))
      repeat' (first
        | ((with_reducible apply gt9 _ (.call ⟨.value (.func 62), _, _⟩)); refine wpl_call (f := 62) Tryd.call62 (by kernel_rfl) ?_; refine ⟨_, (HC.out _ hS.1), ?_⟩; rintro e w ⟨rfl, rfl⟩; refine ⟨_, rfl, ?_⟩; refine put_move ?_; go_step) | ((with_reducible apply gt9 _ (.assign _)); (first | go_big_want | go_step); go_step) | ((fail_if_success with_reducible apply ga9); go_step))
      all_goals go_ret
      all_goals exact ⟨rfl, hS.1⟩
/-- A package: its weight, its row of symbols. -/
structure GP where
  w : Int
  r : Sr
def gpV (p : GP) : PkV := ⟨p.w, p.r.ad, p.r.xs.length, p.r.c⟩
def gpM (p : GP) : Pk := (p.w, p.r.xs)
theorem gp_snoc (G : List GP) (p : GP) : ((G ++ [p]).map gpV).flatMap pkE = (G.map gpV).flatMap pkE ++ [.int .i64 p.w, .slice p.r.ad p.r.xs.length p.r.c] := by
  rw [List.map_append, List.flatMap_append]; rfl
theorem gp_app (G H : List GP) : ((G ++ H).map gpV).flatMap pkE = (G.map gpV).flatMap pkE ++ (H.map gpV).flatMap pkE := by
  rw [List.map_append, List.flatMap_append]
/-- The singles of the first k symbols. -/
def sgs (c : List Int) (k : Nat) : List Pk := (0, [-1]) :: ((List.range k).filter fun s => decide (0 < nth c s)).map fun s => (nth c s, [(s : Int)])
theorem sgs_succ (c : List Int) (k : Nat) : sgs c (k + 1) = if 0 < nth c k then sgs c k ++ [(nth c k, [(k : Int)])] else sgs c k := by
  unfold sgs
  rw [List.range_succ, List.filter_append]
  by_cases h : 0 < nth c k
  · rw [if_pos h, List.filter_cons_of_pos (by simpa using h)]; simp
  · rw [if_neg h, List.filter_cons_of_neg (by simpa using h)]; simp
theorem sgs_len (c : List Int) (k : Nat) : (sgs c k).length ≤ k + 1 := by
  unfold sgs
  have := List.length_filter_le (fun s => decide (0 < nth c s)) (List.range k)
  simp at this ⊢
  exact this
theorem RowK.syll {S R : List Pk} {k : Nat} (h : RowK S k R) : (syl R).length ≤ k * (syl S).length := by
  induction h with
  | one R p _ => have := (syl_perm p).length_eq; omega
  | @more k R Q h p _ ih =>
    have h1 := (syl_perm p).length_eq
    rw [syl_append, List.length_append] at h1
    obtain ⟨z, hu, _⟩ := prs_unp R
    have h2 : syl (pkgs R) = syl (unp (prs R)) := syl_join (prs R)
    have h3 := congrArg (fun l => (syl l).length) hu
    simp only [syl_append, List.length_append] at h3
    rw [h2] at h1
    rw [Nat.add_mul, Nat.one_mul]
    omega
theorem syl_mem {R : List Pk} {x : Pk} (h : x ∈ R) : x.2.length ≤ (syl R).length := by
  induction R with
  | nil => cases h
  | cons a R ih =>
    rw [syl_cons, List.length_append]
    rcases List.mem_cons.1 h with rfl | h
    · omega
    · have := ih h; omega
theorem pkgs_take (R : List Pk) (q : Nat) (h : 2 * q + 1 < R.length) : (pkgs R).take (q + 1) = (pkgs R).take q ++ [pjoin (elt R (2 * q), elt R (2 * q + 1))] := by
  induction q generalizing R with
  | zero =>
    match R, h with
    | a :: b :: l, _ => simp [pkgs, prs, elt]
  | succ q ih =>
    match R, h with
    | a :: b :: l, h =>
      have e := ih l (by simp at h; omega)
      have e1 : pkgs (a :: b :: l) = pjoin (a, b) :: pkgs l := by simp [pkgs, prs]
      rw [e1, List.take_succ_cons, e, List.take_succ_cons, List.cons_append]
      congr 3
theorem elt_get {α : Type} [Inhabited α] (l : List α) (i : Nat) (h : i < l.length) : l[i] = elt l i := by simp [elt, h]
theorem gp_at (G : List GP) (k : Nat) (h : k < G.length) : ∃ p, p ∈ G ∧ elt (G.map gpV) k = gpV p ∧ elt (G.map gpM) k = gpM p := by
  refine ⟨G[k], List.getElem_mem h, ?_, ?_⟩
  · simp [elt, h]
  · simp [elt, h]
theorem RowK.wbd {S R : List Pk} {k : Nat} (h0 : ∀ x ∈ S, 0 ≤ x.1 ∧ x.1 ≤ 9999 * x.2.length) (h : RowK S k R) : ∀ x ∈ R, 0 ≤ x.1 ∧ x.1 ≤ 9999 * x.2.length := by
  induction h with
  | one R p _ => exact fun x hx => h0 x (p.mem_iff.1 hx)
  | @more k R Q h p _ ih =>
    intro x hx
    rcases List.mem_append.1 (p.mem_iff.1 hx) with hx | hx
    · obtain ⟨q, hq, rfl⟩ := List.mem_map.1 hx
      have h1 := ih q.1 (prs_mem hq).1
      have h2 := ih q.2 (prs_mem hq).2
      simp only [pjoin, List.length_append]
      push_cast
      omega
    · exact h0 x hx
theorem sgs_bd (c : List Int) (n k : Nat) (h : ∀ i, i < n → 0 ≤ nth c i ∧ nth c i ≤ 9999) (hk : k ≤ n) : ∀ x ∈ sgs c k, 0 ≤ x.1 ∧ x.1 ≤ 9999 * x.2.length := by
  intro x hx
  rcases List.mem_cons.1 hx with rfl | hx
  · simp
  · obtain ⟨s, hs, rfl⟩ := List.mem_map.1 hx
    have h1 := (List.mem_filter.1 hs).1
    have := h s (by simp at h1; omega)
    simp; omega
theorem sgs_syl (c : List Int) (k : Nat) : (syl (sgs c k)).length = (sgs c k).length := by
  have : ∀ l : List Nat, (syl (l.map fun s => (nth c s, [(s : Int)]))).length = l.length := fun l => by
    induction l with
    | nil => rfl
    | cons a l ih => rw [List.map_cons, syl_cons, List.length_append, ih]; simp; omega
  unfold sgs
  rw [syl_cons, List.length_append, this]
  simp; omega
/-- What a row's packages are bounded by. -/
theorem row_bd {c : List Int} {n j : Nat} {R : List Pk} (h : ∀ i, i < n → 0 ≤ nth c i ∧ nth c i ≤ 9999) (hn : n ≤ 256) (hj : j ≤ 16) (hR : RowK (sgs c n) j R) : ∀ x ∈ R, 0 ≤ x.1 ∧ x.1 ≤ 50000000 ∧ x.2.length ≤ 5000 := by
  intro x hx
  have h1 := hR.wbd (sgs_bd c n n h (Nat.le_refl _)) x hx
  have h2 := hR.syll
  have h3 := syl_mem hx
  have h4 := sgs_len c n
  rw [sgs_syl] at h2
  have h5 : j * (sgs c n).length ≤ 16 * 257 := Nat.mul_le_mul hj (by omega)
  omega
/-- How often each comes, as a map holds it. -/
def cntF (l : List Int) (s : Int) : Option Value := if l.count s = 0 then none else some (.int .i64 (l.count s : Nat))
theorem cntF_snoc (l : List Int) (s : Int) : (fun j => if j = s then some (Value.int .i64 ((l.count s + 1 : Nat) : Int)) else cntF l j) = cntF (l ++ [s]) := by
  funext j
  unfold cntF
  rw [List.count_append]
  by_cases h : j = s
  · subst h; simp
  · have : List.count j [s] = 0 := by rw [List.count_eq_zero]; simp [h]
    rw [if_neg h, this, Nat.add_zero]
theorem cntF_nil : cntF [] = fun _ => none := by funext j; simp [cntF]
/-- The symbols whose words have k bits, up to the n-th. -/
def symsK (f : Int → Nat) (n k : Nat) : List Int := ((List.range n).filter fun (s : Nat) => decide (f (s : Int) = k)).map fun (s : Nat) => (s : Int)
theorem symsK_succ (f : Int → Nat) (n k : Nat) : symsK f (n + 1) k = if f (n : Int) = k then symsK f n k ++ [(n : Int)] else symsK f n k := by
  unfold symsK
  rw [List.range_succ, List.filter_append]
  by_cases h : f (n : Int) = k
  · rw [if_pos h, List.filter_cons_of_pos (by simpa using h)]; simp
  · rw [if_neg h, List.filter_cons_of_neg (by simpa using h)]; simp
def symsTo (f : Int → Nat) (n k : Nat) : List Int := (List.range k).flatMap fun i => symsK f n (i + 1)
theorem symsTo_succ (f : Int → Nat) (n k : Nat) : symsTo f n (k + 1) = symsTo f n k ++ symsK f n (k + 1) := by
  unfold symsTo; rw [List.range_succ, List.flatMap_append]; simp
theorem symsK_len (f : Int → Nat) (n k : Nat) : (symsK f n k).length ≤ n := by
  have := List.length_filter_le (fun s : Nat => decide (f (s : Int) = k)) (List.range n)
  simp [symsK] at this ⊢; exact this
theorem symsTo_len (f : Int → Nat) (n k : Nat) : (symsTo f n k).length ≤ k * n := by
  induction k with
  | zero => simp [symsTo]
  | succ k ih => rw [symsTo_succ, List.length_append, Nat.add_mul, Nat.one_mul]; have := symsK_len f n (k + 1); omega
/-- The counts of a table that is under way: whole rows up to k, and row k up to the s-th symbol. -/
def cntTo (f : Int → Nat) (n k s i : Nat) : Int := if i < k then ((symsK f n (i + 1)).length : Nat) else if i = k then ((symsK f s (i + 1)).length : Nat) else 0
end Go.Proofs.YtehbjhocgnfpmaaDoor

/- Lists of bits, the numbers that they write, and bytes: plain mathematics. -/
namespace Go.Proofs.YtehbjhocgnfpmaaDoor
/-- The number that a list of bits writes, the highest bit first. -/
def num (l : List Bool) : Nat := l.foldl (fun a b => 2 * a + b.toNat) 0
theorem num_from (l : List Bool) : ∀ a, l.foldl (fun a b => 2 * a + b.toNat) a = a * 2 ^ l.length + num l := by
  induction l with
  | nil => intro a; simp [num]
  | cons b l ih =>
    intro a
    simp only [num, List.foldl_cons, List.length_cons]
    rw [ih, ih (2 * 0 + b.toNat), Nat.pow_succ, Nat.add_mul, Nat.mul_assoc, Nat.mul_zero, Nat.zero_add]
    have e : a * (2 ^ l.length * 2) = 2 * (a * 2 ^ l.length) := by rw [← Nat.mul_assoc, Nat.mul_comm]
    rw [e]
    omega
theorem num_append (xs ys : List Bool) : num (xs ++ ys) = num xs * 2 ^ ys.length + num ys := by
  unfold num
  rw [List.foldl_append]
  exact num_from ys _
theorem num_snoc (xs : List Bool) (b : Bool) : num (xs ++ [b]) = 2 * num xs + b.toNat := by
  rw [num_append]; simp [num, Nat.mul_comm]
theorem num_lt (l : List Bool) : num l < 2 ^ l.length := by
  induction l with
  | nil => simp [num]
  | cons b l ih =>
    have h := num_append [b] l
    simp only [List.singleton_append] at h
    rw [h, List.length_cons, Nat.pow_succ]
    have : num [b] ≤ 1 := by cases b <;> simp [num]
    have h2 : num [b] * 2 ^ l.length ≤ 1 * 2 ^ l.length := Nat.mul_le_mul_right _ this
    omega
/-- The lowest w bits of v, the highest first. -/
def bitsOf : Nat → Nat → List Bool
  | 0, _ => []
  | w + 1, v => bitsOf w (v / 2) ++ [v % 2 == 1]
theorem bitsOf_len (w : Nat) : ∀ v, (bitsOf w v).length = w := by
  induction w with
  | zero => intro v; rfl
  | succ w ih => intro v; simp [bitsOf, ih]
theorem num_bitsOf (w : Nat) : ∀ v, num (bitsOf w v) = v % 2 ^ w := by
  induction w with
  | zero => intro v; simp [bitsOf, num, Nat.mod_one]
  | succ w ih =>
    intro v
    simp only [bitsOf, num_snoc, ih]
    have h1 : (v % 2 == 1).toNat = v % 2 := by
      rcases Nat.mod_two_eq_zero_or_one v with h | h <;> simp [h]
    rw [h1, Nat.pow_succ, Nat.mul_comm (2 ^ w) 2, Nat.mod_mul]
    omega
theorem num_bitsOf_lt (w v : Nat) (h : v < 2 ^ w) : num (bitsOf w v) = v := by rw [num_bitsOf, Nat.mod_eq_of_lt h]
/-- A window of a list of bits, off its number. -/
theorem num_window (l : List Bool) (i n : Nat) (h : i + n ≤ l.length) : num ((l.drop i).take n) = num l / 2 ^ (l.length - i - n) % 2 ^ n := by
  have e1 : l = l.take i ++ ((l.drop i).take n ++ l.drop (i + n)) := by
    rw [← List.drop_drop, List.take_append_drop, List.take_append_drop]
  have hl3 : (l.drop (i + n)).length = l.length - i - n := by simp; omega
  have hl2 : ((l.drop i).take n).length = n := by simp; omega
  have hlt := num_lt (l.drop (i + n))
  have hlt2 := num_lt ((l.drop i).take n)
  rw [hl3] at hlt
  rw [hl2] at hlt2
  conv => rhs; rw [e1]
  have hl0 : (l.take i ++ ((l.drop i).take n ++ l.drop (i + n))).length = l.length := by rw [← e1]
  rw [hl0, num_append, num_append, List.length_append, hl2, hl3]
  generalize num (l.drop (i + n)) = z at *
  generalize num ((l.drop i).take n) = y at *
  generalize num (l.take i) = x at *
  generalize l.length - i - n = m at *
  have hp : 0 < 2 ^ m := Nat.two_pow_pos _
  rw [Nat.pow_add, ← Nat.mul_assoc, ← Nat.add_assoc, ← Nat.add_mul, Nat.add_comm, Nat.add_mul_div_right _ _ hp, Nat.div_eq_of_lt hlt, Nat.zero_add, Nat.add_comm, Nat.add_mul_mod_self_right, Nat.mod_eq_of_lt hlt2]
/-- k whole bytes of a list of bits. -/
def packs : Nat → List Bool → List Nat
  | 0, _ => []
  | k + 1, bs => num (bs.take 8) :: packs k (bs.drop 8)
theorem packs_len (k : Nat) : ∀ bs, (packs k bs).length = k := by
  induction k with
  | zero => intro; rfl
  | succ k ih => intro; simp [packs, ih]
theorem packs_succ (k : Nat) : ∀ bs : List Bool, packs (k + 1) bs = packs k bs ++ [num ((bs.drop (8 * k)).take 8)] := by
  induction k with
  | zero => intro bs; simp [packs]
  | succ k ih =>
    intro bs
    rw [packs, ih, packs, List.cons_append, List.drop_drop]
    congr 3
    rw [show 8 + 8 * k = 8 * (k + 1) by omega]
theorem packs_append (k : Nat) : ∀ (bs cs : List Bool), 8 * k ≤ bs.length → packs k (bs ++ cs) = packs k bs := by
  induction k with
  | zero => intros; rfl
  | succ k ih =>
    intro bs cs h
    rw [packs, packs, List.take_append_of_le_length (by omega), List.drop_append_of_le_length (by omega), ih _ _ (by simp; omega)]
theorem packs_lt (k : Nat) : ∀ bs, ∀ x ∈ packs k bs, x < 256 := by
  induction k with
  | zero => intro bs x hx; simp [packs] at hx
  | succ k ih =>
    intro bs x hx
    rw [packs, List.mem_cons] at hx
    rcases hx with rfl | hx
    · have h := num_lt (bs.take 8)
      have h2 : (bs.take 8).length ≤ 8 := by simp; omega
      have h3 : 2 ^ (bs.take 8).length ≤ 2 ^ 8 := Nat.pow_le_pow_right (by omega) h2
      omega
    · exact ih _ x hx
/-- The bytes of a list of bits: the rest is ones. -/
def padding (bs : List Bool) : List Bool := List.replicate ((8 - bs.length % 8) % 8) true
def bytesOf (bs : List Bool) : List Nat := packs ((bs.length + 7) / 8) (bs ++ padding bs)
theorem padding_len (bs : List Bool) : (bs ++ padding bs).length = 8 * ((bs.length + 7) / 8) := by
  simp [padding]; omega
theorem bytesOf_len (bs : List Bool) : (bytesOf bs).length = (bs.length + 7) / 8 := packs_len _ _
theorem bytesOf_lt (bs : List Bool) : ∀ x ∈ bytesOf bs, x < 256 := packs_lt _ _
/-- The bit at a place of bytes. -/
theorem bitsOf_get (w v i : Nat) (h : i < w) : (bitsOf w v)[i]? = some (v / 2 ^ (w - 1 - i) % 2 == 1) := by
  induction w generalizing v i with
  | zero => omega
  | succ w ih =>
    rw [bitsOf]
    by_cases hi : i < w
    · rw [List.getElem?_append_left (by rw [bitsOf_len]; exact hi), ih _ _ hi, Nat.div_div_eq_div_mul, ← Nat.pow_succ']
      rw [show (w - 1 - i).succ = w + 1 - 1 - i by omega]
    · have : i = w := by omega
      subst this
      rw [List.getElem?_append_right (by rw [bitsOf_len]; exact Nat.le_refl _), bitsOf_len]
      simp
end Go.Proofs.YtehbjhocgnfpmaaDoor

/- Words of given lengths: the plain law. -/
namespace Go.Proofs.YtehbjhocgnfpmaaDoor
set_option linter.unusedVariables false
/-- What the next word is after k counts, times two from length to length. -/
def nx (c : Nat → Nat) : Nat → Nat
  | 0 => 0
  | k + 1 => 2 * nx c k + c k
/-- The words of the lengths up to k: each its length and its code. -/
def cds (c : Nat → Nat) : Nat → List (Nat × Nat)
  | 0 => []
  | k + 1 => cds c k ++ (List.range (c k)).map fun j => (k + 1, 2 * nx c k + j)
def sm (c : Nat → Nat) : Nat → Nat
  | 0 => 0
  | k + 1 => sm c k + c k
theorem cds_len (c : Nat → Nat) : ∀ k, (cds c k).length = sm c k
  | 0 => rfl
  | k + 1 => by simp [cds, sm, cds_len c k]
/-- Where a word's room begins and ends, of 2 ^ 16. -/
def wlo (x : Nat × Nat) : Nat := x.2 * 2 ^ (16 - x.1)
def whi (x : Nat × Nat) : Nat := (x.2 + 1) * 2 ^ (16 - x.1)
/-- Rooms one behind the other. -/
inductive Tile : Nat → List (Nat × Nat) → Nat → Prop
  | nil {a : Nat} : Tile a [] a
  | cons {x : Nat × Nat} {l : List (Nat × Nat)} {b : Nat} (h : Tile (whi x) l b) : Tile (wlo x) (x :: l) b
theorem Tile.append {a b c : Nat} {l m : List (Nat × Nat)} (h : Tile a l b) (k : Tile b m c) : Tile a (l ++ m) c := by
  induction h with
  | nil => exact k
  | cons h ih => exact .cons (ih k)
theorem tile_row (k s : Nat) : ∀ n a, Tile ((s + a) * 2 ^ (16 - (k + 1))) ((List.range' a n).map fun j => (k + 1, s + j)) ((s + a + n) * 2 ^ (16 - (k + 1)))
  | 0, a => by simpa using Tile.nil
  | n + 1, a => by
    have h := tile_row k s n (a + 1)
    simp only [List.range'_succ, List.map_cons]
    refine Tile.cons (x := (k + 1, s + a)) ?_
    rw [show s + a + (n + 1) = s + (a + 1) + n by omega]
    exact h
theorem tile_cds (c : Nat → Nat) : ∀ k, k ≤ 16 → Tile 0 (cds c k) (nx c k * 2 ^ (16 - k))
  | 0, _ => by simpa [cds, nx] using Tile.nil
  | k + 1, h => by
    have h1 := tile_cds c k (by omega)
    have h2 := tile_row k (2 * nx c k) (c k) 0
    have e : nx c k * 2 ^ (16 - k) = (2 * nx c k + 0) * 2 ^ (16 - (k + 1)) := by
      rw [show 16 - k = (16 - (k + 1)) + 1 by omega, Nat.pow_succ, Nat.add_zero (2 * _), Nat.mul_comm 2 (nx c k), Nat.mul_assoc (nx c k) 2, Nat.mul_comm 2]
    rw [e] at h1
    rw [cds, nx, List.range_eq_range']
    exact h1.append h2
theorem Tile.le {a b : Nat} {l : List (Nat × Nat)} (h : Tile a l b) : a ≤ b := by
  induction h with
  | nil => omega
  | @cons x l b h ih => have : wlo x ≤ whi x := Nat.mul_le_mul_right _ (by omega)
                        omega
theorem Tile.mem {a b : Nat} {l : List (Nat × Nat)} (h : Tile a l b) : ∀ x ∈ l, a ≤ wlo x ∧ whi x ≤ b := by
  induction h with
  | nil => intro x hx; cases hx
  | @cons y l b h ih =>
    intro x hx
    rcases List.mem_cons.1 hx with rfl | hx
    · exact ⟨Nat.le_refl _, h.le⟩
    · have h1 := ih x hx
      have : wlo y ≤ whi y := Nat.mul_le_mul_right _ (by omega)
      omega
theorem Tile.pair {a b : Nat} {l : List (Nat × Nat)} (h : Tile a l b) : l.Pairwise fun x y => whi x ≤ wlo y := by
  induction h with
  | nil => exact List.Pairwise.nil
  | @cons x l b h ih => exact List.Pairwise.cons (fun y hy => (h.mem y hy).1) ih
theorem cds_long (c : Nat → Nat) : ∀ k x, x ∈ cds c k → 1 ≤ x.1 ∧ x.1 ≤ k
  | 0, x, h => by cases h
  | k + 1, x, h => by
    rcases List.mem_append.1 h with h | h
    · have := cds_long c k x h; omega
    · obtain ⟨j, _, rfl⟩ := List.mem_map.1 h
      exact ⟨by simp, by simp⟩
/-- Whether the words have room. -/
def roomy (c : Nat → Nat) : Prop := ∀ k, k < 16 → nx c (k + 1) < 2 ^ (k + 1)
theorem nx_up (c : Nat → Nat) (k : Nat) : ∀ d, nx c k * 2 ^ d ≤ nx c (k + d)
  | 0 => by simp
  | d + 1 => by
    have := nx_up c k d
    rw [← Nat.add_assoc, nx, Nat.pow_succ, ← Nat.mul_assoc]; omega
theorem roomy_iff (c : Nat → Nat) : roomy c ↔ nx c 16 < 65536 := by
  constructor
  · intro h; exact h 15 (by omega)
  · intro h k hk
    have h1 := nx_up c (k + 1) (15 - k)
    rw [show k + 1 + (15 - k) = 16 by omega] at h1
    have h2 : nx c (k + 1) * 2 ^ (15 - k) < 2 ^ (k + 1) * 2 ^ (15 - k) := by
      rw [← Nat.pow_add, show k + 1 + (15 - k) = 16 by omega]; exact Nat.lt_of_le_of_lt h1 h
    exact Nat.lt_of_mul_lt_mul_right h2
theorem cds_lt (c : Nat → Nat) (h : roomy c) (x : Nat × Nat) (hx : x ∈ cds c 16) : x.2 + 1 < 2 ^ x.1 ∧ 1 ≤ x.1 ∧ x.1 ≤ 16 := by
  have h1 := cds_long c 16 x hx
  have h2 := ((tile_cds c 16 (by omega)).mem x hx).2
  have h3 := (roomy_iff c).1 h
  refine ⟨?_, h1.1, h1.2⟩
  have h4 : (x.2 + 1) * 2 ^ (16 - x.1) < 2 ^ x.1 * 2 ^ (16 - x.1) := by
    rw [← Nat.pow_add, show x.1 + (16 - x.1) = 16 by omega]
    have : whi x = (x.2 + 1) * 2 ^ (16 - x.1) := rfl
    simp at h2; omega
  exact Nat.lt_of_mul_lt_mul_right h4
/-- No word begins another. -/
theorem cds_prefix (x y : Nat × Nat) (hx : x.1 ≤ y.1) (hy : y.1 ≤ 16) (h : y.2 / 2 ^ (y.1 - x.1) = x.2) : wlo x ≤ wlo y ∧ wlo y < whi x := by
  have hp : 0 < 2 ^ (y.1 - x.1) := Nat.two_pow_pos _
  have hq : 0 < 2 ^ (16 - y.1) := Nat.two_pow_pos _
  have e : 2 ^ (16 - x.1) = 2 ^ (y.1 - x.1) * 2 ^ (16 - y.1) := by rw [← Nat.pow_add]; congr 1; omega
  have h1 : x.2 * 2 ^ (y.1 - x.1) ≤ y.2 := by rw [← h]; exact Nat.div_mul_le_self _ _
  have h2 : y.2 < (x.2 + 1) * 2 ^ (y.1 - x.1) := by rw [← h, Nat.mul_comm]; exact Nat.lt_mul_div_succ _ hp
  unfold wlo whi
  rw [e, ← Nat.mul_assoc, ← Nat.mul_assoc]
  exact ⟨Nat.mul_le_mul_right _ h1, Nat.mul_lt_mul_of_pos_right h2 hq⟩
theorem cds_apart (c : Nat → Nat) (i j : Nat) (x y : Nat × Nat) (hi : (cds c 16)[i]? = some x) (hj : (cds c 16)[j]? = some y) (hne : i ≠ j) (hl : x.1 ≤ y.1) : ¬ y.2 / 2 ^ (y.1 - x.1) = x.2 := by
  intro h
  have hp := (tile_cds c 16 (by omega)).pair
  have hy := cds_long c 16 y (List.mem_of_getElem? hj)
  obtain ⟨h1, h2⟩ := cds_prefix x y hl hy.2 h
  rw [List.pairwise_iff_getElem] at hp
  obtain ⟨hi1, hi2⟩ := List.getElem?_eq_some_iff.1 hi
  obtain ⟨hj1, hj2⟩ := List.getElem?_eq_some_iff.1 hj
  have hw : ∀ z : Nat × Nat, wlo z < whi z := fun z => Nat.mul_lt_mul_of_pos_right (by omega) (Nat.two_pow_pos _)
  rcases Nat.lt_or_gt_of_ne hne with g | g
  · have := hp i j hi1 hj1 g
    rw [hi2, hj2] at this; omega
  · have := hp j i hj1 hi1 g
    rw [hi2, hj2] at this
    have := hw y
    omega
/-- Counts as natural numbers. -/
def cc (C : List Int) (k : Nat) : Nat := (nth C k).toNat
def totOk (C : List Int) : Bool := (List.range 16).all (fun k => decide (0 ≤ nth C k ∧ nth C k ≤ 256)) && decide (sm (cc C) 16 ≤ 256)
theorem totOk_iff (C : List Int) : totOk C = true ↔ (∀ k, k < 16 → 0 ≤ nth C k ∧ nth C k ≤ 256) ∧ sm (cc C) 16 ≤ 256 := by
  simp [totOk]
def roomB (c : Nat → Nat) : Bool := (List.range 16).all fun k => decide (nx c (k + 1) < 2 ^ (k + 1))
theorem roomB_iff (c : Nat → Nat) : roomB c = true ↔ roomy c := by simp [roomB, roomy]
def symsB (S : List Int) : Bool := S.all fun s => decide (0 ≤ s) && decide (s < 256)
/-- What Check gives. -/
def tabE (C S : List Int) : Int :=
  if totOk C = true ∧ sm (cc C) 16 = S.length then if symsB S then if S.Nodup ∧ roomB (cc C) = true then 0 else 4 else 1 else 4
theorem tabE_ok {C S : List Int} (h : tabE C S = 0) : (∀ k, k < 16 → 0 ≤ nth C k ∧ nth C k ≤ 256) ∧ sm (cc C) 16 = S.length ∧ S.length ≤ 256 ∧ (∀ s ∈ S, 0 ≤ s ∧ s < 256) ∧ S.Nodup ∧ roomy (cc C) := by
  unfold tabE at h
  split at h
  · rename_i h1
    split at h
    · rename_i h2
      split at h
      · rename_i h3
        obtain ⟨h4, h5⟩ := (totOk_iff C).1 h1.1
        refine ⟨h4, h1.2, by omega, ?_, h3.1, (roomB_iff _).1 h3.2⟩
        intro s hs
        have := List.all_eq_true.1 h2 s hs
        simpa using this
      · cases h
    · cases h
  · cases h
theorem tabE_of {C S : List Int} (h1 : totOk C = true) (h2 : sm (cc C) 16 = S.length) (h3 : ∀ s ∈ S, 0 ≤ s ∧ s < 256) (h4 : S.Nodup) (h5 : roomy (cc C)) : tabE C S = 0 := by
  unfold tabE
  rw [if_pos ⟨h1, h2⟩, if_pos, if_pos ⟨h4, (roomB_iff _).2 h5⟩]
  rw [symsB, List.all_eq_true]; intro s hs; simpa using h3 s hs
/-- The words with their symbols. -/
def wds (C S : List Int) : List (Int × Nat × Nat) := S.zip (cds (cc C) 16)
def wfl (l : List (Int × Nat × Nat)) : List Int := l.flatMap fun x => [x.1, (x.2.1 : Int), (x.2.2 : Int)]
theorem wfl_snoc (l : List (Int × Nat × Nat)) (x : Int × Nat × Nat) : wfl (l ++ [x]) = wfl l ++ [x.1, (x.2.1 : Int), (x.2.2 : Int)] := by simp [wfl]
theorem wfl_get : ∀ (l : List (Int × Nat × Nat)) (k : Nat) (x : Int × Nat × Nat), l[k]? = some x → ((wfl l).drop (k * 3)).take 3 = [x.1, (x.2.1 : Int), (x.2.2 : Int)]
  | [], k, x, h => by simp at h
  | y :: l, 0, x, h => by obtain rfl : y = x := by simpa using h
                          simp [wfl]
  | y :: l, k + 1, x, h => by
    have := wfl_get l k x (by simpa using h)
    rw [show (k + 1) * 3 = k * 3 + 3 by omega]
    simp only [wfl, List.flatMap_cons] at *
    rw [List.drop_append, List.drop_of_length_le (by simp)]
    simpa using this
theorem zip_snoc (S : List Int) (A : List (Nat × Nat)) (x : Nat × Nat) (h : A.length < S.length) : S.zip (A ++ [x]) = S.zip A ++ [(nth S A.length, x)] := by
  apply List.ext_getElem?
  intro i
  rcases Nat.lt_trichotomy i A.length with g | g | g
  · rw [List.getElem?_append_left (by simp; omega)]
    simp only [List.zip, List.getElem?_zipWith]
    rw [List.getElem?_append_left g]
  · subst g
    rw [List.getElem?_append_right (by simp; omega)]
    simp only [List.zip, List.getElem?_zipWith]
    rw [List.getElem?_append_right (by omega), get_nth S _ h, Nat.sub_self, show (List.zipWith Prod.mk S A).length = A.length by simp; omega, Nat.sub_self]
    rfl
  · rw [List.getElem?_eq_none (by simp; omega), List.getElem?_eq_none (by simp; omega)]
theorem wds_len (C S : List Int) (h : sm (cc C) 16 = S.length) : (wds C S).length = S.length := by
  simp [wds, cds_len, h]
theorem wds_get (C S : List Int) (h : sm (cc C) 16 = S.length) (i : Nat) (hi : i < S.length) : ∃ x, (cds (cc C) 16)[i]? = some x ∧ (wds C S)[i]? = some (nth S i, x) := by
  have hl : i < (cds (cc C) 16).length := by rw [cds_len]; omega
  refine ⟨_, List.getElem?_eq_getElem hl, ?_⟩
  simp only [wds, List.zip, List.getElem?_zipWith, get_nth S i hi, List.getElem?_eq_getElem hl]
theorem wds_mem (C S : List Int) (x : Int × Nat × Nat) (hx : x ∈ wds C S) : x.1 ∈ S ∧ x.2 ∈ cds (cc C) 16 := List.of_mem_zip (a := x.1) (b := x.2) hx
/-- The last word of a symbol. -/
def symW (L : List (Int × Nat × Nat)) (s : Int) : Option (Nat × Nat) := (L.reverse.find? fun x => decide (x.1 = s)).map (·.2)
def codW (L : List (Int × Nat × Nat)) (p : Int × Int) : Option Int := (L.reverse.find? fun x => decide (p = ((x.2.1 : Int), (x.2.2 : Int)))).map (·.1)
theorem symW_snoc (L : List (Int × Nat × Nat)) (x : Int × Nat × Nat) (s : Int) : symW (L ++ [x]) s = if s = x.1 then some x.2 else symW L s := by
  unfold symW
  rw [List.reverse_append, List.reverse_singleton, List.singleton_append, List.find?_cons]
  by_cases h : s = x.1
  · simp [h]
  · have : ¬ x.1 = s := fun e => h e.symm
    simp [h, this]
theorem codW_snoc (L : List (Int × Nat × Nat)) (x : Int × Nat × Nat) (p : Int × Int) : codW (L ++ [x]) p = if p = ((x.2.1 : Int), (x.2.2 : Int)) then some x.1 else codW L p := by
  unfold codW
  rw [List.reverse_append, List.reverse_singleton, List.singleton_append, List.find?_cons]
  by_cases h : p = ((x.2.1 : Int), (x.2.2 : Int))
  · simp [h]
  · simp [h]
theorem symW_mem {L : List (Int × Nat × Nat)} {s : Int} {y : Nat × Nat} (h : symW L s = some y) : (s, y) ∈ L := by
  unfold symW at h
  cases hf : L.reverse.find? fun x => decide (x.1 = s) with
  | none => rw [hf] at h; cases h
  | some x =>
    rw [hf] at h
    have h1 := List.mem_of_find?_eq_some hf
    have h2 := List.find?_some hf
    simp only [Option.map_some, Option.some.injEq] at h
    simp only [decide_eq_true_eq] at h2
    subst h; subst h2
    simpa using h1
theorem symW_none {L : List (Int × Nat × Nat)} {s : Int} (h : symW L s = none) : ∀ x ∈ L, x.1 ≠ s := by
  unfold symW at h
  rw [Option.map_eq_none_iff, List.find?_eq_none] at h
  intro x hx
  simpa using h x (by simpa using hx)
/-- A table that may be: its words are apart. -/
structure Good (L : List (Int × Nat × Nat)) : Prop where
  long : ∀ x ∈ L, 1 ≤ x.2.1 ∧ x.2.1 ≤ 16 ∧ x.2.2 + 1 < 2 ^ x.2.1
  sym : ∀ x ∈ L, ∀ y ∈ L, x.1 = y.1 → x = y
  pre : ∀ x ∈ L, ∀ y ∈ L, x.2.1 ≤ y.2.1 → y.2.2 / 2 ^ (y.2.1 - x.2.1) = x.2.2 → x = y
  range : ∀ x ∈ L, 0 ≤ x.1 ∧ x.1 < 256
theorem wds_good {C S : List Int} (h : tabE C S = 0) : Good (wds C S) := by
  obtain ⟨h1, h2, h3, h4, h5, h6⟩ := tabE_ok h
  have idx : ∀ x ∈ wds C S, ∃ i, i < S.length ∧ x.1 = nth S i ∧ (cds (cc C) 16)[i]? = some x.2 ∧ (wds C S)[i]? = some x := fun x hx => by
    obtain ⟨i, hi, e⟩ := List.getElem_of_mem hx
    rw [wds_len C S h2] at hi
    obtain ⟨y, e1, e2⟩ := wds_get C S h2 i hi
    have e3 : (wds C S)[i]? = some x := by rw [List.getElem?_eq_getElem (by rw [wds_len C S h2]; exact hi), e]
    rw [e2] at e3
    obtain rfl : (nth S i, y) = x := by simpa using e3
    exact ⟨i, hi, rfl, e1, e2⟩
  refine ⟨fun x hx => ?_, fun x hx y hy e => ?_, fun x hx y hy hl hp => ?_, fun x hx => h4 _ (wds_mem C S x hx).1⟩
  · have := cds_lt (cc C) h6 x.2 (wds_mem C S x hx).2
    exact ⟨this.2.1, this.2.2, this.1⟩
  · obtain ⟨i, hi, ei, ci, wi⟩ := idx x hx
    obtain ⟨j, hj, ej, cj, wj⟩ := idx y hy
    have hij : i = j := by
      rw [ei, ej] at e
      have gi := get_nth S i hi
      have gj := get_nth S j hj
      rw [e] at gi
      exact (List.getElem?_inj hi h5).1 (by rw [gi, gj])
    subst hij
    rw [wi] at wj
    simpa using wj
  · obtain ⟨i, hi, ei, ci, wi⟩ := idx x hx
    obtain ⟨j, hj, ej, cj, wj⟩ := idx y hy
    by_cases hij : i = j
    · subst hij; rw [wi] at wj; simpa using wj
    · exact absurd hp (cds_apart (cc C) i j x.2 y.2 ci cj hij hl)
theorem Good.symW {L : List (Int × Nat × Nat)} (h : Good L) {x : Int × Nat × Nat} (hx : x ∈ L) : symW L x.1 = some x.2 := by
  cases hs : Go.Proofs.YtehbjhocgnfpmaaDoor.symW L x.1 with
  | none => exact absurd rfl (symW_none hs x hx)
  | some y =>
    have := h.sym _ (symW_mem hs) x hx rfl
    rw [← this]
end Go.Proofs.YtehbjhocgnfpmaaDoor

/- The types of this translation: structs in parts. -/
namespace Go.Proofs.YtehbjhocgnfpmaaDoor
theorem zp31 (w : World) : (zeroValue 31).run Tryd.prog w = .ok (.agg (pcells [.ints (List.replicate 16 0), .val (.slice none 0 0)]).toArray) w := by first | exact Tryd.zeroValue31 w | kernel_rfl
theorem zp33 (w : World) : (zeroValue 33).run Tryd.prog w = .ok (.agg (pcells [.ints (List.replicate 16 0), .val (.slice none 0 0), .ints (List.replicate 16 0), .val (.slice none 0 0)]).toArray) w := by first | exact Tryd.zeroValue33 w | kernel_rfl
end Go.Proofs.YtehbjhocgnfpmaaDoor

/- The walks of tables: total, Check, words, Words. -/
namespace Go.Proofs.YtehbjhocgnfpmaaDoor
open Go.RowKit
set_option linter.unusedVariables false
theorem bl91_0_1_2 (m0 : Int) (m1 : Int) (m2 : Int) (w : World) : (Instr.build 91 #[(0, .int .i64 m0), (1, .int .i64 m1), (2, .int .i64 m2)]).run Tryd.prog w = .ok (.agg #[.int .i64 m0, .int .i64 m1, .int .i64 m2]) w := by kernel_rfl
/-- A table, as a value. -/
abbrev tv (C : List Int) (v : Value) : Value := .agg (pcells [.ints C, .val v]).toArray
theorem cc_int (C : List Int) (k : Nat) (h : 0 ≤ nth C k) : nth C k = ((cc C k : Nat) : Int) := by unfold cc; omega
theorem ret2_bool {a : Value} {x y : Bool} (h : x = y) : Ending.returned (.tuple #[a, .bool x]) = .returned (.tuple #[a, .bool y]) := by rw [h]
set_option maxRecDepth 100000 in
theorem total_yes (w0 : World) (C : List Int) (v : Value) (hC : Len C 16) (h : totOk C = true) : Calls Tryd.prog 76 #[tv C v] w0 fun e w => e = .returned (.tuple #[.int .i64 (sm (cc C) 16 : Nat), .bool true]) ∧ Ext w0 w := by
  obtain ⟨hb, h16⟩ := (totOk_iff C).1 h
  have HB := hid hb
  clear hb h
  have hS := St.start w0
  go_enter Tryd.func76, Tryd.ntmps76
  repeat' (first
    | ((with_reducible apply gt9 _ (.move _)); (first | go_big_want | go_step); go_step) | ((with_reducible apply gt9 _ (.assign _)); (first | go_big_want | go_step); go_step) | ((with_reducible apply gt9 _ (.fieldAddr 31 _ 0)); (refine wvv9 (V.fieldAddr fo31_0 rfl nq9) ?_; go_step)) | ((with_reducible apply gt9 (some 1) (.box 31 _)); (refine wpl (by kernel_rfl) ?_; apply wp_boxP (o := ⟨some 1, _, _, _, _, _⟩) hS 31 _ rfl _ rfl; clear hS; intro g1 w hS; refine put_move ?_; go_step)) | ((with_reducible apply gt9 _ (.load 29 _)); (refine wpl (by kernel_rfl) ?_; apply wp_loadRP hS 29 _ rfl _ _ rfl 16 (row_of rfl) _; (case hp => exact pl9); (case hi => (repeat (first | (apply AtR.head; (first | (with_reducible assumption) | exact Len.rep | exact Len.set (by with_reducible assumption) | exact Len.set Len.rep | exact Len.set (Len.set Len.rep))) | (apply AtR.skipI; (case hn => (first | (with_reducible assumption) | exact Len.rep | exact Len.set (by with_reducible assumption) | exact Len.set Len.rep | exact Len.set (Len.set Len.rep))); (case h => omega); (case ho => rfl)) | apply AtR.skipV))); refine put_move ?_; go_step)) | ((fail_if_success with_reducible apply ga9); go_step))
  go_loopg [4, 9] 16 (fun gk av kv w => ∃ k : Nat, gk + k = 16 ∧ kv = .int .i64 k ∧ av = .int .i64 (sm (cc C) k : Nat) ∧ sm (cc C) k ≤ 256 * k ∧ St w0 w [])
  case atStart => exact ⟨0, rfl, rfl, rfl, by simp [sm], hS.sub sb9⟩
  case round =>
    clear hS
    obtain ⟨k, hk, rfl, rfl, hs, hS⟩ := hrel
    by_cases hlt : k < 16
    · have hx := HB.out k hlt
      have hsm := hid (show sm (cc C) (k + 1) = sm (cc C) k + cc C k from rfl)
      have hci := cc_int C k hx.1
      obtain ⟨y, hy⟩ : ∃ y, cc C k = y := ⟨_, rfl⟩
      rw [hy] at hci hsm
      obtain ⟨x, hxe⟩ : ∃ x, nth C k = x := ⟨_, rfl⟩
      have HX := hid hxe
      rw [hxe] at hci hx
      subst hci
      clear hxe hy
      repeat' (first
        | ((with_reducible apply gt9 (some 11) _); refine wplV (.int .i64 ((y : Nat) : Int)) (V.as (V.indexIv Tryd.underlying29 Tryd.underlying3 isz3 rfl rfl hC IsN.cast (by omega)) HX.out) (by kernel_rfl) ?_; go_step) | ((with_reducible apply gt9 _ (.move _)); (first | go_big_want | go_step); go_step) | ((with_reducible apply gt9 _ (.assign _)); (first | go_big_want | go_step); go_step) | ((with_reducible apply gt9 _ (.pick _ _ _)); (refine wplPickF rfl (by kernel_rfl) ?_; go_step)) | ((with_reducible apply gt9 (some 13) (.binOp .lss _ _ _ _)); (refine wplD _ (V.lss rfl rfl) (by kernel_rfl) (fun hB => ?_) (fun hB => ?_) <;> (try (have hF : False := (by omega); cases hF)) <;> go_step)) | ((with_reducible apply gt9 _ (.binOp .lss _ _ _ _)); (refine wvv9 (V.lss rfl rfl) ?_; go_step)) | ((with_reducible apply gt9 _ (.binOp .gtr _ _ _ _)); (refine wvv9 (V.gtr rfl rfl) ?_; go_step)) | ((with_reducible apply gt9 _ (.binOp .add _ _ _ _)); (refine wvv9 (V.addI rfl rfl (by omega)) ?_; go_step)) | ((fail_if_success with_reducible apply ga9); go_step))
      go_roundg (gk - 1)
      case measure => omega
      case rel => exact ⟨k + 1, by omega, by go_num, by rw [hsm.out]; go_num, by rw [hsm.out]; omega, hS⟩
    · obtain rfl : k = 16 := by omega
      repeat' (first
        | ((with_reducible apply gt9 _ (.move _)); (first | go_big_want | go_step); go_step) | ((with_reducible apply gt9 _ (.assign _)); (first | go_big_want | go_step); go_step) | ((with_reducible apply gt9 _ (.binOp .lss _ _ _ _)); (refine wvv9 (V.lss rfl rfl) ?_; go_step)) | ((with_reducible apply gt9 _ (.binOp .leq _ _ _ _)); (refine wvv9 (V.leq rfl rfl) ?_; go_step)) | ((fail_if_success with_reducible apply ga9); go_step))
      refine ret_all (xs := [_, _]) rfl (.cons (OneRes.tmp rfl) (.cons (OneRes.tmp rfl) (.nil))) (by simp) rfl ?_
      exact ⟨ret2_bool (decide_eq_true (by omega)), hS.1⟩
set_option maxRecDepth 100000 in
theorem total_no (w0 : World) (C : List Int) (v : Value) (hC : Len C 16) (h : totOk C = false) : Calls Tryd.prog 76 #[tv C v] w0 fun e w => ∃ z, e = .returned (.tuple #[.int .i64 z, .bool false]) ∧ Ext w0 w := by
  have hb : ¬ ((∀ k, k < 16 → 0 ≤ nth C k ∧ nth C k ≤ 256) ∧ sm (cc C) 16 ≤ 256) := by rw [← totOk_iff, h]; simp
  have HB := hid hb
  clear hb h
  have hS := St.start w0
  go_enter Tryd.func76, Tryd.ntmps76
  repeat' (first
    | ((with_reducible apply gt9 _ (.move _)); (first | go_big_want | go_step); go_step) | ((with_reducible apply gt9 _ (.assign _)); (first | go_big_want | go_step); go_step) | ((with_reducible apply gt9 _ (.fieldAddr 31 _ 0)); (refine wvv9 (V.fieldAddr fo31_0 rfl nq9) ?_; go_step)) | ((with_reducible apply gt9 (some 1) (.box 31 _)); (refine wpl (by kernel_rfl) ?_; apply wp_boxP (o := ⟨some 1, _, _, _, _, _⟩) hS 31 _ rfl _ rfl; clear hS; intro g1 w hS; refine put_move ?_; go_step)) | ((with_reducible apply gt9 _ (.load 29 _)); (refine wpl (by kernel_rfl) ?_; apply wp_loadRP hS 29 _ rfl _ _ rfl 16 (row_of rfl) _; (case hp => exact pl9); (case hi => (repeat (first | (apply AtR.head; (first | (with_reducible assumption) | exact Len.rep | exact Len.set (by with_reducible assumption) | exact Len.set Len.rep | exact Len.set (Len.set Len.rep))) | (apply AtR.skipI; (case hn => (first | (with_reducible assumption) | exact Len.rep | exact Len.set (by with_reducible assumption) | exact Len.set Len.rep | exact Len.set (Len.set Len.rep))); (case h => omega); (case ho => rfl)) | apply AtR.skipV))); refine put_move ?_; go_step)) | ((fail_if_success with_reducible apply ga9); go_step))
  go_loopg [4, 9] 16 (fun gk av kv w => ∃ k : Nat, gk + k = 16 ∧ kv = .int .i64 k ∧ av = .int .i64 (sm (cc C) k : Nat) ∧ Hid (∀ j, j < k → 0 ≤ nth C j ∧ nth C j ≤ 256) ∧ sm (cc C) k ≤ 256 * k ∧ St w0 w [])
  case atStart => exact ⟨0, rfl, rfl, rfl, hid (fun j hj => absurd hj (by omega)), by simp [sm], hS.sub sb9⟩
  case round =>
    clear hS
    obtain ⟨k, hk, rfl, rfl, HA, hs, hS⟩ := hrel
    by_cases hlt : k < 16
    · have hsm := hid (show sm (cc C) (k + 1) = sm (cc C) k + cc C k from rfl)
      by_cases hx : 0 ≤ nth C k ∧ nth C k ≤ 256
      · have hci := cc_int C k hx.1
        have HA2 : Hid (∀ j, j < k + 1 → 0 ≤ nth C j ∧ nth C j ≤ 256) := hid fun j hj => by
          by_cases hjk : j < k
          · exact HA.out j hjk
          · obtain rfl : j = k := by omega
            exact hx
        obtain ⟨y, hy⟩ : ∃ y, cc C k = y := ⟨_, rfl⟩
        rw [hy] at hci hsm
        obtain ⟨x, hxe⟩ : ∃ x, nth C k = x := ⟨_, rfl⟩
        have HX := hid hxe
        rw [hxe] at hci hx
        subst hci
        clear hxe hy
        repeat' (first
          | ((with_reducible apply gt9 (some 11) _); refine wplV (.int .i64 ((y : Nat) : Int)) (V.as (V.indexIv Tryd.underlying29 Tryd.underlying3 isz3 rfl rfl hC IsN.cast (by omega)) HX.out) (by kernel_rfl) ?_; go_step) | ((with_reducible apply gt9 _ (.move _)); (first | go_big_want | go_step); go_step) | ((with_reducible apply gt9 _ (.assign _)); (first | go_big_want | go_step); go_step) | ((with_reducible apply gt9 _ (.pick _ _ _)); (refine wplPickF rfl (by kernel_rfl) ?_; go_step)) | ((with_reducible apply gt9 (some 13) (.binOp .lss _ _ _ _)); (refine wplD _ (V.lss rfl rfl) (by kernel_rfl) (fun hB => ?_) (fun hB => ?_) <;> (try (have hF : False := (by omega); cases hF)) <;> go_step)) | ((with_reducible apply gt9 _ (.binOp .lss _ _ _ _)); (refine wvv9 (V.lss rfl rfl) ?_; go_step)) | ((with_reducible apply gt9 _ (.binOp .gtr _ _ _ _)); (refine wvv9 (V.gtr rfl rfl) ?_; go_step)) | ((with_reducible apply gt9 _ (.binOp .add _ _ _ _)); (refine wvv9 (V.addI rfl rfl (by omega)) ?_; go_step)) | ((fail_if_success with_reducible apply ga9); go_step))
        go_roundg (gk - 1)
        case measure => omega
        case rel => exact ⟨k + 1, by omega, by go_num, by rw [hsm.out]; go_num, HA2, by rw [hsm.out]; omega, hS⟩
      · obtain ⟨x, hxe⟩ : ∃ x, nth C k = x := ⟨_, rfl⟩
        have HX := hid hxe
        rw [hxe] at hx
        have hx2 : x < 0 ∨ 256 < x := by omega
        clear hxe hx
        repeat' (first
          | ((with_reducible apply gt9 (some 11) _); refine wplV (.int .i64 x) (V.as (V.indexIv Tryd.underlying29 Tryd.underlying3 isz3 rfl rfl hC IsN.cast (by omega)) HX.out) (by kernel_rfl) ?_; go_step) | go_big_skip | ((with_reducible apply gt9 _ (.move _)); (first | go_big_want | go_step); go_step) | ((with_reducible apply gt9 _ (.assign _)); (first | go_big_want | go_step); go_step) | ((with_reducible apply gt9 _ (.pick _ _ _)); first | (refine wplPickT rfl (by kernel_rfl) ?_; go_step) | (refine wplPickF rfl (by kernel_rfl) ?_; go_step)) | ((with_reducible apply gt9 (some 13) (.binOp .lss _ _ _ _)); (refine wplD _ (V.lss rfl rfl) (by kernel_rfl) (fun hB => ?_) (fun hB => ?_) <;> (try (have hF : False := (by omega); cases hF)) <;> go_step)) | ((with_reducible apply gt9 _ (.binOp .lss _ _ _ _)); (refine wvv9 (V.lss rfl rfl) ?_; go_step)) | ((with_reducible apply gt9 _ (.binOp .gtr _ _ _ _)); (refine wvv9 (V.gtr rfl rfl) ?_; go_step)) | ((fail_if_success with_reducible apply ga9); go_step))
        all_goals
          refine ret_all (xs := [_, _]) rfl (.cons (OneRes.tmp rfl) (.cons (OneRes.tmp rfl) (.nil))) (by simp) rfl ?_
          exact ⟨_, rfl, hS.1⟩
    · obtain rfl : k = 16 := by omega
      have hgt : 256 < sm (cc C) 16 := by
        have := HB.out
        have h2 := HA.out
        by_cases h3 : sm (cc C) 16 ≤ 256
        · exact absurd ⟨h2, h3⟩ this
        · omega
      repeat' (first
        | ((with_reducible apply gt9 _ (.move _)); (first | go_big_want | go_step); go_step) | ((with_reducible apply gt9 _ (.assign _)); (first | go_big_want | go_step); go_step) | ((with_reducible apply gt9 _ (.binOp .lss _ _ _ _)); (refine wvv9 (V.lss rfl rfl) ?_; go_step)) | ((with_reducible apply gt9 _ (.binOp .leq _ _ _ _)); (refine wvv9 (V.leq rfl rfl) ?_; go_step)) | ((fail_if_success with_reducible apply ga9); go_step))
      refine ret_all (xs := [_, _]) rfl (.cons (OneRes.tmp rfl) (.cons (OneRes.tmp rfl) (.nil))) (by simp) rfl ?_
      exact ⟨_, ret2_bool (decide_eq_false (by omega)), hS.1⟩
/-- The symbols that have come, as a map. -/
def hasF (l : List Int) (s : Int) : Option Value := if s ∈ l then some (.bool true) else none
theorem hasF_snoc (S : List Int) (k : Nat) (hk : k < S.length) : (fun j => if j = nth S k then some (Value.bool true) else hasF (S.take k) j) = hasF (S.take (k + 1)) := by
  funext j
  have e : S.take (k + 1) = S.take k ++ [nth S k] := by rw [List.take_add_one, get_nth S k hk]; rfl
  unfold hasF
  rw [e]
  by_cases h : j = nth S k
  · simp [h]
  · simp [h]
theorem nth_mem (S : List Int) (k : Nat) (h : k < S.length) : nth S k ∈ S := List.mem_of_getElem? (get_nth S k h)
theorem nodup_snoc (S : List Int) (k : Nat) (hk : k < S.length) : (S.take (k + 1)).Nodup ↔ (S.take k).Nodup ∧ nth S k ∉ S.take k := by
  have e : S.take (k + 1) = S.take k ++ [nth S k] := by rw [List.take_add_one, get_nth S k hk]; rfl
  rw [e, List.nodup_append]
  constructor
  · intro h; exact ⟨h.1, fun hm => h.2.2 _ hm _ (by simp) rfl⟩
  · intro h; refine ⟨h.1, by simp, fun a ha b hb => ?_⟩
    simp only [List.mem_singleton] at hb
    subst hb
    intro e; subst e; exact h.2 ha
set_option maxRecDepth 100000 in
set_option maxHeartbeats 4000000 in
theorem check_any (w0 : World) (C S : List Int) (ad : Option Addr) (n c : Nat) (hC : Len C 16) (hv : Sl w0 1 (.slice ad n c) n (S.map (Value.int .i64))) (hn : n ≤ 9223372036854775807) :
    Calls Tryd.prog 52 #[tv C (.slice ad n c)] w0 fun e w => e = .returned (.int .i64 (tabE C S)) ∧ Ext w0 w := by
  have hSl : S.length = n := by have := hv.1; simpa using this
  have HSl := hid hSl
  clear hSl
  have hS := St.start w0
  by_cases ht : totOk C = true
  case neg =>
    have hE := hid (show tabE C S = 4 by unfold tabE; rw [if_neg (fun h => ht h.1)])
    have ht2 := hid (show totOk C = false by simpa using ht)
    clear ht
    go_enter Tryd.func52, Tryd.ntmps52
    repeat' (first
      | ((with_reducible apply gt9 _ (.call ⟨.value (.func 76), _, _⟩)); refine wpl_call (f := 76) Tryd.call76 (by kernel_rfl) ?_; refine ⟨_, (total_no _ C _ hC ht2.out), ?_⟩; rintro e w ⟨z, rfl, hE2⟩; replace hS := hS.ext hE2; clear hE2; refine ⟨_, rfl, ?_⟩; refine put_move ?_; go_step) | go_skip | ((with_reducible apply gt9 _ (.move _)); (first | go_big_want | go_step); go_step) | ((with_reducible apply gt9 _ (.assign _)); (first | go_big_want | go_step); go_step) | ((with_reducible apply gt9 _ (.pick _ _ _)); (refine wplPickT rfl (by kernel_rfl) ?_; go_step)) | ((with_reducible apply gt9 (some 18) (.unOp .not _ _)); (refine wplB _ (V.not rfl) (by kernel_rfl) (fun hB => ?_) (fun hB => ?_) <;> (try (have hF : False := (absurd hB (by decide)); cases hF)) <;> go_step)) | ((with_reducible apply gt9 _ (.extract _ _)); (refine wvv9 (V.extract rfl rfl) ?_; go_step)) | ((with_reducible apply gt9 (some 1) (.box 31 _)); (refine wpl (by kernel_rfl) ?_; apply wp_boxP (o := ⟨some 1, _, _, _, _, _⟩) hS 31 _ rfl _ rfl; clear hS; intro g1 w hS; refine put_move ?_; go_step)) | ((with_reducible apply gt9 _ (.load 31 _)); (refine wpl (by kernel_rfl) ?_; apply wp_loadPP hS 31 _ rfl _ _ rfl 17 (row_of rfl) _; (case hp => exact pl9); (case hi => (repeat (first | (apply AtP.head; (repeat (first | exact Pre.nil | (apply Pre.ints; (case hn => (first | (with_reducible assumption) | exact Len.rep | exact Len.set (by with_reducible assumption) | exact Len.set Len.rep | exact Len.set (Len.set Len.rep))); (case h => omega); (case hm => rfl)) | apply Pre.val))) | (apply AtP.skipI; (case hn => (first | (with_reducible assumption) | exact Len.rep | exact Len.set (by with_reducible assumption) | exact Len.set Len.rep | exact Len.set (Len.set Len.rep))); (case h => omega); (case ho => rfl)) | apply AtP.skipV))); refine put_move ?_; go_step)) | ((fail_if_success with_reducible apply ga9); go_step))
    refine ret_one rfl (OneRes.tmp rfl) rfl ?_
    exact ⟨(by rw [hE.out]; first | done | rfl), hS.1⟩
  have HT := hid ht
  clear ht
  by_cases hs : sm (cc C) 16 = n
  case neg =>
    have hE := hid (show tabE C S = 4 by unfold tabE; rw [if_neg (fun h => hs (h.2.trans HSl.out))])
    obtain ⟨t, ht⟩ : ∃ t, sm (cc C) 16 = t := ⟨_, rfl⟩
    rw [ht] at hs
    have HT2 := hid ht
    clear ht
    go_enter Tryd.func52, Tryd.ntmps52
    repeat' (first
      | ((with_reducible apply gt9 _ (.call ⟨.value (.func 76), _, _⟩)); refine wpl_call (f := 76) Tryd.call76 (by kernel_rfl) ?_; refine ⟨_, (total_yes _ C _ hC HT.out), ?_⟩; rintro e w ⟨rfl, hE2⟩; rw [HT2.out]; replace hS := hS.ext hE2; clear hE2; refine ⟨_, rfl, ?_⟩; refine put_move ?_; go_step) | ((with_reducible apply gt9 _ (.move _)); (first | go_big_want | go_step); go_step) | ((with_reducible apply gt9 _ (.assign _)); (first | go_big_want | go_step); go_step) | ((with_reducible apply gt9 _ (.pick _ _ _)); (refine wplPickF rfl (by kernel_rfl) ?_; go_step)) | ((with_reducible apply gt9 (some 18) (.unOp .not _ _)); (refine wplB _ (V.not rfl) (by kernel_rfl) (fun hB => ?_) (fun hB => ?_) <;> (try (have hF : False := (absurd hB (by decide)); cases hF)) <;> go_step)) | ((with_reducible apply gt9 _ (.extract _ _)); (refine wvv9 (V.extract rfl rfl) ?_; go_step)) | ((with_reducible apply gt9 _ (.fieldAddr 31 _ 1)); (refine wvv9 (V.fieldAddr fo31_1 rfl nq9) ?_; go_step)) | ((with_reducible apply gt9 _ (.call ⟨.builtin .len, _, _⟩)); (refine wvv9 (V.len Tryd.underlying24 rfl) ?_; go_step)) | ((with_reducible apply gt9 _ (.binOp .neq 3 _ _ _)); (refine wvv9 (V.neq rfl rfl) ?_; go_step)) | ((with_reducible apply gt9 (some 1) (.box 31 _)); (refine wpl (by kernel_rfl) ?_; apply wp_boxP (o := ⟨some 1, _, _, _, _, _⟩) hS 31 _ rfl _ rfl; clear hS; intro g1 w hS; refine put_move ?_; go_step)) | ((with_reducible apply gt9 _ (.load 31 _)); (refine wpl (by kernel_rfl) ?_; apply wp_loadPP hS 31 _ rfl _ _ rfl 17 (row_of rfl) _; (case hp => exact pl9); (case hi => (repeat (first | (apply AtP.head; (repeat (first | exact Pre.nil | (apply Pre.ints; (case hn => (first | (with_reducible assumption) | exact Len.rep | exact Len.set (by with_reducible assumption) | exact Len.set Len.rep | exact Len.set (Len.set Len.rep))); (case h => omega); (case hm => rfl)) | apply Pre.val))) | (apply AtP.skipI; (case hn => (first | (with_reducible assumption) | exact Len.rep | exact Len.set (by with_reducible assumption) | exact Len.set Len.rep | exact Len.set (Len.set Len.rep))); (case h => omega); (case ho => rfl)) | apply AtP.skipV))); refine put_move ?_; go_step)) | ((with_reducible apply gt9 _ (.load 24 _)); (refine wpl (by kernel_rfl) ?_; apply wp_loadVP hS 24 _ rfl _ _ rfl (one_of rfl) _; (case hp => exact pl9); (case hi => (repeat (first | exact AtV.head | (apply AtV.skipI; (case hn => (first | (with_reducible assumption) | exact Len.rep | exact Len.set (by with_reducible assumption) | exact Len.set Len.rep | exact Len.set (Len.set Len.rep))); (case h => omega); (case ho => rfl)) | apply AtV.skipV))); refine put_move ?_; go_step)) | ((fail_if_success with_reducible apply ga9); go_step))
    refine ret_one rfl (OneRes.tmp rfl) rfl ?_
    exact ⟨(by rw [hE.out]; first | done | rfl), hS.1⟩
  have h256 : n ≤ 256 := by
    have := (totOk_iff C).1 HT.out
    omega
  have HS2 := hid hs
  have HE := hid (show tabE C S = if symsB S then if S.Nodup ∧ roomB (cc C) = true then 0 else 4 else 1 by unfold tabE; rw [if_pos ⟨HT.out, hs.trans HSl.out.symm⟩])
  clear hs
  go_enter Tryd.func52, Tryd.ntmps52
  repeat' (first
    | ((with_reducible apply gt9 _ (.call ⟨.value (.func 76), _, _⟩)); refine wpl_call (f := 76) Tryd.call76 (by kernel_rfl) ?_; refine ⟨_, (total_yes _ C _ hC HT.out), ?_⟩; rintro e w ⟨rfl, hE2⟩; rw [HS2.out]; replace hS := hS.ext hE2; clear hE2; refine ⟨_, rfl, ?_⟩; refine put_move ?_; go_step) | ((with_reducible apply gt9 _ (.move _)); (first | go_big_want | go_step); go_step) | ((with_reducible apply gt9 _ (.assign _)); (first | go_big_want | go_step); go_step) | ((with_reducible apply gt9 _ (.pick _ _ _)); (refine wplPickF rfl (by kernel_rfl) ?_; go_step)) | ((with_reducible apply gt9 (some 18) (.unOp .not _ _)); (refine wplB _ (V.not rfl) (by kernel_rfl) (fun hB => ?_) (fun hB => ?_) <;> (try (have hF : False := (absurd hB (by decide)); cases hF)) <;> go_step)) | ((with_reducible apply gt9 _ (.extract _ _)); (refine wvv9 (V.extract rfl rfl) ?_; go_step)) | ((with_reducible apply gt9 _ (.fieldAddr 31 _ 1)); (refine wvv9 (V.fieldAddr fo31_1 rfl nq9) ?_; go_step)) | ((with_reducible apply gt9 _ (.call ⟨.builtin .len, _, _⟩)); (refine wvv9 (V.len Tryd.underlying24 rfl) ?_; go_step)) | ((with_reducible apply gt9 _ (.binOp .neq 3 _ _ _)); (refine wvv9 (V.neq rfl rfl) ?_; go_step)) | ((with_reducible apply gt9 (some 1) (.box 31 _)); (refine wpl (by kernel_rfl) ?_; apply wp_boxP (o := ⟨some 1, _, _, _, _, _⟩) hS 31 _ rfl _ rfl; clear hS; intro g1 w hS; refine put_move ?_; go_step)) | ((with_reducible apply gt9 _ (.load 31 _)); (refine wpl (by kernel_rfl) ?_; apply wp_loadPP hS 31 _ rfl _ _ rfl 17 (row_of rfl) _; (case hp => exact pl9); (case hi => (repeat (first | (apply AtP.head; (repeat (first | exact Pre.nil | (apply Pre.ints; (case hn => (first | (with_reducible assumption) | exact Len.rep | exact Len.set (by with_reducible assumption) | exact Len.set Len.rep | exact Len.set (Len.set Len.rep))); (case h => omega); (case hm => rfl)) | apply Pre.val))) | (apply AtP.skipI; (case hn => (first | (with_reducible assumption) | exact Len.rep | exact Len.set (by with_reducible assumption) | exact Len.set Len.rep | exact Len.set (Len.set Len.rep))); (case h => omega); (case ho => rfl)) | apply AtP.skipV))); refine put_move ?_; go_step)) | ((with_reducible apply gt9 _ (.load 24 _)); (refine wpl (by kernel_rfl) ?_; apply wp_loadVP hS 24 _ rfl _ _ rfl (one_of rfl) _; (case hp => exact pl9); (case hi => (repeat (first | exact AtV.head | (apply AtV.skipI; (case hn => (first | (with_reducible assumption) | exact Len.rep | exact Len.set (by with_reducible assumption) | exact Len.set Len.rep | exact Len.set (Len.set Len.rep))); (case h => omega); (case ho => rfl)) | apply AtV.skipV))); refine put_move ?_; go_step)) | ((with_reducible apply gt9 (some 26) (.makeMap 152 _)); (refine wpl (by kernel_rfl) ?_; apply wp_makeMap (o := ⟨some 26, _, _, _, _, _⟩) ik hS 152 rfl; clear hS; intro g26 w hS; refine put_move ?_; go_step)) | ((fail_if_success with_reducible apply ga9); go_step))
  go_loopg [6, 30] n (fun gk bv kv w => ∃ (k : Nat) (b : Bool), gk + k = n ∧ kv = .int .i64 k ∧ bv = .bool b ∧ Hid (b = true ↔ ¬ (S.take k).Nodup) ∧ Hid (∀ j, j < k → 0 ≤ nth S j ∧ nth S j < 256) ∧ St w0 w [mp ik g26 (hasF (S.take k)), prt g1 [.ints C, .val (.slice ad n c)]])
  case atStart => exact ⟨0, false, rfl, rfl, rfl, hid (by simp), hid (fun j hj => absurd hj (by omega)), (by rw [show hasF (S.take 0) = fun _ => none from (by funext s; simp [hasF])]; exact hS)⟩
  case round =>
    clear hS
    obtain ⟨k, b, hk, rfl, rfl, HB, HR, hS⟩ := hrel
    by_cases hlt : k < n
    · have hk2 := hid (show k < S.length by rw [HSl.out]; exact hlt)
      have HF := hid (hasF_snoc S k hk2.out)
      have HN := hid (nodup_snoc S k hk2.out)
      obtain ⟨x, hx⟩ : ∃ x, nth S k = x := ⟨_, rfl⟩
      have HX := hid hx
      rw [hx] at HF HN
      clear hx
      by_cases hr : 0 ≤ x ∧ x < 256
      · have HR2 : Hid (∀ j, j < k + 1 → 0 ≤ nth S j ∧ nth S j < 256) := hid fun j hj => by
          by_cases hjk : j < k
          · exact HR.out j hjk
          · obtain rfl : j = k := by omega
            rw [HX.out]; exact hr
        by_cases hm : x ∈ S.take k
        · have hf : hasF (S.take k) x = some (.bool true) := by rw [hasF, if_pos hm]
          have HB2 : Hid (true = true ↔ ¬ (S.take (k + 1)).Nodup) := hid (by rw [HN.out]; simp [hm])
          clear HN hm
          cases b
          all_goals
            repeat' (first
              | ((with_reducible apply gt9 (some 32) _); refine wpl_indexI hv Tryd.underlying24 isz3 rfl rfl IsN.cast (by omega) rfl ?_; rw [HX.out]; intro b32 o32 hc32; go_step) | go_big_skip | ((with_reducible apply gt9 _ (.move _)); (first | go_big_want | go_step); go_step) | ((with_reducible apply gt9 _ (.assign _)); (first | go_big_want | go_step); go_step) | ((with_reducible apply gt9 _ (.pick _ _ _)); first | (refine wplPickT rfl (by kernel_rfl) ?_; go_step) | (refine wplPickF rfl (by kernel_rfl) ?_; go_step)) | ((with_reducible apply gt9 (some 35) (.binOp .lss _ _ _ _)); (refine wplD _ (V.lss rfl rfl) (by kernel_rfl) (fun hB => ?_) (fun hB => ?_) <;> (try (have hF : False := (by omega); cases hF)) <;> go_step)) | ((with_reducible apply gt9 _ (.binOp .lss _ _ _ _)); (refine wvv9 (V.lss rfl rfl) ?_; go_step)) | ((with_reducible apply gt9 _ (.binOp .geq _ _ _ _)); (refine wvv9 (V.geq rfl rfl) ?_; go_step)) | ((with_reducible apply gt9 _ (.binOp .add _ _ _ _)); (refine wvv9 (V.addI rfl rfl (by omega)) ?_; go_step)) | ((with_reducible apply gt9 _ (.load 3 _)); (refine wpl (by kernel_rfl) ?_; apply wp_loadW hS 3 _ rfl _ rfl (one_of rfl) _; (case hc => with_reducible assumption); refine put_move ?_; go_step)) | ((with_reducible apply gt9 (some 44) (.lookup 152 _ _ _)); (refine wpl (by kernel_rfl) ?_; apply wp_lookupS (enc := ik) hS 152 _ _ rfl _ rfl _ rfl Tryd.underlying152 (keyLaw_int Tryd.underlying3) (.bool false) (fun w => Tryd.zeroValue4 w) _; (case hp => exact pl9); (case hf => with_reducible assumption); refine put_move ?_; go_step)) | ((with_reducible apply gt9 _ (.mapUpdate 152 _ _ _)); (refine wpl (by kernel_rfl) ?_; apply wp_mapUpdate (enc := ik) hS 152 _ _ _ rfl _ rfl _ rfl Tryd.underlying152 (keyLaw_int Tryd.underlying3) _; (case hp => exact pl9); (case hv => (first | exact IsV.int rfl | exact IsV.bool rfl | exact IsV.slice rfl | exact IsV.pointer rfl | exact IsV.string rfl | exact IsV.map rfl | exact IsV.func rfl | exact IsV.agg rfl)); (case hd => exact rfl); clear hS; intro w hS)) | ((fail_if_success with_reducible apply ga9); go_step))
            go_roundg (gk - 1)
            case measure => omega
            case rel => exact ⟨k + 1, true, by omega, by go_num, rfl, HB2, HR2, by rw [← HF.out]; exact hS.sub sb9⟩
        · have hf : hasF (S.take k) x = none := by rw [hasF, if_neg hm]
          have HB2 : Hid (b = true ↔ ¬ (S.take (k + 1)).Nodup) := hid (by rw [HN.out, HB.out]; simp [hm])
          clear HN hm
          cases b
          all_goals
            repeat' (first
              | ((with_reducible apply gt9 (some 32) _); refine wpl_indexI hv Tryd.underlying24 isz3 rfl rfl IsN.cast (by omega) rfl ?_; rw [HX.out]; intro b32 o32 hc32; go_step) | go_big_skip | ((with_reducible apply gt9 _ (.move _)); (first | go_big_want | go_step); go_step) | ((with_reducible apply gt9 _ (.assign _)); (first | go_big_want | go_step); go_step) | ((with_reducible apply gt9 _ (.pick _ _ _)); first | (refine wplPickT rfl (by kernel_rfl) ?_; go_step) | (refine wplPickF rfl (by kernel_rfl) ?_; go_step)) | ((with_reducible apply gt9 (some 35) (.binOp .lss _ _ _ _)); (refine wplD _ (V.lss rfl rfl) (by kernel_rfl) (fun hB => ?_) (fun hB => ?_) <;> (try (have hF : False := (by omega); cases hF)) <;> go_step)) | ((with_reducible apply gt9 _ (.binOp .lss _ _ _ _)); (refine wvv9 (V.lss rfl rfl) ?_; go_step)) | ((with_reducible apply gt9 _ (.binOp .geq _ _ _ _)); (refine wvv9 (V.geq rfl rfl) ?_; go_step)) | ((with_reducible apply gt9 _ (.binOp .add _ _ _ _)); (refine wvv9 (V.addI rfl rfl (by omega)) ?_; go_step)) | ((with_reducible apply gt9 _ (.load 3 _)); (refine wpl (by kernel_rfl) ?_; apply wp_loadW hS 3 _ rfl _ rfl (one_of rfl) _; (case hc => with_reducible assumption); refine put_move ?_; go_step)) | ((with_reducible apply gt9 (some 44) (.lookup 152 _ _ _)); (refine wpl (by kernel_rfl) ?_; apply wp_lookupN (enc := ik) hS 152 _ _ rfl _ rfl _ rfl Tryd.underlying152 (keyLaw_int Tryd.underlying3) (.bool false) (fun w => Tryd.zeroValue4 w) _; (case hp => exact pl9); (case hf => with_reducible assumption); refine put_move ?_; go_step)) | ((with_reducible apply gt9 _ (.mapUpdate 152 _ _ _)); (refine wpl (by kernel_rfl) ?_; apply wp_mapUpdate (enc := ik) hS 152 _ _ _ rfl _ rfl _ rfl Tryd.underlying152 (keyLaw_int Tryd.underlying3) _; (case hp => exact pl9); (case hv => (first | exact IsV.int rfl | exact IsV.bool rfl | exact IsV.slice rfl | exact IsV.pointer rfl | exact IsV.string rfl | exact IsV.map rfl | exact IsV.func rfl | exact IsV.agg rfl)); (case hd => exact rfl); clear hS; intro w hS)) | ((fail_if_success with_reducible apply ga9); go_step))
            go_roundg (gk - 1)
            case measure => omega
            case rel => exact ⟨k + 1, _, by omega, by go_num, rfl, HB2, HR2, by rw [← HF.out]; exact hS.sub sb9⟩
      · have hE4 : Hid (tabE C S = 1) := hid (by
          rw [HE.out, if_neg]
          intro h
          have := List.all_eq_true.1 h x (by rw [← HX.out]; exact nth_mem S k hk2.out)
          simp at this; omega)
        clear HF HN
        have hr2 : x < 0 ∨ 256 ≤ x := by omega
        clear hr
        repeat' (first
          | ((with_reducible apply gt9 (some 32) _); refine wpl_indexI hv Tryd.underlying24 isz3 rfl rfl IsN.cast (by omega) rfl ?_; rw [HX.out]; intro b32 o32 hc32; go_step) | go_big_skip | ((with_reducible apply gt9 _ (.move _)); (first | go_big_want | go_step); go_step) | ((with_reducible apply gt9 _ (.assign _)); (first | go_big_want | go_step); go_step) | ((with_reducible apply gt9 _ (.pick _ _ _)); first | (refine wplPickT rfl (by kernel_rfl) ?_; go_step) | (refine wplPickF rfl (by kernel_rfl) ?_; go_step)) | ((with_reducible apply gt9 (some 35) (.binOp .lss _ _ _ _)); (refine wplD _ (V.lss rfl rfl) (by kernel_rfl) (fun hB => ?_) (fun hB => ?_) <;> (try (have hF : False := (by omega); cases hF)) <;> go_step)) | ((with_reducible apply gt9 _ (.binOp .lss _ _ _ _)); (refine wvv9 (V.lss rfl rfl) ?_; go_step)) | ((with_reducible apply gt9 _ (.binOp .geq _ _ _ _)); (refine wvv9 (V.geq rfl rfl) ?_; go_step)) | ((with_reducible apply gt9 _ (.load 3 _)); (refine wpl (by kernel_rfl) ?_; apply wp_loadW hS 3 _ rfl _ rfl (one_of rfl) _; (case hc => with_reducible assumption); refine put_move ?_; go_step)) | ((fail_if_success with_reducible apply ga9); go_step))
        all_goals
          refine ret_one rfl (OneRes.tmp rfl) rfl ?_
          exact ⟨(by rw [hE4.out]; first | done | rfl), hS.1⟩
    · obtain rfl : k = n := by omega
      have hall : symsB S = true := by
        rw [symsB, List.all_eq_true]
        intro s hs
        obtain ⟨j, hj, rfl⟩ := List.getElem_of_mem hs
        have := HR.out j (by rw [← HSl.out]; exact hj)
        simp [nth, List.getD, hj] at this
        simpa using this
      have htk : S.take k = S := by rw [← HSl.out]; exact List.take_length
      have HB3 : Hid (b = true ↔ ¬ S.Nodup) := hid (by have := HB.out; rwa [htk] at this)
      have HE3 : Hid (tabE C S = if S.Nodup ∧ roomB (cc C) = true then 0 else 4) := hid (by rw [HE.out, if_pos hall])
      have HCp := hid ((totOk_iff C).1 HT.out).1
      clear hall htk HB HE HR
      repeat' (first
        | ((with_reducible apply gt9 _ (.move _)); (first | go_big_want | go_step); go_step) | ((with_reducible apply gt9 _ (.assign _)); (first | go_big_want | go_step); go_step) | ((with_reducible apply gt9 _ (.binOp .lss _ _ _ _)); (refine wvv9 (V.lss rfl rfl) ?_; go_step)) | ((with_reducible apply gt9 _ (.fieldAddr 31 _ 0)); (refine wvv9 (V.fieldAddr fo31_0 rfl nq9) ?_; go_step)) | ((with_reducible apply gt9 _ (.load 29 _)); (refine wpl (by kernel_rfl) ?_; apply wp_loadRP hS 29 _ rfl _ _ rfl 16 (row_of rfl) _; (case hp => exact pl9); (case hi => (repeat (first | (apply AtR.head; (first | (with_reducible assumption) | exact Len.rep | exact Len.set (by with_reducible assumption) | exact Len.set Len.rep | exact Len.set (Len.set Len.rep))) | (apply AtR.skipI; (case hn => (first | (with_reducible assumption) | exact Len.rep | exact Len.set (by with_reducible assumption) | exact Len.set Len.rep | exact Len.set (Len.set Len.rep))); (case h => omega); (case ho => rfl)) | apply AtR.skipV))); refine put_move ?_; go_step)) | ((fail_if_success with_reducible apply ga9); go_step))
      go_loopg [9, 51] 16 (fun gk nv kv w => ∃ (i : Nat), gk + i = 16 ∧ kv = .int .i64 i ∧ nv = .int .i64 (nx (cc C) i : Nat) ∧ nx (cc C) i < 2 ^ i ∧ Hid (∀ j, j < i → nx (cc C) (j + 1) < 2 ^ (j + 1)) ∧ Hid (0 < i → b = false) ∧ St w0 w [])
      case atStart => exact ⟨0, rfl, rfl, rfl, by simp [nx], hid (fun j hj => absurd hj (by omega)), hid (fun h => absurd h (by omega)), hS.sub sb9⟩
      case round =>
        clear hS
        obtain ⟨i, hi, rfl, rfl, hlt2, HA, HZ, hS⟩ := hrel
        by_cases hlt : i < 16
        · have hx := HCp.out i hlt
          have hci := cc_int C i hx.1
          have HNx := hid (show nx (cc C) (i + 1) = 2 * nx (cc C) i + cc C i from rfl)
          obtain ⟨y, hy⟩ : ∃ y, cc C i = y := ⟨_, rfl⟩
          rw [hy] at hci HNx
          have HX := hid hci
          have hy2 : y ≤ 256 := by omega
          obtain ⟨p, hp⟩ : ∃ p, p = 2 ^ i := ⟨_, rfl⟩
          have hp2 : p ≤ 32768 := by rw [hp]; exact Nat.pow_le_pow_right (n := 2) (j := 15) (by omega) (by omega)
          obtain ⟨z, hz⟩ : ∃ z, nx (cc C) i = z := ⟨_, rfl⟩
          rw [← hp] at hlt2
          have HP : Hid ((2 : Int) ^ (i + 1) = ((2 * p : Nat) : Int)) := hid (by rw [hp, Int.pow_succ]; push_cast; omega)
          have HP2 : Hid (2 ^ (i + 1) = 2 * p) := hid (by rw [hp, Nat.pow_succ]; omega)
          rw [hz] at hlt2 HNx ⊢
          clear hci hy hp hz hx
          by_cases hbad : b = true ∨ 2 * p ≤ 2 * z + y
          · have hE4 : Hid (tabE C S = 4) := hid (by
              rw [HE3.out, if_neg]
              rintro ⟨h1, h2⟩
              rcases hbad with h | h
              · exact (HB3.out.1 h) h1
              · have := (roomB_iff _).1 h2 i hlt
                rw [HNx.out, HP2.out] at this; omega)
            have hbad2 : b = false → 2 * p ≤ 2 * z + y := fun h => by
              rcases hbad with h' | h'
              · rw [h] at h'; cases h'
              · exact h'
            clear hbad
            cases b
            · replace hbad2 := hbad2 rfl
              repeat' (first
                | ((with_reducible apply gt9 (some 54) _); refine wplV (.int .i64 ((y : Nat) : Int)) (V.as (V.indexIv Tryd.underlying29 Tryd.underlying3 isz3 rfl rfl hC IsN.cast (by omega)) HX.out) (by kernel_rfl) ?_; go_step) | ((with_reducible apply gt9 (some 56) (.binOp .shl _ _ _ _)); (refine wplV (.int _ (((2 * z : Nat) : Int))) (V.as (V.shlI rfl rfl isn9 (by omega) (by omega)) (by omega)) rfl ?_; go_step)) | ((with_reducible apply gt9 (some 58) (.binOp .add _ _ _ _)); (refine wplV (.int _ (((2 * z + y : Nat) : Int))) (V.as (V.addI rfl rfl (by omega)) (by omega)) rfl ?_; go_step)) | ((with_reducible apply gt9 (some 64) (.binOp .shl _ _ _ _)); (refine wplV (.int _ (((2 * p : Nat) : Int))) (V.as (V.shl1 rfl rfl isn9 (by omega)) (by exact HP.out)) rfl ?_; go_step)) | ((with_reducible apply gt9 _ (.move _)); (first | go_big_want | go_step); go_step) | ((with_reducible apply gt9 _ (.assign _)); (first | go_big_want | go_step); go_step) | ((with_reducible apply gt9 _ (.pick _ _ _)); (refine wplPickF rfl (by kernel_rfl) ?_; go_step)) | ((with_reducible apply gt9 _ (.binOp .lss _ _ _ _)); (refine wvv9 (V.lss rfl rfl) ?_; go_step)) | ((with_reducible apply gt9 _ (.binOp .add _ _ _ _)); (refine wvv9 (V.addI rfl rfl (by omega)) ?_; go_step)) | ((with_reducible apply gt9 _ (.binOp .sub _ _ _ _)); (refine wvv9 (V.subI rfl rfl (by omega)) ?_; go_step)) | ((with_reducible apply gt9 _ (.binOp .gtr _ _ _ _)); (refine wvv9 (V.gtr rfl rfl) ?_; go_step)) | ((fail_if_success with_reducible apply ga9); go_step))
              refine ret_one rfl (OneRes.tmp rfl) rfl ?_
              exact ⟨(by rw [hE4.out]; first | done | rfl), hS.1⟩
            · clear hbad2
              repeat' (first
                | ((with_reducible apply gt9 (some 54) _); refine wplV (.int .i64 ((y : Nat) : Int)) (V.as (V.indexIv Tryd.underlying29 Tryd.underlying3 isz3 rfl rfl hC IsN.cast (by omega)) HX.out) (by kernel_rfl) ?_; go_step) | ((with_reducible apply gt9 (some 56) (.binOp .shl _ _ _ _)); (refine wplV (.int _ (((2 * z : Nat) : Int))) (V.as (V.shlI rfl rfl isn9 (by omega) (by omega)) (by omega)) rfl ?_; go_step)) | ((with_reducible apply gt9 (some 58) (.binOp .add _ _ _ _)); (refine wplV (.int _ (((2 * z + y : Nat) : Int))) (V.as (V.addI rfl rfl (by omega)) (by omega)) rfl ?_; go_step)) | go_big_skip | ((with_reducible apply gt9 _ (.move _)); (first | go_big_want | go_step); go_step) | ((with_reducible apply gt9 _ (.assign _)); (first | go_big_want | go_step); go_step) | ((with_reducible apply gt9 _ (.pick _ _ _)); (refine wplPickT rfl (by kernel_rfl) ?_; go_step)) | ((with_reducible apply gt9 _ (.binOp .lss _ _ _ _)); (refine wvv9 (V.lss rfl rfl) ?_; go_step)) | ((fail_if_success with_reducible apply ga9); go_step))
              refine ret_one rfl (OneRes.tmp rfl) rfl ?_
              exact ⟨(by rw [hE4.out]; first | done | rfl), hS.1⟩
          · obtain rfl : b = false := by cases b <;> simp_all
            have hgood : 2 * z + y < 2 * p := by
              by_cases h : 2 * p ≤ 2 * z + y
              · exact absurd (.inr h) hbad
              · omega
            have HA2 : Hid (∀ j, j < i + 1 → nx (cc C) (j + 1) < 2 ^ (j + 1)) := hid fun j hj => by
              by_cases hji : j < i
              · exact HA.out j hji
              · obtain rfl : j = i := by omega
                rw [HNx.out, HP2.out]; exact hgood
            clear hbad
            repeat' (first
              | ((with_reducible apply gt9 (some 54) _); refine wplV (.int .i64 ((y : Nat) : Int)) (V.as (V.indexIv Tryd.underlying29 Tryd.underlying3 isz3 rfl rfl hC IsN.cast (by omega)) HX.out) (by kernel_rfl) ?_; go_step) | ((with_reducible apply gt9 (some 56) (.binOp .shl _ _ _ _)); (refine wplV (.int _ (((2 * z : Nat) : Int))) (V.as (V.shlI rfl rfl isn9 (by omega) (by omega)) (by omega)) rfl ?_; go_step)) | ((with_reducible apply gt9 (some 58) (.binOp .add _ _ _ _)); (refine wplV (.int _ (((2 * z + y : Nat) : Int))) (V.as (V.addI rfl rfl (by omega)) (by omega)) rfl ?_; go_step)) | ((with_reducible apply gt9 (some 64) (.binOp .shl _ _ _ _)); (refine wplV (.int _ (((2 * p : Nat) : Int))) (V.as (V.shl1 rfl rfl isn9 (by omega)) (by exact HP.out)) rfl ?_; go_step)) | ((with_reducible apply gt9 _ (.move _)); (first | go_big_want | go_step); go_step) | ((with_reducible apply gt9 _ (.assign _)); (first | go_big_want | go_step); go_step) | ((with_reducible apply gt9 _ (.pick _ _ _)); (refine wplPickF rfl (by kernel_rfl) ?_; go_step)) | ((with_reducible apply gt9 _ (.binOp .lss _ _ _ _)); (refine wvv9 (V.lss rfl rfl) ?_; go_step)) | ((with_reducible apply gt9 _ (.binOp .add _ _ _ _)); (refine wvv9 (V.addI rfl rfl (by omega)) ?_; go_step)) | ((with_reducible apply gt9 _ (.binOp .sub _ _ _ _)); (refine wvv9 (V.subI rfl rfl (by omega)) ?_; go_step)) | ((with_reducible apply gt9 _ (.binOp .gtr _ _ _ _)); (refine wvv9 (V.gtr rfl rfl) ?_; go_step)) | ((fail_if_success with_reducible apply ga9); go_step))
            go_roundg (gk - 1)
            case measure => omega
            case rel => exact ⟨i + 1, by omega, by go_num, by rw [HNx.out], by rw [HNx.out, HP2.out]; exact hgood, HA2, hid (fun _ => rfl), hS⟩
        · obtain rfl : i = 16 := by omega
          have hE0 : Hid (tabE C S = 0) := hid (by
            rw [HE3.out, if_pos]
            refine ⟨?_, (roomB_iff _).2 HA.out⟩
            have h1 := HZ.out (by omega)
            have h2 := HB3.out
            rw [h1] at h2
            simpa using h2)
          repeat' (first
            | ((with_reducible apply gt9 _ (.assign _)); (first | go_big_want | go_step); go_step) | ((with_reducible apply gt9 _ (.binOp .lss _ _ _ _)); (refine wvv9 (V.lss rfl rfl) ?_; go_step)) | ((fail_if_success with_reducible apply ga9); go_step))
          refine ret_one rfl (OneRes.tmp rfl) rfl ?_
          exact ⟨(by rw [hE0.out]; first | done | rfl), hS.1⟩
end Go.Proofs.YtehbjhocgnfpmaaDoor

/- The walks of tables: words, Words. -/
namespace Go.Proofs.YtehbjhocgnfpmaaDoor
open Go.RowKit
set_option linter.unusedVariables false
theorem sm_le (c : Nat → Nat) (k : Nat) : ∀ d, sm c k ≤ sm c (k + d)
  | 0 => Nat.le_refl _
  | d + 1 => by have := sm_le c k d; rw [← Nat.add_assoc, sm]; omega
theorem nx_le (c : Nat → Nat) (k : Nat) (hk : k ≤ 16) (h : nx c 16 < 65536) : nx c k < 65536 := by
  have := nx_up c k (16 - k)
  rw [show k + (16 - k) = 16 by omega] at this
  have h2 : nx c k * 1 ≤ nx c k * 2 ^ (16 - k) := Nat.mul_le_mul_left _ (Nat.two_pow_pos _)
  omega
set_option maxRecDepth 100000 in
set_option maxHeartbeats 4000000 in
theorem wordsOf_any (w0 : World) (C S : List Int) (ad : Option Addr) (n c : Nat) (hC : Len C 16) (hv : Sl w0 1 (.slice ad n c) n (S.map (Value.int .i64))) (hn : n ≤ 9223372036854775807) (hok : tabE C S = 0) :
    Calls Tryd.prog 61 #[tv C (.slice ad n c)] w0 fun e w => ∃ a' c', e = .returned (.slice a' n c') ∧ St w0 w [own 91 3 a' n c' ((wfl (wds C S)).map (Value.int .i64))] := by
  have hSl : S.length = n := by have := hv.1; simpa using this
  obtain ⟨hb, h16, h256, _, _, hroom⟩ := tabE_ok hok
  rw [hSl] at h256 h16
  have hnx := hid ((roomy_iff _).1 hroom)
  have HSl := hid hSl
  have HB := hid hb
  have H16 := hid h16
  clear hSl hb h16 hroom hok
  have hS := St.start w0
  go_enter Tryd.func61, Tryd.ntmps61
  repeat' (first
    | ((with_reducible apply gt9 _ (.move _)); (first | go_big_want | go_step); go_step) | ((with_reducible apply gt9 _ (.assign _)); (first | go_big_want | go_step); go_step) | ((with_reducible apply gt9 _ (.fieldAddr 31 _ 0)); (refine wvv9 (V.fieldAddr fo31_0 rfl nq9) ?_; go_step)) | ((with_reducible apply gt9 (some 1) (.box 31 _)); (refine wpl (by kernel_rfl) ?_; apply wp_boxP (o := ⟨some 1, _, _, _, _, _⟩) hS 31 _ rfl _ rfl; clear hS; intro g1 w hS; refine put_move ?_; go_step)) | ((with_reducible apply gt9 _ (.load 29 _)); (refine wpl (by kernel_rfl) ?_; apply wp_loadRP hS 29 _ rfl _ _ rfl 16 (row_of rfl) _; (case hp => exact pl9); (case hi => (repeat (first | (apply AtR.head; (first | (with_reducible assumption) | exact Len.rep | exact Len.set (by with_reducible assumption) | exact Len.set Len.rep | exact Len.set (Len.set Len.rep))) | (apply AtR.skipI; (case hn => (first | (with_reducible assumption) | exact Len.rep | exact Len.set (by with_reducible assumption) | exact Len.set Len.rep | exact Len.set (Len.set Len.rep))); (case h => omega); (case ho => rfl)) | apply AtR.skipV))); refine put_move ?_; go_step)) | ((fail_if_success with_reducible apply ga9); go_step))
  replace hS := hS.nilk 91 3 .i64
  go_loopg [3, 4, 9] 16 (fun gk ov nv kv w => ∃ (k m q : Nat) (a' : Option Addr) (c' : Nat), gk + k = 16 ∧ kv = .int .i64 k ∧ q = nx (cc C) k ∧ nv = .int .i64 q ∧ m = sm (cc C) k ∧ m ≤ n ∧ ov = .slice a' m c' ∧ St w0 w [own 91 3 a' m c' ((wfl (S.zip (cds (cc C) k))).map (Value.int .i64)), prt g1 [.ints C, .val (.slice ad n c)]])
  case atStart => exact ⟨0, 0, 0, none, 0, rfl, rfl, rfl, rfl, rfl, by omega, rfl, by rw [show wfl (S.zip (cds (cc C) 0)) = [] by simp [cds, wfl]]; exact hS.sub sb9⟩
  case round =>
    clear hS
    obtain ⟨k, m, q, a', c', hk, rfl, hq, rfl, hm, hmn, rfl, hS⟩ := hrel
    by_cases hlt : k < 16
    · have hx := HB.out k hlt
      have hci := cc_int C k hx.1
      have HNx := hid (show nx (cc C) (k + 1) = 2 * nx (cc C) k + cc C k from rfl)
      have HSm := hid (show sm (cc C) (k + 1) = sm (cc C) k + cc C k from rfl)
      have hsl : sm (cc C) (k + 1) ≤ n := by have := sm_le (cc C) (k + 1) (15 - k); rw [show k + 1 + (15 - k) = 16 by omega, H16.out] at this; exact this
      have hnl := nx_le (cc C) (k + 1) (by omega) hnx.out
      have HCd := hid (show cds (cc C) (k + 1) = cds (cc C) k ++ (List.range (cc C k)).map (fun j => (k + 1, 2 * nx (cc C) k + j)) from rfl)
      obtain ⟨y, hy⟩ : ∃ y, cc C k = y := ⟨_, rfl⟩
      rw [hy] at hci HNx HSm HCd
      rw [HSm.out, ← hm] at hsl
      rw [HNx.out, ← hq] at hnl
      have HX := hid hci
      have HQ := hid hq
      have HM := hid hm
      have hy2 : y ≤ 256 := by omega
      clear hci hy hx hq hm
      repeat' (first
        | ((with_reducible apply gt9 (some 12) _); refine wplV (.int .i64 ((y : Nat) : Int)) (V.as (V.indexIv Tryd.underlying29 Tryd.underlying3 isz3 rfl rfl hC IsN.cast (by omega)) HX.out) (by kernel_rfl) ?_; go_step) | ((with_reducible apply gt9 (some 14) (.binOp .shl _ _ _ _)); (refine wplV (.int _ (((2 * q : Nat) : Int))) (V.as (V.shlI rfl rfl isn9 (by omega) (by omega)) (by omega)) rfl ?_; go_step)) | ((with_reducible apply gt9 _ (.move _)); (first | go_big_want | go_step); go_step) | ((with_reducible apply gt9 _ (.assign _)); (first | go_big_want | go_step); go_step) | ((with_reducible apply gt9 _ (.binOp .lss _ _ _ _)); (refine wvv9 (V.lss rfl rfl) ?_; go_step)) | ((fail_if_success with_reducible apply ga9); go_step))
      obtain ⟨gk1, hgk1⟩ : ∃ x, x = gk := ⟨_, rfl⟩
      subst hgk1
      go_loopg [3, 4, 16] y (fun gk ov nv kv w => ∃ (j M : Nat) (a' : Option Addr) (c' : Nat) (L : List (Nat × Nat)), gk + j = y ∧ M = m + j ∧ kv = .int .i64 j ∧ nv = .int .i64 (2 * q + j : Nat) ∧ Hid (L = cds (cc C) k ++ (List.range j).map (fun i => (k + 1, 2 * q + i))) ∧ ov = .slice a' M c' ∧ St w0 w [own 91 3 a' M c' ((wfl (S.zip L)).map (Value.int .i64)), prt g1 [.ints C, .val (.slice ad n c)]])
      case atStart => exact ⟨0, m, a', c', _, rfl, rfl, rfl, rfl, hid rfl, rfl, by rw [List.range_zero, List.map_nil, List.append_nil]; exact hS.sub sb9⟩
      case round =>
        clear hS
        obtain ⟨j, M, a2, c2, L, hj, hM, rfl, rfl, HL, rfl, hS⟩ := hrel
        by_cases hlt2 : j < y
        · have HLl : Hid (L.length = M) := hid (by rw [HL.out, List.length_append, cds_len]; simp; have := HM.out; omega)
          have HSn : Hid (wfl (S.zip (L ++ [(k + 1, 2 * q + j)])) = wfl (S.zip L) ++ [nth S M, ((k + 1 : Nat) : Int), ((2 * q + j : Nat) : Int)]) := hid (by
            rw [zip_snoc S L _ (by rw [HLl.out, HSl.out]; omega), wfl_snoc, HLl.out])
          have HL2 : Hid (L ++ [(k + 1, 2 * q + j)] = cds (cc C) k ++ (List.range (j + 1)).map (fun i => (k + 1, 2 * q + i))) := hid (by
            rw [HL.out, List.range_succ, List.map_append, List.append_assoc]; rfl)
          repeat' (first
            | ((with_reducible apply gt9 (some 26) (.binOp .add _ _ _ _)); (refine wplV (.int _ (((k + 1 : Nat) : Int))) (V.as (V.addI rfl rfl (by omega)) (by omega)) rfl ?_; go_step)) | ((with_reducible apply gt9 (some 32) (.binOp .add _ _ _ _)); (refine wplV (.int _ (((2 * q + (j + 1) : Nat) : Int))) (V.as (V.addI rfl rfl (by omega)) (by omega)) rfl ?_; go_step)) | ((with_reducible apply gt9 _ (.move _)); (first | go_big_want | go_step); go_step) | ((with_reducible apply gt9 _ (.assign _)); (first | go_big_want | go_step); go_step) | ((with_reducible apply gt9 _ (.binOp .lss _ _ _ _)); (refine wvv9 (V.lss rfl rfl) ?_; go_step)) | ((with_reducible apply gt9 _ (.fieldAddr 31 _ 1)); (refine wvv9 (V.fieldAddr fo31_1 rfl nq9) ?_; go_step)) | ((with_reducible apply gt9 _ (.call ⟨.builtin .len, _, _⟩)); (refine wvv9 (V.len Tryd.underlying85 rfl) ?_; go_step)) | ((with_reducible apply gt9 (some 23) (.indexAddr 24 _ _)); (refine wpl_indexI (by with_reducible assumption) Tryd.underlying24 isz3 rfl rfl isn9 (by omega) rfl ?_; intro b23 o23 hc23; go_step)) | ((with_reducible apply gt9 _ (.binOp .add _ _ _ _)); (refine wvv9 (V.addI rfl rfl (by omega)) ?_; go_step)) | ((with_reducible apply gt9 (some 28) (.build 91 _)); (refine wvv9 (V.build (vs := [(0, _), (1, _), (2, _)]) rfl (bl91_0_1_2 _ _ _)) ?_; go_step)) | ((with_reducible apply gt9 _ (.load 24 _)); (refine wpl (by kernel_rfl) ?_; apply wp_loadVP hS 24 _ rfl _ _ rfl (one_of rfl) _; (case hp => exact pl9); (case hi => (repeat (first | exact AtV.head | (apply AtV.skipI; (case hn => (first | (with_reducible assumption) | exact Len.rep | exact Len.set (by with_reducible assumption) | exact Len.set Len.rep | exact Len.set (Len.set Len.rep))); (case h => omega); (case ho => rfl)) | apply AtV.skipV))); refine put_move ?_; go_step)) | ((with_reducible apply gt9 _ (.load 3 _)); (refine wpl (by kernel_rfl) ?_; apply wp_loadW hS 3 _ rfl _ rfl (one_of rfl) _; (case hc => with_reducible assumption); refine put_move ?_; go_step)) | ((with_reducible apply gt9 (some 29) (.buildSlice 85 _ _)); (refine wpl (by kernel_rfl) ?_; apply wp_buildSlice1 (o := ⟨some 29, _, _, _, _, _⟩) hS 85 1 _ rfl 91 3 24 el85 _ _; (case hvs => (repeat (first | exact Parts.nil | (apply Parts.agg; (rfl); (rfl)) | (apply Parts.one; exact isv9; (rfl); (rfl))))); (case hn => rfl); (case hn0 => decide); (case hns => decide); clear hS; intro g29 w hS; simp only [List.cons_append, List.nil_append] at hS; refine put_move ?_; go_step)) | ((with_reducible apply gt9 (some 30) (.call ⟨.builtin .append, _, _⟩)); (refine wpl (by kernel_rfl) ?_; apply wp_append (o := ⟨some 30, _, _, _, _, _⟩) hS _ _ 85 rfl 91 3 24 el85 _ _ _ _ rfl; (case hp => exact pl9); (case hx => exact rfl); (case hm => (first | exact hS.slBlk pl9 (by rfl) (by decide) | exact hS.sl pl9 | with_reducible assumption | exact Sl.ext (by with_reducible assumption) hS.1 | exact Sl.nil _ _ | exact Sl.ext (by assumption) hS.1 | assumption)); (case h1 => (first | exact oneAll rfl | exact oneMap _ _ | (intro u hu; cases hu))); (case h63 => unfold maxLen; omega); (case hb => omega); clear hS; intro ad30 c30 w hS; (first | simp only [mapk1] at hS | simp only [mapk2] at hS | simp only [mapk3] at hS | simp only [mapk4] at hS | simp only [mapkl] at hS | skip); refine put_move ?_; go_step)) | ((fail_if_success with_reducible apply ga9); go_step))
          go_roundg (gk - 1)
          case measure => omega
          case rel =>
            refine ⟨j + 1, M + 1, _, _, L ++ [(k + 1, 2 * q + j)], by omega, by omega, by go_num, rfl, HL2, rfl, ?_⟩
            rw [HSn.out]
            exact hS.sub sb9
        · obtain rfl : j = y := by omega
          have HL3 : Hid (L = cds (cc C) (k + 1)) := hid (by rw [HL.out, HCd.out, HQ.out])
          repeat' (first
            | ((with_reducible apply gt9 _ (.move _)); (first | go_big_want | go_step); go_step) | ((with_reducible apply gt9 _ (.binOp .lss _ _ _ _)); (refine wvv9 (V.lss rfl rfl) ?_; go_step)) | ((with_reducible apply gt9 _ (.binOp .add _ _ _ _)); (refine wvv9 (V.addI rfl rfl (by omega)) ?_; go_step)) | ((fail_if_success with_reducible apply ga9); go_step))
          go_roundg (gk1 - 1)
          case measure => omega
          case rel =>
            refine ⟨k + 1, M, 2 * q + j, _, _, by omega, by go_num, by rw [HNx.out, HQ.out], rfl, by rw [HSm.out, hM, HM.out], by omega, rfl, ?_⟩
            rw [← HL3.out]
            exact hS.sub sb9
    · obtain rfl : k = 16 := by omega
      have hmn2 : m = n := by rw [hm, H16.out]
      subst hmn2
      repeat' (first
        | ((with_reducible apply gt9 _ (.move _)); (first | go_big_want | go_step); go_step) | ((with_reducible apply gt9 _ (.assign _)); (first | go_big_want | go_step); go_step) | ((with_reducible apply gt9 _ (.binOp .lss _ _ _ _)); (refine wvv9 (V.lss rfl rfl) ?_; go_step)) | ((fail_if_success with_reducible apply ga9); go_step))
      go_ret
      refine ⟨_, _, rfl, ?_⟩
      unfold wds
      exact hS.sub sb9
end Go.Proofs.YtehbjhocgnfpmaaDoor

/- A result that is a struct in parts. -/
namespace Go.Proofs.YtehbjhocgnfpmaaDoor
set_option maxRecDepth 100000
open Go.RowKit
theorem OneRes.prt {P : Program} {W w : World} {rs rs' : List Res} {tmps : Array Value} {p g n : Nat} {ty : TypeId} {ps : List Part} (hS : St W w rs) (hp : tmps.getD p undef = .pointer (some ⟨g, 0, none⟩)) (h1 : RowN P ty n) (pl : Pull (Go.Proofs.YtehbjhocgnfpmaaDoor.prt g ps) rs rs') (hn : Pre ps n ps) : OneRes P tmps w (.cell p ty) (.agg (pcells ps).toArray) :=
  OneRes.blk hS hp h1 pl hn.take.2
end Go.Proofs.YtehbjhocgnfpmaaDoor

/- The walk of best.Make. -/
namespace Go.Proofs.YtehbjhocgnfpmaaDoor
set_option maxRecDepth 100000
open Go.RowKit
set_option linter.unusedVariables false
abbrev gpks (g n c : Nat) (G : List GP) : Res := pks g n c (G.map gpV)
theorem gp_perm {Q : List PkV} {G : List GP} (h : Q.Perm (G.map gpV)) : ∃ G' : List GP, G'.Perm G ∧ G'.map gpV = Q := perm_lift gpV h G rfl
theorem gp_srt {G : List GP} (h : (G.map gpV).Pairwise (fun a b => a.w ≤ b.w)) : Srt (G.map gpM) := by
  unfold Srt
  rw [List.pairwise_map] at h ⊢
  exact h
theorem star_row {W w : World} {L : List Sr} {rs rs' : List Res} (h : St W w rs) (p : Pull (star (L.map Sr.res)) rs rs') {x : Sr} (hx : x ∈ L) : Sl w 1 (.slice x.ad x.xs.length x.c) x.xs.length (x.xs.map (Value.int .i64)) := by
  obtain ⟨s, hs⟩ := h.starGet p (List.mem_map.2 ⟨x, hx, rfl⟩)
  exact hs.sl (show Pull (own 3 1 x.ad x.xs.length x.c (x.xs.map (Value.int .i64))) (Sr.res x :: s) s from .head)
theorem bl133_0_1 (m0 : Int) (a1 : Option Addr) (n1 c1 : Nat) (w : World) : (Instr.build 133 #[(0, .int .i64 m0), (1, .slice a1 n1 c1)]).run Tryd.prog w = .ok (.agg #[.int .i64 m0, .slice a1 n1 c1]) w := by kernel_rfl
set_option maxRecDepth 100000 in
set_option maxHeartbeats 16000000 in
theorem make_any (w0 : World) (c : List Int) (ad : Option Addr) (n cap : Nat) (hv : Sl w0 1 (.slice ad n cap) n (c.map (Value.int .i64))) (hn : n ≤ 9223372036854775807) (hok : bE c = 0) :
    Calls Tryd.prog 47 #[.slice ad n cap] w0 fun e w => ∃ (f : Int → Nat) (R : List Pk) (C S : List Int) (ao : Option Addr) (co : Nat), RowK (sgs c n) 16 R ∧ f = lng (R.take (2 * (sgs c n).length - 2)) ∧ Len C 16 ∧ (∀ i, i < 16 → nth C i = ((symsK f n (i + 1)).length : Nat)) ∧ S = symsTo f n 16 ∧ e = .returned (.tuple #[tv C (.slice ao S.length co), .int .i64 0]) ∧ St w0 w [own 3 1 ao S.length co (S.map (Value.int .i64))] := by
  have hS := St.start w0
  have hcl : c.length = n := by have := hv.1; simpa using this
  have HCK := hid (fun (w : World) (hE : Ext w0 w) => bcheck_any w c ad n cap (hv.ext hE) hn)
  rw [hok] at HCK
  have hn2 : n ≤ 256 ∧ allIn c 0 9999 = true := by
    unfold bE at hok
    rw [hcl] at hok
    by_cases h : 256 < n
    · rw [if_pos h] at hok; cases hok
    · rw [if_neg h] at hok
      by_cases h2 : allIn c 0 9999 = true
      · exact ⟨by omega, h2⟩
      · rw [if_neg h2] at hok; cases hok
  obtain ⟨hn3, hall⟩ := hn2
  have hrng := (allIn_iff c 0 9999).1 hall
  rw [hcl] at hrng
  have HRNG := hid hrng
  have HV := hid hv
  clear hrng hall hok
  go_enter Tryd.func47, Tryd.ntmps47
  repeat' (first
    | ((with_reducible apply gt9 _ (.call ⟨.value (.func 45), _, _⟩)); refine wpl_call (f := 45) Tryd.call45 (by kernel_rfl) ?_; refine ⟨_, (HCK.out _ hS.1), ?_⟩; rintro e w ⟨rfl, hE2⟩; replace hS := hS.ext hE2; clear hE2; refine ⟨_, rfl, ?_⟩; refine put_move ?_; go_step) | ((with_reducible apply gt9 _ (.move _)); (first | go_big_want | go_step); go_step) | ((with_reducible apply gt9 _ (.assign _)); (first | go_big_want | go_step); go_step) | ((with_reducible apply gt9 (some 22) (.binOp .neq 25 _ _ _)); (refine wvv9 (V.neq rfl rfl) ?_; go_step)) | ((with_reducible apply gt9 (some 2) (.alloc 31)); (refine wpl (by kernel_rfl) ?_; apply wp_allocP (o := ⟨some 2, _, _, _, _, _⟩) hS 31 rfl _ zp31; clear hS; intro g2 w hS; refine put_move ?_; go_step)) | ((fail_if_success with_reducible apply ga9); go_step))
  repeat' (first
    | ((with_reducible apply gt9 (some 25) (.buildSlice _ _ _)); (refine wpl (by kernel_rfl) ?_; apply wp_buildSliceO (o := ⟨some 25, _, _, _, _, _⟩) hS 24 1 _ rfl 3 1 8 el24 _ _; (case hvs => (repeat (first | exact Parts.nil | (apply Parts.agg; (rfl); (rfl)) | (apply Parts.one; exact isv9; (rfl); (rfl))))); (case hn => rfl); (case hn0 => decide); (case hns => decide); clear hS; intro g25 w hS; refine put_move ?_; go_step)) | ((with_reducible apply gt9 (some 27) (.buildSlice _ _ _)); (refine wpl (by kernel_rfl) ?_; apply wp_buildSliceO (o := ⟨some 27, _, _, _, _, _⟩) hS 134 1 _ rfl 133 2 32 el134 _ _; (case hvs => (repeat (first | exact Parts.nil | (apply Parts.agg; (rfl); (rfl)) | (apply Parts.one; exact isv9; (rfl); (rfl))))); (case hn => rfl); (case hn0 => decide); (case hns => decide); clear hS; intro g27 w hS; simp only [List.cons_append, List.nil_append] at hS; refine put_move ?_; go_step)) | ((with_reducible apply gt9 _ (.move _)); (first | go_big_want | go_step); go_step) | ((with_reducible apply gt9 _ (.assign _)); (first | go_big_want | go_step); go_step) | ((with_reducible apply gt9 (some 26) (.build 133 _)); (refine wvv9 (V.build (vs := [(0, _), (1, _)]) rfl (bl133_0_1 _ _ _ _)) ?_; go_step)) | ((with_reducible apply gt9 (some 29) (.call ⟨.builtin .len, _, _⟩)); (refine wvv9 (V.len Tryd.underlying24 rfl) ?_; go_step)) | ((fail_if_success with_reducible apply ga9); go_step))
  have h2 := ((hS.sub (xs := [own 3 1 (some ⟨g25, 0, none⟩) 1 1 [.int .i64 (-1)], own 133 2 (some ⟨g27, 0, none⟩) 1 1 [.int .i64 0, .slice (some ⟨g25, 0, none⟩) 1 1], prt g2 [.ints (List.replicate 16 0), .val (.slice none 0 0)]]) sb9).star0).starPut .head
  clear hS
  go_loopg [5, 30] n (fun gk sv iv w => ∃ (k N : Nat) (aa : Option Addr) (ca : Nat) (G : List GP) (L : List Sr), gk + k = n ∧ N = G.length ∧ N ≤ k + 1 ∧ 1 ≤ N ∧ iv = .int .i64 k ∧ sv = .slice aa N ca ∧ G.map gpM = sgs c k ∧ (∀ p ∈ G, p.r ∈ L) ∧
    St w0 w [own 133 2 aa N ca ((G.map gpV).flatMap pkE), star (L.map Sr.res), prt g2 [.ints (List.replicate 16 0), .val (.slice none 0 0)]])
  case atStart => exact ⟨0, 1, _, _, [⟨0, ⟨some ⟨g25, 0, none⟩, 1, [-1]⟩⟩], [⟨some ⟨g25, 0, none⟩, 1, [-1]⟩], by omega, rfl, by omega, by omega, rfl, rfl, rfl, by intro p hp; simp at hp; subst hp; simp, by
    have h3 := h2.sub (xs := [own 133 2 (some ⟨g27, 0, none⟩) 1 1 [.int .i64 0, .slice (some ⟨g25, 0, none⟩) 1 1], star ([] ++ [own 3 1 (some ⟨g25, 0, none⟩) 1 1 [.int .i64 (-1)]]), prt g2 [.ints (List.replicate 16 0), .val (.slice none 0 0)]]) sb9
    have e1 : ([⟨0, ⟨some ⟨g25, 0, none⟩, 1, [-1]⟩⟩] : List GP).map gpV = [⟨0, some ⟨g25, 0, none⟩, 1, 1⟩] := rfl
    have e2 : ([⟨0, some ⟨g25, 0, none⟩, 1, 1⟩] : List PkV).flatMap pkE = [.int .i64 0, .slice (some ⟨g25, 0, none⟩) 1 1] := rfl
    have e3 : ([⟨some ⟨g25, 0, none⟩, 1, [-1]⟩] : List Sr).map Sr.res = [own 3 1 (some ⟨g25, 0, none⟩) 1 1 [.int .i64 (-1)]] := rfl
    rw [e1, e2, e3]; exact h3⟩
  case round =>
    clear h2
    obtain ⟨k, N, aa, ca, G, L, hk, hN, hN2, hN3, rfl, rfl, hG, hL, hS⟩ := hrel
    have HG := hid hG
    have HL := hid hL
    clear hG hL
    by_cases hlt : k < n
    · have hs := sgs_succ c k
      have hx := HRNG.out k hlt
      obtain ⟨x, hxx⟩ : ∃ x, nth c k = x := ⟨_, rfl⟩
      have HXX := hid hxx
      rw [hxx] at hs hx
      by_cases hx0 : 0 < x
      · rw [if_pos hx0] at hs
        have HSG := hid hs
        clear hs
        repeat' (first
          | ((with_reducible apply gt9 _ (.move _)); (first | go_big_want | go_step); go_step) | ((with_reducible apply gt9 _ (.assign _)); (first | go_big_want | go_step); go_step) | ((with_reducible apply gt9 (some 31) (.binOp .lss _ _ _ _)); (refine wvv9 (V.lss rfl rfl) ?_; go_step)) | ((with_reducible apply gt9 (some 33) (.indexAddr 24 _ _)); (refine wpl_indexI (by with_reducible assumption) Tryd.underlying24 isz3 rfl rfl isn9 (by omega) rfl ?_; intro b33 o33 hc33; go_step)) | ((with_reducible apply gt9 _ (.load 3 _)); (refine wpl (by kernel_rfl) ?_; apply wp_loadW hS 3 _ rfl _ rfl (one_of rfl) _; (case hc => with_reducible assumption); refine put_move ?_; go_step)) | ((fail_if_success with_reducible apply ga9); go_step))
        rw [HXX.out]
        repeat' (first
          | ((with_reducible apply gt9 _ (.move _)); (first | go_big_want | go_step); go_step) | ((with_reducible apply gt9 (some 36) (.binOp .gtr _ _ _ _)); (refine wvv9 (V.gtr rfl rfl) ?_; go_step)) | ((fail_if_success with_reducible apply ga9); go_step))
        repeat' (first
          | ((with_reducible apply gt9 (some 40) (.buildSlice _ _ _)); (refine wpl (by kernel_rfl) ?_; apply wp_buildSliceO (o := ⟨some 40, _, _, _, _, _⟩) hS 24 1 _ rfl 3 1 8 el24 _ _; (case hvs => (repeat (first | exact Parts.nil | (apply Parts.agg; (rfl); (rfl)) | (apply Parts.one; exact isv9; (rfl); (rfl))))); (case hn => rfl); (case hn0 => decide); (case hns => decide); clear hS; intro g40 w hS; refine put_move ?_; go_step)) | ((with_reducible apply gt9 _ (.assign _)); (first | go_big_want | go_step); go_step) | ((with_reducible apply gt9 (some 41) (.build 133 _)); (refine wvv9 (V.build (vs := [(0, _), (1, _)]) rfl (bl133_0_1 _ _ _ _)) ?_; go_step)) | ((with_reducible apply gt9 (some 42) (.buildSlice 134 _ _)); (refine wpl (by kernel_rfl) ?_; apply wp_buildSlice1 (o := ⟨some 42, _, _, _, _, _⟩) hS 134 1 _ rfl 133 2 32 el134 _ _; (case hvs => (repeat (first | exact Parts.nil | (apply Parts.agg; (rfl); (rfl)) | (apply Parts.one; exact isv9; (rfl); (rfl))))); (case hn => rfl); (case hn0 => decide); (case hns => decide); clear hS; intro g42 w hS; simp only [List.cons_append, List.nil_append] at hS; refine put_move ?_; go_step)) | ((with_reducible apply gt9 (some 43) (.call ⟨.builtin .append, _, _⟩)); (refine wpl (by kernel_rfl) ?_; apply wp_append (o := ⟨some 43, _, _, _, _, _⟩) hS _ _ 134 rfl 133 2 32 el134 _ _ _ _ rfl; (case hp => exact pl9); (case hx => exact rfl); (case hm => (first | exact hS.slBlk pl9 (by rfl) (by decide) | exact hS.sl pl9 | with_reducible assumption | exact Sl.ext (by with_reducible assumption) hS.1 | exact Sl.nil _ _ | exact Sl.ext (by assumption) hS.1 | assumption)); (case h1 => (first | exact oneAll rfl | exact oneMap _ _ | (intro u hu; cases hu))); (case h63 => unfold maxLen; omega); (case hb => omega); clear hS; intro ad43 c43 w hS; (first | simp only [mapk1] at hS | simp only [mapk2] at hS | simp only [mapk3] at hS | simp only [mapk4] at hS | simp only [mapkl] at hS | skip); refine put_move ?_; go_step)) | ((fail_if_success with_reducible apply ga9); go_step))
        repeat' (first
          | ((with_reducible apply gt9 (some 44) (.binOp .add _ _ _ _)); (refine wplV (.int _ (((k + 1 : Nat) : Int))) (V.as (V.addI rfl rfl (by omega)) (by omega)) rfl ?_; go_step)) | ((with_reducible apply gt9 _ (.move _)); (first | go_big_want | go_step); go_step) | ((fail_if_success with_reducible apply ga9); go_step))
        have h2 := (hS.sub (xs := [star (L.map Sr.res), own 3 1 (some ⟨g40, 0, none⟩) 1 1 [.int .i64 (k : Nat)], own 133 2 ad43 (N + 1) c43 ((G.map gpV).flatMap pkE ++ [.int .i64 x, .slice (some ⟨g40, 0, none⟩) 1 1]), prt g2 [.ints (List.replicate 16 0), .val (.slice none 0 0)]]) sb9).starPut .head
        go_roundg (gk - 1)
        case measure => omega
        case rel =>
          refine ⟨k + 1, N + 1, ad43, c43, G ++ [⟨x, ⟨some ⟨g40, 0, none⟩, 1, [(k : Int)]⟩⟩], L ++ [⟨some ⟨g40, 0, none⟩, 1, [(k : Int)]⟩], by omega, by simp; omega, by omega, by omega, by go_num, rfl, ?_, ?_, ?_⟩
          · rw [List.map_append, HG.out, HSG.out]; rfl
          · intro p hp
            rcases List.mem_append.1 hp with hp | hp
            · exact List.mem_append_left _ (HL.out p hp)
            · simp at hp; subst hp; simp
          · rw [gp_snoc, List.map_append]
            exact h2.sub (xs := [own 133 2 ad43 (N + 1) c43 ((G.map gpV).flatMap pkE ++ [.int .i64 x, .slice (some ⟨g40, 0, none⟩) 1 1]), star (L.map Sr.res ++ [own 3 1 (some ⟨g40, 0, none⟩) 1 1 [.int .i64 (k : Nat)]]), prt g2 [.ints (List.replicate 16 0), .val (.slice none 0 0)]]) sb9
      · rw [if_neg hx0] at hs
        have HSG := hid hs
        clear hs
        repeat' (first
          | ((with_reducible apply gt9 _ (.move _)); (first | go_big_want | go_step); go_step) | ((with_reducible apply gt9 _ (.assign _)); (first | go_big_want | go_step); go_step) | ((with_reducible apply gt9 (some 31) (.binOp .lss _ _ _ _)); (refine wvv9 (V.lss rfl rfl) ?_; go_step)) | ((with_reducible apply gt9 (some 33) (.indexAddr 24 _ _)); (refine wpl_indexI (by with_reducible assumption) Tryd.underlying24 isz3 rfl rfl isn9 (by omega) rfl ?_; intro b33 o33 hc33; go_step)) | ((with_reducible apply gt9 _ (.load 3 _)); (refine wpl (by kernel_rfl) ?_; apply wp_loadW hS 3 _ rfl _ rfl (one_of rfl) _; (case hc => with_reducible assumption); refine put_move ?_; go_step)) | ((fail_if_success with_reducible apply ga9); go_step))
        rw [HXX.out]
        repeat' (first
          | ((with_reducible apply gt9 (some 36) (.binOp .gtr _ _ _ _)); (refine wvv9 (V.gtr rfl rfl) ?_; go_step)) | ((fail_if_success with_reducible apply ga9); go_step))
        repeat' (first
          | ((with_reducible apply gt9 (some 44) (.binOp .add _ _ _ _)); (refine wplV (.int _ (((k + 1 : Nat) : Int))) (V.as (V.addI rfl rfl (by omega)) (by omega)) rfl ?_; go_step)) | ((with_reducible apply gt9 _ (.move _)); (first | go_big_want | go_step); go_step) | ((fail_if_success with_reducible apply ga9); go_step))
        go_roundg (gk - 1)
        case measure => omega
        case rel => exact ⟨k + 1, N, aa, ca, G, L, by omega, hN, by omega, hN3, by go_num, rfl, by rw [HG.out, HSG.out], HL.out, hS⟩
    · obtain rfl : k = n := by omega
      obtain ⟨g5, rfl⟩ := own_some hS .head (by omega)
      have hNl : (sgs c k).length = N := by rw [← HG.out, List.length_map, hN]
      have HNL := hid hNl
      clear hNl
      replace hS : St w0 wr [gpks g5 N ca G, star (L.map Sr.res), prt g2 [.ints (List.replicate 16 0), .val (.slice none 0 0)]] := hS
      repeat' (first
        | ((with_reducible apply gt9 _ (.move _)); (first | go_big_want | go_step); go_step) | ((with_reducible apply gt9 (some 31) (.binOp .lss _ _ _ _)); (refine wvv9 (V.lss rfl rfl) ?_; go_step)) | ((fail_if_success with_reducible apply ga9); go_step))
      repeat' (first
        | ((with_reducible apply gt9 _ (.call ⟨.value (.func 66), _, _⟩)); refine wpl_call (f := 66) Tryd.call66 (by kernel_rfl) ?_; refine ⟨_, (sortStable_any w0 _ _ _ g5 N ca (G.map gpV) hS .head (by omega)), ?_⟩; rintro e w ⟨rfl, Q0, hQ1, hQ2, hS2⟩; replace hS := hS2; clear hS2; refine ⟨_, rfl, ?_⟩; refine put_move ?_; go_step) | ((with_reducible apply gt9 _ (.move _)); (first | go_big_want | go_step); go_step) | ((fail_if_success with_reducible apply ga9); go_step))
      obtain ⟨G1, hG1, rfl⟩ := gp_perm hQ1
      have hR1 : RowK (sgs c k) 1 (G1.map gpM) := .one _ (HG.out ▸ hG1.map gpM) (gp_srt hQ2)
      have hL1 : ∀ p ∈ G1, p.r ∈ L := fun p hp => HL.out p (hG1.mem_iff.1 hp)
      have hN1 : N = G1.length := by rw [hG1.length_eq]; exact hN
      have HP1 : Hid ((G1.map gpM).Perm (sgs c k)) := HG.out ▸ hG1.map gpM
      have HR1 := hid hR1
      have HL1 := hid hL1
      clear hQ1 hQ2 hR1 hL1 hG1 HL HG hN
      repeat' (first
        | ((with_reducible apply gt9 _ (.call ⟨.value (.func 68), _, _⟩)); refine wpl_call (f := 68) Tryd.call68 (by kernel_rfl) ?_; refine ⟨_, (clone_any w0 _ _ _ g5 N ca (G1.map gpV) hS .head (by omega) (by omega)), ?_⟩; rintro e w ⟨g8, c8, rfl, hS2⟩; replace hS := hS2; clear hS2; refine ⟨_, rfl, ?_⟩; refine put_move ?_; go_step) | ((with_reducible apply gt9 _ (.move _)); (first | go_big_want | go_step); go_step) | ((with_reducible apply gt9 _ (.assign _)); (first | go_big_want | go_step); go_step) | ((fail_if_success with_reducible apply ga9); go_step))
      repeat' (first
        | ((fail_if_success with_reducible apply ga9); go_step))
      go_loopg [8, 49] 15 (fun gk rv iv w => ∃ (j M a8 c8 : Nat) (G2 : List GP) (L : List Sr), gk + j = 15 ∧ M = G2.length ∧ iv = .int .i64 j ∧ rv = .slice (some ⟨a8, 0, none⟩) M c8 ∧ RowK (sgs c k) (j + 1) (G2.map gpM) ∧ (∀ p ∈ G2, p.r ∈ L) ∧ (∀ p ∈ G1, p.r ∈ L) ∧
        St w0 w [gpks a8 M c8 G2, gpks g5 N ca G1, star (L.map Sr.res), prt g2 [.ints (List.replicate 16 0), .val (.slice none 0 0)]])
      case atStart => exact ⟨0, N, g8, c8, G1, L, by omega, hN1, rfl, rfl, HR1.out, HL1.out, HL1.out, hS⟩
      case round =>
        clear hS HL1 HR1
        obtain ⟨j, M, a8, c8, G2, L, hj, hM, rfl, rfl, hR2, hL2, hL1, hS⟩ := hrel
        have hM2 := hR2.len
        rw [HNL.out, List.length_map, ← hM] at hM2
        have HR2 := hid hR2
        have HL1 := hid hL1
        by_cases hlt : j < 15
        · obtain ⟨gk1, hgk1⟩ : ∃ x, x = gk := ⟨_, rfl⟩
          subst hgk1
          have hbd := row_bd HRNG.out hn3 (show j + 1 ≤ 16 by omega) hR2
          have HBD := hid hbd
          have HL2 := hid hL2
          clear hR2 hL1 hL2 hbd
          repeat' (first
            | ((with_reducible apply gt9 _ (.assign _)); (first | go_big_want | go_step); go_step) | ((with_reducible apply gt9 (some 50) (.binOp .lss _ _ _ _)); (refine wvv9 (V.lss rfl rfl) ?_; go_step)) | ((fail_if_success with_reducible apply ga9); go_step))
          go_loopg [9, 10] M (fun gk sv iv w => ∃ (q : Nat) (aa : Option Addr) (ca' : Nat) (GN : List GP) (L : List Sr), gk + q = M ∧ 2 * q ≤ M ∧ q = GN.length ∧ iv = .int .i64 (2 * q : Nat) ∧ sv = .slice aa q ca' ∧ GN.map gpM = (pkgs (G2.map gpM)).take q ∧ (∀ p ∈ GN, p.r ∈ L) ∧ (∀ p ∈ G2, p.r ∈ L) ∧ (∀ p ∈ G1, p.r ∈ L) ∧
            St w0 w [own 133 2 aa q ca' ((GN.map gpV).flatMap pkE), gpks a8 M c8 G2, gpks g5 N ca G1, star (L.map Sr.res), prt g2 [.ints (List.replicate 16 0), .val (.slice none 0 0)]])
          case atStart => exact ⟨0, none, 0, [], L, by omega, by omega, rfl, rfl, rfl, by simp, (fun p hp => by cases hp), HL2.out, HL1.out, hS.nil 133 2⟩
          case round =>
            clear hS HL1 HL2
            obtain ⟨q, aa, ca', GN, L, hq, hqM, hqn, rfl, rfl, hGN, hLN, hL2, hL1, hS⟩ := hrel
            have HGN := hid hGN
            have HLN := hid hLN
            have HL2 := hid hL2
            have HL1 := hid hL1
            clear hGN hLN hL2 hL1
            by_cases hlt2 : 2 * q + 1 < M
            · obtain ⟨p1, hp1, e1, m1⟩ := gp_at G2 (2 * q) (by omega)
              obtain ⟨p2, hp2, e2, m2⟩ := gp_at G2 (2 * q + 1) (by omega)
              have hpk := pkgs_take (G2.map gpM) q (by rw [List.length_map]; omega)
              rw [m1, m2] at hpk
              have b1 := HBD.out (gpM p1) (List.mem_map.2 ⟨p1, hp1, rfl⟩)
              have b2 := HBD.out (gpM p2) (List.mem_map.2 ⟨p2, hp2, rfl⟩)
              have hw1 : 0 ≤ (elt (G2.map gpV) (2 * q)).w ∧ (elt (G2.map gpV) (2 * q)).w ≤ 50000000 := by rw [e1]; exact ⟨b1.1, b1.2.1⟩
              have hw2 : 0 ≤ (elt (G2.map gpV) (2 * q + 1)).w ∧ (elt (G2.map gpV) (2 * q + 1)).w ≤ 50000000 := by rw [e2]; exact ⟨b2.1, b2.2.1⟩
              have hl12 : (([p1.r, p2.r] : List Sr).flatMap (·.xs)).length ≤ 1000000 := by
                have c1 : p1.r.xs.length ≤ 5000 := b1.2.2
                have c2 : p2.r.xs.length ≤ 5000 := b2.2.2
                simp; omega
              have r1 := HL2.out p1 hp1
              have r2 := HL2.out p2 hp2
              have HPK := hid hpk
              have E1 := hid e1
              have E2 := hid e2
              have H12 := hid hl12
              have R1 := hid r1
              have R2 := hid r2
              have he := pkE_len
              have hCC : Hid (∀ (w : World) (g82 : Nat) (rs rs' : List Res), St w0 w rs → Pull (star (L.map Sr.res)) rs rs' → Sl w 1 (.slice (some ⟨g82, 0, none⟩) 2 2) 2 [.slice (elt (G2.map gpV) (2 * q)).ad (elt (G2.map gpV) (2 * q)).n (elt (G2.map gpV) (2 * q)).c, .slice (elt (G2.map gpV) (2 * q + 1)).ad (elt (G2.map gpV) (2 * q + 1)).n (elt (G2.map gpV) (2 * q + 1)).c] →
                  Calls Tryd.prog 69 #[.slice (some ⟨g82, 0, none⟩) 2 2] w fun e w' => ∃ (ad : Option Addr) (c : Nat), e = .returned (.slice ad (p1.r.xs ++ p2.r.xs).length c) ∧ St w w' [own 3 1 ad (p1.r.xs ++ p2.r.xs).length c ((p1.r.xs ++ p2.r.xs).map (Value.int .i64))]) := fun w g82 rs rs' h p hsl => by
                rw [e1, e2] at hsl
                have hc := concat_any w g82 2 2 [p1.r, p2.r] hsl (fun r hr => by
                  simp only [List.mem_cons, List.mem_nil_iff, or_false] at hr
                  rcases hr with rfl | rfl
                  · exact star_row h p r1
                  · exact star_row h p r2) (by omega) hl12
                simpa using hc
              clear hp1 hp2 e1 e2 m1 m2 hpk b1 b2 hl12 r1 r2
              repeat' (first
                | ((with_reducible apply gt9 (some 52) (.binOp .add _ _ _ _)); (refine wplV (.int _ (((2 * q + 1 : Nat) : Int))) (V.as (V.addI rfl rfl (by omega)) (by omega)) rfl ?_; go_step)) | ((with_reducible apply gt9 _ (.move _)); (first | go_big_want | go_step); go_step) | ((with_reducible apply gt9 (some 54) (.call ⟨.builtin .len, _, _⟩)); (refine wvv9 (V.len Tryd.underlying134 rfl) ?_; go_step)) | ((with_reducible apply gt9 (some 55) (.binOp .lss _ _ _ _)); (refine wvv9 (V.lss rfl rfl) ?_; go_step)) | ((fail_if_success with_reducible apply ga9); go_step))
              refine drawn_lit [27, 28] (fun w => St w0 w [gpks a8 M c8 G2]) (by kernel_rfl) ?_
              replace hS := hS.drew
              focus
                refine takeM 0 _ al9 (by kernel_rfl) (by kernel_rfl) (by kernel_rfl) (by exact fun _ _ _ _ h => h) rfl ?_
                go_step
                refine takeM 1 _ al9 (by kernel_rfl) (by kernel_rfl) (by kernel_rfl) (by exact fun _ _ _ _ h => h) rfl ?_
                go_step
                refine takeM 2 _ al9 (by kernel_rfl) (by kernel_rfl) (by kernel_rfl) (by exact fun _ _ _ _ h => h) rfl ?_
                go_step
                (refine takeV 3 _ al9 (by kernel_rfl) (by kernel_rfl) (by kernel_rfl) (by exact fun _ _ _ _ h => h) (V.indexSl Tryd.underlying134 isz133 rfl rfl isn9 (by omega) rfl nq9) rfl ?_)
                go_step
                (refine takeV 4 _ al9 (by kernel_rfl) (by kernel_rfl) (by kernel_rfl) (by exact fun _ _ _ _ h => h) (V.fieldAddr fo133_0 rfl nq9) rfl ?_)
                go_step
                apply takeS 5 al9 (by kernel_rfl) (by kernel_rfl) (by kernel_rfl) (by exact fun _ _ _ _ h => h) [12, 26, 27, 28, 29] (by kernel_rfl) (hS.sub sb9)
                case hfr => intro w hS; ((refine wpl (by kernel_rfl) ?_; apply wp_load1E0 hS 3 _ rfl _ _ rfl (one_of rfl) _ _ _ _ _ _; (case hp => exact pl9); (case inst => infer_instance); (case he => with_reducible assumption); (case hq => exact rfl); (case hj => omega); (case hv => exact rfl); refine put_move ?_; go_step)); refine wpList_nil ?_; exact ⟨rfl, rfl⟩
                case hd => rfl
                refine takeM 6 _ al9 (by kernel_rfl) (by kernel_rfl) (by kernel_rfl) (by exact fun _ _ _ _ h => h) rfl ?_
                go_step
                refine takeM 7 _ al9 (by kernel_rfl) (by kernel_rfl) (by kernel_rfl) (by exact fun _ _ _ _ h => h) rfl ?_
                go_step
                (refine takeV 8 (.int _ (((2 * q + 1 : Nat) : Int))) al9 (by kernel_rfl) (by kernel_rfl) (by kernel_rfl) (by exact fun _ _ _ _ h => h) (V.as (V.addI rfl rfl (by omega)) (by omega)) rfl ?_)
                go_step
                (refine takeV 9 _ al9 (by kernel_rfl) (by kernel_rfl) (by kernel_rfl) (by exact fun _ _ _ _ h => h) (V.indexSl Tryd.underlying134 isz133 rfl rfl isn9 (by omega) rfl nq9) rfl ?_)
                go_step
                (refine takeV 10 _ al9 (by kernel_rfl) (by kernel_rfl) (by kernel_rfl) (by exact fun _ _ _ _ h => h) (V.fieldAddr fo133_0 rfl nq9) rfl ?_)
                go_step
                apply takeS 11 al9 (by kernel_rfl) (by kernel_rfl) (by kernel_rfl) (by exact fun _ _ _ _ h => h) [12, 26, 27, 28, 29] (by kernel_rfl) (hS.sub sb9)
                case hfr => intro w hS; ((refine wpl (by kernel_rfl) ?_; apply wp_load1E0 hS 3 _ rfl _ _ rfl (one_of rfl) _ _ _ _ _ _; (case hp => exact pl9); (case inst => infer_instance); (case he => with_reducible assumption); (case hq => exact rfl); (case hj => omega); (case hv => exact rfl); refine put_move ?_; go_step)); refine wpList_nil ?_; exact ⟨rfl, rfl⟩
                case hd => rfl
                (refine takeV 12 _ al9 (by kernel_rfl) (by kernel_rfl) (by kernel_rfl) (by exact fun _ _ _ _ h => h) (V.addI rfl rfl (by omega)) rfl ?_)
                go_step
                refine takeM 13 _ al9 (by kernel_rfl) (by kernel_rfl) (by kernel_rfl) (by exact fun _ _ _ _ h => h) rfl ?_
                go_step
                refine takeM 14 _ al9 (by kernel_rfl) (by kernel_rfl) (by kernel_rfl) (by exact fun _ _ _ _ h => h) rfl ?_
                go_step
                (refine takeV 15 _ al9 (by kernel_rfl) (by kernel_rfl) (by kernel_rfl) (by exact fun _ _ _ _ h => h) (V.indexSl Tryd.underlying134 isz133 rfl rfl isn9 (by omega) rfl nq9) rfl ?_)
                go_step
                (refine takeV 16 _ al9 (by kernel_rfl) (by kernel_rfl) (by kernel_rfl) (by exact fun _ _ _ _ h => h) (V.fieldAddr fo133_1 rfl nq9) rfl ?_)
                go_step
                apply takeS 17 al9 (by kernel_rfl) (by kernel_rfl) (by kernel_rfl) (by exact fun _ _ _ _ h => h) [24, 25, 26, 27, 28, 29] (by kernel_rfl) (hS.sub sb9)
                case hfr => intro w hS; ((refine wpl (by kernel_rfl) ?_; apply wp_load1E hS 24 _ rfl _ _ rfl (one_of rfl) _ _ _ _ _ _; (case hp => exact pl9); (case inst => infer_instance); (case he => with_reducible assumption); (case hq => exact rfl); (case hj => omega); (case hv => exact rfl); refine put_move ?_; go_step)); refine wpList_nil ?_; exact ⟨rfl, rfl⟩
                case hd => rfl
                refine takeM 18 _ al9 (by kernel_rfl) (by kernel_rfl) (by kernel_rfl) (by exact fun _ _ _ _ h => h) rfl ?_
                go_step
                refine takeM 19 _ al9 (by kernel_rfl) (by kernel_rfl) (by kernel_rfl) (by exact fun _ _ _ _ h => h) rfl ?_
                go_step
                (refine takeV 20 _ al9 (by kernel_rfl) (by kernel_rfl) (by kernel_rfl) (by exact fun _ _ _ _ h => h) (V.addI rfl rfl (by omega)) rfl ?_)
                go_step
                (refine takeV 21 _ al9 (by kernel_rfl) (by kernel_rfl) (by kernel_rfl) (by exact fun _ _ _ _ h => h) (V.indexSl Tryd.underlying134 isz133 rfl rfl isn9 (by omega) rfl nq9) rfl ?_)
                go_step
                (refine takeV 22 _ al9 (by kernel_rfl) (by kernel_rfl) (by kernel_rfl) (by exact fun _ _ _ _ h => h) (V.fieldAddr fo133_1 rfl nq9) rfl ?_)
                go_step
                apply takeS 23 al9 (by kernel_rfl) (by kernel_rfl) (by kernel_rfl) (by exact fun _ _ _ _ h => h) [24, 25, 26, 27, 28, 29] (by kernel_rfl) (hS.sub sb9)
                case hfr => intro w hS; ((refine wpl (by kernel_rfl) ?_; apply wp_load1E hS 24 _ rfl _ _ rfl (one_of rfl) _ _ _ _ _ _; (case hp => exact pl9); (case inst => infer_instance); (case he => with_reducible assumption); (case hq => exact rfl); (case hj => omega); (case hv => exact rfl); refine put_move ?_; go_step)); refine wpList_nil ?_; exact ⟨rfl, rfl⟩
                case hd => rfl
                refine branch1 24 al9 rfl (by kernel_rfl) ?_
                (refine wp_buildSlice1 (o := ⟨some 82, _, _, _, _, _⟩) hS 160 2 _ rfl 24 1 24 el160 _ _ (by (repeat (first | exact Parts.nil | (apply Parts.agg; (rfl); (rfl)) | (apply Parts.one; exact isv9; (rfl); (rfl))))) (by rfl) (by decide) (by decide) ?_; clear hS; intro g82 w hS)
                refine ⟨fun _ _ => hS.sub sb9, ?_⟩
                refine drawn_move ?_
                go_step
                refine branch1 25 al9 rfl (by kernel_rfl) ?_
                refine wp_callF (f := 69) rfl Tryd.call69 (hCC.out _ _ _ _ hS pl9 (hS.slBlk (n := 2) pl9 (by rfl) (by decide))) ?_; rintro e w ⟨ad83, c83, rfl, hS2⟩; replace hS := hS.call1 hS2; clear hS2; refine ⟨_, rfl, ?_⟩
                refine ⟨fun _ _ => hS.sub sb9, ?_⟩
                refine drawn_move ?_
                go_step
                (refine takeV 26 _ al9 (by kernel_rfl) (by kernel_rfl) (by kernel_rfl) (by exact fun _ _ _ _ h => h) (V.build (vs := [(0, _), (1, _)]) rfl (bl133_0_1 _ _ _ _)) rfl ?_)
                go_step
                refine branch1 27 al9 rfl (by kernel_rfl) ?_
                (refine wp_buildSlice1 (o := ⟨some 85, _, _, _, _, _⟩) hS 134 1 _ rfl 133 2 32 el134 _ _ (by (repeat (first | exact Parts.nil | (apply Parts.agg; (rfl); (rfl)) | (apply Parts.one; exact isv9; (rfl); (rfl))))) (by rfl) (by decide) (by decide) ?_; clear hS; intro g85 w hS; simp only [List.cons_append, List.nil_append] at hS)
                refine ⟨fun h => absurd (by decide) h, ?_⟩
                refine drawn_move ?_
                go_step
                refine branch1 28 al9 rfl (by kernel_rfl) ?_
                (refine wp_append (o := ⟨some 86, _, _, _, _, _⟩) hS _ _ 134 rfl 133 2 32 el134 _ _ _ _ rfl pl9 _ rfl _ _ (by (first | exact hS.slBlk pl9 (by rfl) (by decide) | exact hS.sl pl9 | with_reducible assumption | exact Sl.ext (by with_reducible assumption) hS.1 | exact Sl.nil _ _ | exact Sl.ext (by assumption) hS.1 | assumption)) (by (first | exact oneAll rfl | exact oneMap _ _ | (intro u hu; cases hu))) (by unfold maxLen; omega) (by omega) ?_; clear hS; intro ad86 c86 w hS; (first | simp only [mapk1] at hS | simp only [mapk2] at hS | simp only [mapk3] at hS | simp only [mapk4] at hS | simp only [mapkl] at hS | skip))
                refine ⟨fun h => absurd (by decide) h, ?_⟩
                refine drawn_move ?_
                go_step
                refine takeA 29 _ al9 (by kernel_rfl) (by kernel_rfl) (by kernel_rfl) (by exact fun _ _ _ _ h => h) rfl ?_
                go_step
                refine drawn_done (by kernel_rfl) ?_ _
              repeat' (first
                | ((with_reducible apply gt9 (some 57) (.binOp .add _ _ _ _)); (refine wplV (.int _ (((2 * (q + 1) : Nat) : Int))) (V.as (V.addI rfl rfl (by omega)) (by omega)) rfl ?_; go_step)) | ((with_reducible apply gt9 _ (.move _)); (first | go_big_want | go_step); go_step) | ((with_reducible apply gt9 _ (.assign _)); (first | go_big_want | go_step); go_step) | ((fail_if_success with_reducible apply ga9); go_step))
              obtain ⟨w12, hw12⟩ : ∃ w12, (elt (G2.map gpV) (2 * q)).w + (elt (G2.map gpV) (2 * q + 1)).w = w12 := ⟨_, rfl⟩
              rw [hw12] at hS
              have h2 := (hS.sub (xs := [star (L.map Sr.res), own 3 1 ad83 (p1.r.xs ++ p2.r.xs).length c83 ((p1.r.xs ++ p2.r.xs).map (Value.int .i64)), own 133 2 ad86 (q + 1) c86 ((GN.map gpV).flatMap pkE ++ [.int .i64 w12, .slice ad83 (p1.r.xs ++ p2.r.xs).length c83]), gpks a8 M c8 G2, gpks g5 N ca G1, prt g2 [.ints (List.replicate 16 0), .val (.slice none 0 0)]]) sb9).starPut .head
              go_roundg (gk - 1)
              case measure => omega
              case rel =>
                refine ⟨q + 1, ad86, c86, GN ++ [⟨w12, ⟨ad83, c83, p1.r.xs ++ p2.r.xs⟩⟩], L ++ [⟨ad83, c83, p1.r.xs ++ p2.r.xs⟩], by omega, by omega, by simp; omega, by go_num, rfl, ?_, ?_, fun p hp => List.mem_append_left _ (HL2.out p hp), fun p hp => List.mem_append_left _ (HL1.out p hp), ?_⟩
                · rw [List.map_append, HGN.out, HPK.out, ← hw12, E1.out, E2.out]; rfl
                · intro p hp
                  rcases List.mem_append.1 hp with hp | hp
                  · exact List.mem_append_left _ (HLN.out p hp)
                  · simp at hp; subst hp; simp
                · rw [gp_snoc, List.map_append]
                  exact h2.sub (xs := [own 133 2 ad86 (q + 1) c86 ((GN.map gpV).flatMap pkE ++ [.int .i64 w12, .slice ad83 (p1.r.xs ++ p2.r.xs).length c83]), gpks a8 M c8 G2, gpks g5 N ca G1, star (L.map Sr.res ++ [own 3 1 ad83 (p1.r.xs ++ p2.r.xs).length c83 ((p1.r.xs ++ p2.r.xs).map (Value.int .i64))]), prt g2 [.ints (List.replicate 16 0), .val (.slice none 0 0)]]) sb9
            · have hGN2 : GN.map gpM = pkgs (G2.map gpM) := by rw [HGN.out, List.take_of_length_le (by rw [pairs_len, List.length_map]; omega)]
              have HGN2 := hid hGN2
              clear hGN2 HGN
              have he := pkE_all (G1.map gpV)
              repeat' (first
                | ((with_reducible apply gt9 (some 52) (.binOp .add _ _ _ _)); (refine wplV (.int _ (((2 * q + 1 : Nat) : Int))) (V.as (V.addI rfl rfl (by omega)) (by omega)) rfl ?_; go_step)) | ((with_reducible apply gt9 _ (.move _)); (first | go_big_want | go_step); go_step) | ((with_reducible apply gt9 (some 54) (.call ⟨.builtin .len, _, _⟩)); (refine wvv9 (V.len Tryd.underlying134 rfl) ?_; go_step)) | ((with_reducible apply gt9 (some 55) (.binOp .lss _ _ _ _)); (refine wvv9 (V.lss rfl rfl) ?_; go_step)) | ((fail_if_success with_reducible apply ga9); go_step))
              repeat' (first
                | ((with_reducible apply gt9 (some 89) _); refine wpl (by kernel_rfl) ?_; refine wp_append (o := ⟨some 89, _, _, _, _, _⟩) hS _ _ 134 rfl 133 2 32 el134 _ _ _ _ rfl pl9 _ rfl N _ (hS.sl (show Pull (gpks g5 N ca G1) _ _ from pl9)) he (by unfold maxLen; omega) (by omega) ?_; clear hS; intro ad89 c89 w hS; refine put_move ?_; go_step) | ((with_reducible apply gt9 _ (.move _)); (first | go_big_want | go_step); go_step) | ((with_reducible apply gt9 _ (.assign _)); (first | go_big_want | go_step); go_step) | ((fail_if_success with_reducible apply ga9); go_step))
              rw [← gp_app] at hS
              obtain ⟨g89, rfl⟩ := own_some hS .head (by omega)
              repeat' (first
                | ((with_reducible apply gt9 _ (.call ⟨.value (.func 66), _, _⟩)); refine wpl_call (f := 66) Tryd.call66 (by kernel_rfl) ?_; refine ⟨_, (sortStable_any w0 _ _ _ g89 (q + N) c89 ((GN ++ G1).map gpV) hS .head (by omega)), ?_⟩; rintro e w ⟨rfl, Q0, hQ1, hQ2, hS2⟩; replace hS := hS2; clear hS2; refine ⟨_, rfl, ?_⟩; refine put_move ?_; go_step) | ((fail_if_success with_reducible apply ga9); go_step))
              obtain ⟨G3, hG3, rfl⟩ := gp_perm hQ1
              have hR3 : RowK (sgs c k) (j + 2) (G3.map gpM) := by
                refine RowK.more HR2.out ?_ (gp_srt hQ2)
                have := hG3.map gpM
                rw [List.map_append, HGN2.out] at this
                exact this.trans (List.Perm.append_left _ HP1.out)
              have hL3 : ∀ p ∈ G3, p.r ∈ L := fun p hp => (List.mem_append.1 (hG3.mem_iff.1 hp)).elim (HLN.out p) (HL1.out p)
              have hN3' : q + N = G3.length := by rw [hG3.length_eq, List.length_append, ← hqn, ← hN1]
              have HR3 := hid hR3
              have HL3 := hid hL3
              clear hQ1 hQ2 hR3 hL3 hG3
              repeat' (first
                | ((with_reducible apply gt9 (some 92) (.binOp .add _ _ _ _)); (refine wplV (.int _ (((j + 1 : Nat) : Int))) (V.as (V.addI rfl rfl (by omega)) (by omega)) rfl ?_; go_step)) | ((with_reducible apply gt9 _ (.move _)); (first | go_big_want | go_step); go_step) | ((fail_if_success with_reducible apply ga9); go_step))
              go_roundg (gk1 - 1)
              case measure => omega
              case rel => exact ⟨j + 1, q + N, g89, c89, G3, L, by omega, hN3', by go_num, rfl, HR3.out, HL3.out, HL1.out, hS.sub sb9⟩
        · obtain rfl : j = 15 := by omega
          have HL2 := hid hL2
          clear hR2 hL2 hL1 HL1
          obtain ⟨Tn, hTn⟩ : ∃ Tn, 2 * N - 2 = Tn := ⟨_, rfl⟩
          have hMc : M ≤ c8 := by
            have := hS.sl (show Pull (gpks a8 M c8 G2) _ _ from .head)
            obtain ⟨_, _, _, e, h1, _⟩ := this
            cases e; exact h1
          have hlong := HR2.out.long (by rw [HNL.out]; omega)
          rw [HNL.out, List.length_map, ← hM] at hlong
          have hd0 : N / 2 ^ (15 + 1 - 1) = 0 := Nat.div_eq_of_lt (by omega)
          rw [hd0] at hlong
          have hTM : Tn ≤ M := by omega
          clear hd0 hlong
          obtain ⟨f, hf⟩ : ∃ f : Int → Nat, f = lng ((G2.map gpM).take Tn) := ⟨_, rfl⟩
          replace hS := hS.sub (xs := [gpks a8 M c8 G2, gpks g5 N ca G1, star (L.map Sr.res), prt g2 [.ints (List.replicate 16 0), .val (.slice none 0 0)]]) sb9
          repeat' (first
            | ((with_reducible apply gt9 (some 50) (.binOp .lss _ _ _ _)); (refine wvv9 (V.lss rfl rfl) ?_; go_step)) | ((fail_if_success with_reducible apply ga9); go_step))
          repeat' (first
            | ((with_reducible apply gt9 (some 97) (.binOp .mul _ _ _ _)); (refine wplV (.int _ (((2 * N : Nat) : Int))) (V.as (V.mulI rfl rfl (by omega)) (by omega)) rfl ?_; go_step)) | ((with_reducible apply gt9 (some 98) (.binOp .sub _ _ _ _)); (refine wplV (.int _ (((Tn : Nat) : Int))) (V.as (V.subI rfl rfl (by omega)) (by omega)) rfl ?_; go_step)) | ((with_reducible apply gt9 _ (.move _)); (first | go_big_want | go_step); go_step) | ((with_reducible apply gt9 _ (.assign _)); (first | go_big_want | go_step); go_step) | ((with_reducible apply gt9 (some 96) (.call ⟨.builtin .len, _, _⟩)); (refine wvv9 (V.len Tryd.underlying134 rfl) ?_; go_step)) | ((with_reducible apply gt9 (some 99) (.slice 134 _ _ _ _)); (refine wvv9 (V.slice Tryd.underlying134 isz133 rfl (by (first | exact Lo.none | exact Lo.some rfl isn9)) (by (first | exact Up.none | exact Up.some rfl isn9)) (by omega) (by omega)) ?_; go_step)) | ((with_reducible apply gt9 (some 100) (.call ⟨.builtin .len, _, _⟩)); (refine wvv9 (V.len Tryd.underlying134 rfl) ?_; go_step)) | ((with_reducible apply gt9 (some 93) (.makeMap 89 _)); (refine wpl (by kernel_rfl) ?_; apply wp_makeMap (o := ⟨some 93, _, _, _, _, _⟩) ik hS 89 rfl; clear hS; intro g93 w hS; refine put_move ?_; go_step)) | ((fail_if_success with_reducible apply ga9); go_step))
          replace hS := hS.sub (xs := [mp ik g93 (fun _ => none), gpks a8 M c8 G2, star (L.map Sr.res), prt g2 [.ints (List.replicate 16 0), .val (.slice none 0 0)]]) sb9
          rw [cutAt_zero, Nat.sub_zero, Nat.sub_zero]
          rw [← cntF_nil] at hS
          go_loopg [101] Tn (fun gk iv w => ∃ (a : Nat), gk + a = Tn ∧ iv = .int .i64 a ∧ St w0 w [mp ik g93 (cntF (syl ((G2.map gpM).take a))), gpks a8 M c8 G2, star (L.map Sr.res), prt g2 [.ints (List.replicate 16 0), .val (.slice none 0 0)]])
          case atStart => exact ⟨0, by omega, rfl, hS⟩
          case round =>
            clear hS
            obtain ⟨a, ha, rfl, hS⟩ := hrel
            by_cases hlt3 : a < Tn
            · obtain ⟨gk2, hgk2⟩ : ∃ x, x = gk := ⟨_, rfl⟩
              subst hgk2
              obtain ⟨⟨pw, pa, pcp, px⟩, hp, e1, m1⟩ := gp_at G2 a (by omega)
              have hpr : (⟨pa, pcp, px⟩ : Sr) ∈ L := HL2.out _ hp
              have e1' : elt (G2.map gpV) a = ⟨pw, pa, px.length, pcp⟩ := e1
              have htk : syl ((G2.map gpM).take (a + 1)) = syl ((G2.map gpM).take a) ++ px := by
                have hlt4 : a < (G2.map gpM).length := by rw [List.length_map]; omega
                rw [List.take_succ_eq_append_getElem hlt4, syl_append, syl_cons]
                have : (G2.map gpM)[a] = gpM ⟨pw, ⟨pa, pcp, px⟩⟩ := by rw [← m1]; exact elt_get _ _ hlt4
                rw [this]; simp [gpM, syl]
              have hpl : px.length ≤ 5000 := (row_bd HRNG.out hn3 (by omega) HR2.out (gpM ⟨pw, ⟨pa, pcp, px⟩⟩) (List.mem_map.2 ⟨_, hp, rfl⟩)).2.2
              have HTK := hid htk
              have HPR := hid hpr
              have E1 := hid e1'
              obtain ⟨Y, hY⟩ : ∃ Y, syl ((G2.map gpM).take a) = Y := ⟨_, rfl⟩
              rw [hY] at hS HTK
              have HY := hid hY
              clear htk hpr e1' e1 m1 hp hY
              have he := pkE_len
              repeat' (first
                | ((with_reducible apply gt9 (some 102) (.binOp .lss _ _ _ _)); (refine wvv9 (V.lss rfl rfl) ?_; go_step)) | ((with_reducible apply gt9 (some 103) (.indexAddr 134 _ _)); (refine wvv9 (V.indexSl Tryd.underlying134 isz133 rfl rfl isn9 (by omega) rfl nq9) ?_; go_step)) | ((with_reducible apply gt9 _ (.load 133 _)); (refine wpl (by kernel_rfl) ?_; apply wp_loadE hS 133 _ rfl _ _ rfl 2 (row_of rfl) _ _ _ _ _; (case hp => exact pl9); (case inst => infer_instance); (case he => with_reducible assumption); (case hq => exact rfl); (case hj => omega); refine put_move ?_; go_step)) | ((with_reducible apply gt9 (some 13) (.alloc 133)); (refine wpl (by kernel_rfl) ?_; apply wp_alloc (o := ⟨some 13, _, _, _, _, _⟩) hS 133 rfl (.agg #[.int .i64 0, .slice none 0 0]) [.int .i64 0, .slice none 0 0] (fun w => Tryd.zeroValue133 w) rfl; clear hS; intro g13 w hS; refine put_move ?_; go_step)) | ((with_reducible apply gt9 _ (.store 133 _ _)); (refine wpl (by kernel_rfl) ?_; apply wp_storeG hS 133 _ _ rfl _ rfl 2 (row_of rfl) _ _; (case hp => exact pl9); (case hy => rfl); (case hn => rfl); (case hn' => rfl); (case hv => rfl); (case hd => exact rfl); clear hS; intro w hS)) | ((fail_if_success with_reducible apply ga9); go_step))
              rw [E1.out] at hS
              have hYl : Y.length ≤ 5000 := by
                have h1 := HR2.out.syll
                rw [sgs_syl, HNL.out] at h1
                have h2 : syl (G2.map gpM) = syl ((G2.map gpM).take a) ++ syl ((G2.map gpM).drop a) := by rw [← syl_append, List.take_append_drop]
                rw [h2, List.length_append, HY.out] at h1
                omega
              repeat' (first
                | ((with_reducible apply gt9 _ (.move _)); (first | go_big_want | go_step); go_step) | ((with_reducible apply gt9 (some 105) (.fieldAddr 133 _ 1)); (refine wvv9 (V.fieldAddr fo133_1 rfl nq9) ?_; go_step)) | ((with_reducible apply gt9 (some 107) (.call ⟨.builtin .len, _, _⟩)); (refine wvv9 (V.len Tryd.underlying24 rfl) ?_; go_step)) | ((with_reducible apply gt9 _ (.load 24 _)); (refine wpl (by kernel_rfl) ?_; apply wp_load1 hS 24 _ rfl _ _ rfl (one_of rfl) _; (case hp => exact pl9); (case hc => rfl); refine put_move ?_; go_step)) | ((fail_if_success with_reducible apply ga9); go_step))
              replace hS := hS.sub (xs := [mp ik g93 (cntF Y), gpks a8 M c8 G2, star (L.map Sr.res), prt g2 [.ints (List.replicate 16 0), .val (.slice none 0 0)]]) sb9
              go_loopg [108] px.length (fun gk iv w => ∃ (b : Nat), gk + b = px.length ∧ iv = .int .i64 b ∧ St w0 w [mp ik g93 (cntF (Y ++ px.take b)), gpks a8 M c8 G2, star (L.map Sr.res), prt g2 [.ints (List.replicate 16 0), .val (.slice none 0 0)]])
              case atStart => exact ⟨0, by omega, rfl, by rw [List.take_zero, List.append_nil]; exact hS⟩
              case round =>
                clear hS
                obtain ⟨b, hb, rfl, hS⟩ := hrel
                by_cases hlt4 : b < px.length
                · have hrow : Sl wr 1 (.slice pa px.length pcp) px.length (px.map (Value.int .i64)) := star_row hS (show Pull (star (L.map Sr.res)) _ _ from pl9) HPR.out
                  obtain ⟨_, a1, c1, e1, _, _, hor⟩ := hrow
                  cases e1
                  rcases hor with h0 | ⟨b0, o0, rfl, hc⟩
                  · omega
                  have hcw := hc b (by omega)
                  rw [List.getElem?_map, get_nth px b hlt4] at hcw
                  replace hcw : wr.cell? ⟨b0, o0 + b, none⟩ = some (.int .i64 (nth px b)) := hcw
                  have htk2 : Y ++ px.take (b + 1) = (Y ++ px.take b) ++ [nth px b] := by
                    rw [List.take_succ_eq_append_getElem hlt4, List.append_assoc]
                    simp [nth, List.getD, hlt4]
                  have hZl : (Y ++ px.take b).length ≤ 10000 := by rw [List.length_append, List.length_take]; omega
                  obtain ⟨s, hs⟩ : ∃ s, nth px b = s := ⟨_, rfl⟩
                  obtain ⟨Z, hZ⟩ : ∃ Z, Y ++ px.take b = Z := ⟨_, rfl⟩
                  rw [hs] at hcw htk2
                  rw [hZ] at htk2 hZl hS
                  have hcl2 := List.count_le_length (a := s) (l := Z)
                  obtain ⟨m, hm⟩ : ∃ m, Z.count s = m := ⟨_, rfl⟩
                  have HTK2 := hid htk2
                  have HSN := hid (cntF_snoc Z s)
                  rw [hm] at hcl2 HSN
                  have hfe : cntF Z s = if m = 0 then none else some (.int .i64 (m : Nat)) := by rw [← hm]; rfl
                  clear hs hZ htk2 hc hm
                  repeat' (first
                    | ((with_reducible apply gt9 (some 111) _); refine wpl (by kernel_rfl) ?_; refine wp_load (o := ⟨some 111, _, _, _, _, _⟩) 3 _ rfl _ rfl (one_of rfl) _ hcw ?_; refine put_move ?_; go_step) | ((with_reducible apply gt9 _ (.move _)); (first | go_big_want | go_step); go_step) | ((with_reducible apply gt9 _ (.assign _)); (first | go_big_want | go_step); go_step) | ((with_reducible apply gt9 (some 109) (.binOp .lss _ _ _ _)); (refine wvv9 (V.lss rfl rfl) ?_; go_step)) | ((with_reducible apply gt9 (some 110) (.indexAddr 24 _ _)); (refine wvv9 (V.indexSl Tryd.underlying24 isz3 rfl rfl isn9 (by omega) (Nat.mul_one _) nq9) ?_; go_step)) | ((fail_if_success with_reducible apply ga9); go_step))
                  by_cases hm0 : m = 0
                  · rw [if_pos hm0] at hfe
                    repeat' (first
                      | ((with_reducible apply gt9 (some 115) (.binOp .add _ _ _ _)); (refine wplV (.int _ (((m + 1 : Nat) : Int))) (V.as (V.addI rfl rfl (by omega)) (by omega)) rfl ?_; go_step)) | ((with_reducible apply gt9 (some 116) (.binOp .add _ _ _ _)); (refine wplV (.int _ (((b + 1 : Nat) : Int))) (V.as (V.addI rfl rfl (by omega)) (by omega)) rfl ?_; go_step)) | ((with_reducible apply gt9 _ (.move _)); (first | go_big_want | go_step); go_step) | ((with_reducible apply gt9 (some 114) (.lookup 89 _ _ _)); (refine wpl (by kernel_rfl) ?_; apply wp_lookupN (enc := ik) hS 89 _ _ rfl _ rfl _ rfl Tryd.underlying89 (keyLaw_int Tryd.underlying3) (.int .i64 0) (fun w => Tryd.zeroValue3 w) _; (case hp => exact pl9); (case hf => with_reducible assumption); refine put_move ?_; go_step)) | ((with_reducible apply gt9 _ (.mapUpdate 89 _ _ _)); (refine wpl (by kernel_rfl) ?_; apply wp_mapUpdate (enc := ik) hS 89 _ _ _ rfl _ rfl _ rfl Tryd.underlying89 (keyLaw_int Tryd.underlying3) _; (case hp => exact pl9); (case hv => (first | exact IsV.int rfl | exact IsV.bool rfl | exact IsV.slice rfl | exact IsV.pointer rfl | exact IsV.string rfl | exact IsV.map rfl | exact IsV.func rfl | exact IsV.agg rfl)); (case hd => exact rfl); clear hS; intro w hS)) | ((fail_if_success with_reducible apply ga9); go_step))
                    rw [HSN.out] at hS
                    go_roundg (gk - 1)
                    case measure => omega
                    case rel => exact ⟨b + 1, by omega, by go_num, by rw [HTK2.out]; exact hS⟩
                  · rw [if_neg hm0] at hfe
                    repeat' (first
                      | ((with_reducible apply gt9 (some 115) (.binOp .add _ _ _ _)); (refine wplV (.int _ (((m + 1 : Nat) : Int))) (V.as (V.addI rfl rfl (by omega)) (by omega)) rfl ?_; go_step)) | ((with_reducible apply gt9 (some 116) (.binOp .add _ _ _ _)); (refine wplV (.int _ (((b + 1 : Nat) : Int))) (V.as (V.addI rfl rfl (by omega)) (by omega)) rfl ?_; go_step)) | ((with_reducible apply gt9 _ (.move _)); (first | go_big_want | go_step); go_step) | ((with_reducible apply gt9 (some 114) (.lookup 89 _ _ _)); (refine wpl (by kernel_rfl) ?_; apply wp_lookupS (enc := ik) hS 89 _ _ rfl _ rfl _ rfl Tryd.underlying89 (keyLaw_int Tryd.underlying3) (.int .i64 0) (fun w => Tryd.zeroValue3 w) _; (case hp => exact pl9); (case hf => with_reducible assumption); refine put_move ?_; go_step)) | ((with_reducible apply gt9 _ (.mapUpdate 89 _ _ _)); (refine wpl (by kernel_rfl) ?_; apply wp_mapUpdate (enc := ik) hS 89 _ _ _ rfl _ rfl _ rfl Tryd.underlying89 (keyLaw_int Tryd.underlying3) _; (case hp => exact pl9); (case hv => (first | exact IsV.int rfl | exact IsV.bool rfl | exact IsV.slice rfl | exact IsV.pointer rfl | exact IsV.string rfl | exact IsV.map rfl | exact IsV.func rfl | exact IsV.agg rfl)); (case hd => exact rfl); clear hS; intro w hS)) | ((fail_if_success with_reducible apply ga9); go_step))
                    rw [HSN.out] at hS
                    go_roundg (gk - 1)
                    case measure => omega
                    case rel => exact ⟨b + 1, by omega, by go_num, by rw [HTK2.out]; exact hS⟩
                · obtain rfl : b = px.length := by omega
                  rw [List.take_length, ← HTK.out] at hS
                  repeat' (first
                    | ((with_reducible apply gt9 (some 109) (.binOp .lss _ _ _ _)); (refine wvv9 (V.lss rfl rfl) ?_; go_step)) | ((fail_if_success with_reducible apply ga9); go_step))
                  repeat' (first
                    | ((with_reducible apply gt9 (some 117) (.binOp .add _ _ _ _)); (refine wplV (.int _ (((a + 1 : Nat) : Int))) (V.as (V.addI rfl rfl (by omega)) (by omega)) rfl ?_; go_step)) | ((with_reducible apply gt9 _ (.move _)); (first | go_big_want | go_step); go_step) | ((fail_if_success with_reducible apply ga9); go_step))
                  go_roundg (gk2 - 1)
                  case measure => omega
                  case rel => exact ⟨a + 1, by omega, by go_num, hS⟩
            · obtain rfl : a = Tn := by omega
              have HFE : Hid (∀ s, cntF (syl ((G2.map gpM).take a)) s = if f s = 0 then none else some (.int .i64 (f s : Nat))) := fun s => by rw [hf]; rfl
              obtain ⟨F, hF⟩ : ∃ F, cntF (syl ((G2.map gpM).take a)) = F := ⟨_, rfl⟩
              rw [hF] at hS HFE
              have hf16 : ∀ s, f s ≤ 5000 := fun s => by
                rw [hf]
                have h1 := HR2.out.syll
                rw [sgs_syl, HNL.out] at h1
                have h2 : syl (G2.map gpM) = syl ((G2.map gpM).take a) ++ syl ((G2.map gpM).drop a) := by rw [← syl_append, List.take_append_drop]
                rw [h2, List.length_append] at h1
                have h3 := List.count_le_length (a := s) (l := syl ((G2.map gpM).take a))
                unfold lng
                omega
              have HF16 := hid hf16
              have HFF : Hid (f = lng ((G2.map gpM).take (2 * (sgs c k).length - 2))) := by unfold Hid; rw [HNL.out, hTn]; exact hf
              clear hF hf hf16
              replace hS := hS.sub (xs := [mp ik g93 F, prt g2 [.ints (List.replicate 16 0), .val (.slice none 0 0)]]) sb9
              repeat' (first
                | ((with_reducible apply gt9 (some 102) (.binOp .lss _ _ _ _)); (refine wvv9 (V.lss rfl rfl) ?_; go_step)) | ((fail_if_success with_reducible apply ga9); go_step))
              repeat' (first
                | ((with_reducible apply gt9 _ (.move _)); (first | go_big_want | go_step); go_step) | ((with_reducible apply gt9 (some 16) (.alloc 31)); (refine wpl (by kernel_rfl) ?_; apply wp_allocP (o := ⟨some 16, _, _, _, _, _⟩) hS 31 rfl _ zp31; clear hS; intro g16 w hS; refine put_move ?_; go_step)) | ((fail_if_success with_reducible apply ga9); go_step))
              replace hS := ((hS.sub (xs := [mp ik g93 F, prt g2 [.ints (List.replicate 16 0), .val (.slice none 0 0)], prt g16 [.ints (List.replicate 16 0), .val (.slice none 0 0)]]) sb9).nilk 3 1 .i64)
              go_loopg [118] 16 (fun gk iv w => ∃ (q ls : Nat) (C S : List Int) (ao : Option Addr) (co : Nat), gk + q = 16 ∧ iv = .int .i64 q ∧ ls = S.length ∧ Len C 16 ∧ (∀ i, i < 16 → nth C i = cntTo f k q 0 i) ∧ S = symsTo f k q ∧ St w0 w [own 3 1 ao ls co (S.map (Value.int .i64)), mp ik g93 F, prt g2 [.ints (List.replicate 16 0), .val (.slice none 0 0)], prt g16 [.ints C, .val (.slice ao ls co)]])
              case atStart => exact ⟨0, 0, List.replicate 16 0, [], none, 0, by omega, rfl, rfl, Len.rep, fun i hi => by rw [nth_zeros]; unfold cntTo; rw [if_neg (by omega)]; split <;> rfl, rfl, hS⟩
              case round =>
                clear hS
                obtain ⟨q, ls, C, S, ao, co, hq, rfl, hls, hC, hCn, hSe, hS⟩ := hrel
                have HCN := hid hCn
                have HSE := hid hSe
                clear hCn hSe
                by_cases hlt5 : q < 16
                · obtain ⟨gk3, hgk3⟩ : ∃ x, x = gk := ⟨_, rfl⟩
                  subst hgk3
                  have HLS : Hid (S.length ≤ 16 * 256) := by
                    unfold Hid
                    rw [HSE.out]
                    have h1 := symsTo_len f k q
                    have h2 : q * k ≤ 16 * 256 := Nat.mul_le_mul (by omega) (by omega)
                    omega
                  repeat' (first
                    | ((with_reducible apply gt9 _ (.move _)); (first | go_big_want | go_step); go_step) | ((with_reducible apply gt9 _ (.assign _)); (first | go_big_want | go_step); go_step) | ((with_reducible apply gt9 (some 119) (.binOp .lss _ _ _ _)); (refine wvv9 (V.lss rfl rfl) ?_; go_step)) | ((with_reducible apply gt9 (some 122) (.call ⟨.builtin .len, _, _⟩)); (refine wvv9 (V.len Tryd.underlying24 rfl) ?_; go_step)) | ((fail_if_success with_reducible apply ga9); go_step))
                  go_loopg [123] k (fun gk iv w => ∃ (s ls : Nat) (C S' : List Int) (ao : Option Addr) (co : Nat), gk + s = k ∧ iv = .int .i64 s ∧ ls = S'.length ∧ Len C 16 ∧ (∀ i, i < 16 → nth C i = cntTo f k q s i) ∧ S' = S ++ symsK f s (q + 1) ∧ St w0 w [own 3 1 ao ls co (S'.map (Value.int .i64)), mp ik g93 F, prt g2 [.ints (List.replicate 16 0), .val (.slice none 0 0)], prt g16 [.ints C, .val (.slice ao ls co)]])
                  case atStart => exact ⟨0, ls, C, S, ao, co, by omega, rfl, hls, hC, HCN.out, by simp [symsK], hS⟩
                  case round =>
                    clear hS hC HCN
                    obtain ⟨s, ls, C, S', ao, co, hs, rfl, hls2, hC, hCn, hSe, hS⟩ := hrel
                    have HCN := hid hCn
                    have HSE2 := hid hSe
                    have hS'l : ls ≤ 10000 := by
                      rw [hls2, hSe, List.length_append]
                      have := symsK_len f s (q + 1)
                      have := HLS.out
                      omega
                    clear hCn hSe
                    by_cases hlt6 : s < k
                    · have hfe := HFE.out (s : Int)
                      have hf5 := HF16.out (s : Int)
                      obtain ⟨fs, hfs⟩ : ∃ fs, f (s : Int) = fs := ⟨_, rfl⟩
                      rw [hfs] at hfe hf5
                      have hsk := symsK_succ f s (q + 1)
                      rw [hfs] at hsk
                      by_cases hfq : fs = q + 1
                      · rw [if_neg (by omega)] at hfe
                        rw [if_pos hfq] at hsk
                        have hnq := HCN.out q hlt5
                        have hbq : nth C q = ((symsK f s (q + 1)).length : Nat) := by
                          rw [hnq]; unfold cntTo; rw [if_neg (by omega), if_pos rfl]
                        have hbl := symsK_len f s (q + 1)
                        have HSK := hid hsk
                        have HBQ := hid hbq
                        have hbb : 0 ≤ nth C q ∧ nth C q ≤ 256 := by rw [hbq]; omega
                        clear hsk hfs hnq hbq hbl
                        repeat' (first
                          | ((with_reducible apply gt9 (some 130) (.binOp .add _ _ _ _)); (refine wplV (.int _ (((q + 1 : Nat) : Int))) (V.as (V.addI rfl rfl (by omega)) (by omega)) rfl ?_; go_step)) | ((with_reducible apply gt9 _ (.move _)); (first | go_big_want | go_step); go_step) | ((with_reducible apply gt9 _ (.assign _)); (first | go_big_want | go_step); go_step) | ((with_reducible apply gt9 (some 124) (.binOp .lss _ _ _ _)); (refine wvv9 (V.lss rfl rfl) ?_; go_step)) | ((with_reducible apply gt9 (some 131) (.binOp .eql 3 _ _ _)); (refine wvv9 (V.eql rfl rfl) ?_; go_step)) | ((with_reducible apply gt9 (some 128) (.lookup 89 _ _ _)); (refine wpl (by kernel_rfl) ?_; apply wp_lookupS (enc := ik) hS 89 _ _ rfl _ rfl _ rfl Tryd.underlying89 (keyLaw_int Tryd.underlying3) (.int .i64 0) (fun w => Tryd.zeroValue3 w) _; (case hp => exact pl9); (case hf => with_reducible assumption); refine put_move ?_; go_step)) | ((fail_if_success with_reducible apply ga9); go_step))
                        repeat' (first
                          | ((with_reducible apply gt9 _ (.move _)); (first | go_big_want | go_step); go_step) | ((with_reducible apply gt9 (some 133) (.fieldAddr 31 _ 0)); (refine wvv9 (V.fieldAddr fo31_0 rfl nq9) ?_; go_step)) | ((with_reducible apply gt9 (some 134) (.indexAddr 29 _ _)); (refine wvv9 (V.indexAr Tryd.underlying29 isz3 rfl rfl isn9 (by omega) (Nat.mul_one _) nq9) ?_; go_step)) | ((with_reducible apply gt9 (some 136) (.binOp .add _ _ _ _)); (refine wvv9 (V.addI rfl rfl (by omega)) ?_; go_step)) | ((with_reducible apply gt9 (some 137) (.fieldAddr 31 _ 0)); (refine wvv9 (V.fieldAddr fo31_0 rfl nq9) ?_; go_step)) | ((with_reducible apply gt9 (some 138) (.indexAddr 29 _ _)); (refine wvv9 (V.indexAr Tryd.underlying29 isz3 rfl rfl isn9 (by omega) (Nat.mul_one _) nq9) ?_; go_step)) | ((with_reducible apply gt9 (some 139) (.fieldAddr 31 _ 1)); (refine wvv9 (V.fieldAddr fo31_1 rfl nq9) ?_; go_step)) | ((with_reducible apply gt9 (some 144) (.fieldAddr 31 _ 1)); (refine wvv9 (V.fieldAddr fo31_1 rfl nq9) ?_; go_step)) | ((with_reducible apply gt9 _ (.load 3 _)); (refine wpl (by kernel_rfl) ?_; apply wp_load1P hS 3 _ rfl _ _ rfl (one_of rfl) _; (case hp => exact pl9); (case hi => (repeat (first | (apply AtI.head; (case hn => (first | (with_reducible assumption) | exact Len.rep | exact Len.set (by with_reducible assumption) | exact Len.set Len.rep | exact Len.set (Len.set Len.rep))); (case h => omega)) | (apply AtI.skipI; (case hn => (first | (with_reducible assumption) | exact Len.rep | exact Len.set (by with_reducible assumption) | exact Len.set Len.rep | exact Len.set (Len.set Len.rep))); (case h => omega); (case ho => rfl)) | apply AtI.skipV))); refine put_move ?_; go_step)) | ((with_reducible apply gt9 _ (.store 3 _ _)); (refine wpl (by kernel_rfl) ?_; apply wp_store1P hS 3 _ _ rfl _ _ rfl (one_of rfl) _ _; (case hp => exact pl9); (case hy => rfl); (case hi => (repeat (first | (apply PutI.head; (case hn => (first | (with_reducible assumption) | exact Len.rep | exact Len.set (by with_reducible assumption) | exact Len.set Len.rep | exact Len.set (Len.set Len.rep))); (case h => omega)) | (apply PutI.skipI; (case hn => (first | (with_reducible assumption) | exact Len.rep | exact Len.set (by with_reducible assumption) | exact Len.set Len.rep | exact Len.set (Len.set Len.rep))); (case h => omega); (case ho => rfl)) | apply PutI.skipV))); (case hd => exact rfl); clear hS; intro w hS)) | ((with_reducible apply gt9 _ (.load 24 _)); (refine wpl (by kernel_rfl) ?_; apply wp_loadVP hS 24 _ rfl _ _ rfl (one_of rfl) _; (case hp => exact pl9); (case hi => (repeat (first | exact AtV.head | (apply AtV.skipI; (case hn => (first | (with_reducible assumption) | exact Len.rep | exact Len.set (by with_reducible assumption) | exact Len.set Len.rep | exact Len.set (Len.set Len.rep))); (case h => omega); (case ho => rfl)) | apply AtV.skipV))); refine put_move ?_; go_step)) | ((with_reducible apply gt9 (some 142) (.buildSlice 24 _ _)); (refine wpl (by kernel_rfl) ?_; apply wp_buildSlice1 (o := ⟨some 142, _, _, _, _, _⟩) hS 24 1 _ rfl 3 1 8 el24 _ _; (case hvs => (repeat (first | exact Parts.nil | (apply Parts.agg; (rfl); (rfl)) | (apply Parts.one; exact isv9; (rfl); (rfl))))); (case hn => rfl); (case hn0 => decide); (case hns => decide); clear hS; intro g142 w hS; refine put_move ?_; go_step)) | ((with_reducible apply gt9 (some 143) (.call ⟨.builtin .append, _, _⟩)); (refine wpl (by kernel_rfl) ?_; apply wp_append (o := ⟨some 143, _, _, _, _, _⟩) hS _ _ 24 rfl 3 1 8 el24 _ _ _ _ rfl; (case hp => exact pl9); (case hx => exact rfl); (case hm => (first | exact hS.slBlk pl9 (by rfl) (by decide) | exact hS.sl pl9 | with_reducible assumption | exact Sl.ext (by with_reducible assumption) hS.1 | exact Sl.nil _ _ | exact Sl.ext (by assumption) hS.1 | assumption)); (case h1 => (first | exact oneAll rfl | exact oneMap _ _ | (intro u hu; cases hu))); (case h63 => unfold maxLen; omega); (case hb => omega); clear hS; intro ad143 c143 w hS; (first | simp only [mapk1] at hS | simp only [mapk2] at hS | simp only [mapk3] at hS | simp only [mapk4] at hS | simp only [mapkl] at hS | skip); refine put_move ?_; go_step)) | ((with_reducible apply gt9 _ (.store 24 _ _)); (refine wpl (by kernel_rfl) ?_; apply wp_storeVP hS 24 _ _ rfl _ _ rfl (one_of rfl) _ _; (case hp => exact pl9); (case hy => exact isv9); (case hz => rfl); (case hi => (repeat (first | exact PutV.head | (apply PutV.skipI; (case hn => (first | (with_reducible assumption) | exact Len.rep | exact Len.set (by with_reducible assumption) | exact Len.set Len.rep | exact Len.set (Len.set Len.rep))); (case h => omega); (case ho => rfl)) | apply PutV.skipV))); (case hd => exact rfl); clear hS; intro w hS)) | ((fail_if_success with_reducible apply ga9); go_step))
                        repeat' (first
                          | ((with_reducible apply gt9 (some 145) (.binOp .add _ _ _ _)); (refine wplV (.int _ (((s + 1 : Nat) : Int))) (V.as (V.addI rfl rfl (by omega)) (by omega)) rfl ?_; go_step)) | ((with_reducible apply gt9 _ (.move _)); (first | go_big_want | go_step); go_step) | ((fail_if_success with_reducible apply ga9); go_step))
                        go_roundg (gk - 1)
                        case measure => omega
                        case rel =>
                          refine ⟨s + 1, ls + 1, C.set q (nth C q + 1), S' ++ [(s : Int)], ad143, c143, by omega, by go_num, by rw [List.length_append, ← hls2]; rfl, hC.set, fun i hi => ?_, by rw [HSE2.out, HSK.out, List.append_assoc], hS.sub sb9⟩
                          rw [nth_set _ _ _ _ (by rw [hC.out]; exact hlt5)]
                          unfold cntTo
                          by_cases hiq : q = i
                          · subst hiq
                            rw [if_pos rfl, if_neg (by omega), if_pos rfl, HSK.out, HBQ.out, List.length_append]; rfl
                          · rw [if_neg hiq, HCN.out i hi]
                            unfold cntTo
                            by_cases hi2 : i < q
                            · rw [if_pos hi2, if_pos hi2]
                            · rw [if_neg hi2, if_neg hi2, if_neg (by omega), if_neg (by omega)]
                      · rw [if_neg hfq] at hsk
                        have HSK := hid hsk
                        have HN2 : Hid (∀ i, i < 16 → nth C i = cntTo f k q (s + 1) i) := fun i hi => by
                          rw [HCN.out i hi]
                          unfold cntTo
                          by_cases hi2 : i < q
                          · rw [if_pos hi2, if_pos hi2]
                          · by_cases hi3 : i = q
                            · subst hi3; rw [if_neg hi2, if_neg hi2, if_pos rfl, if_pos rfl, hsk]
                            · rw [if_neg hi2, if_neg hi2, if_neg hi3, if_neg hi3]
                        clear hsk hfs
                        by_cases hf0 : fs = 0
                        · rw [if_pos hf0] at hfe
                          repeat' (first
                            | ((with_reducible apply gt9 (some 130) (.binOp .add _ _ _ _)); (refine wplV (.int _ (((q + 1 : Nat) : Int))) (V.as (V.addI rfl rfl (by omega)) (by omega)) rfl ?_; go_step)) | ((with_reducible apply gt9 _ (.move _)); (first | go_big_want | go_step); go_step) | ((with_reducible apply gt9 _ (.assign _)); (first | go_big_want | go_step); go_step) | ((with_reducible apply gt9 (some 124) (.binOp .lss _ _ _ _)); (refine wvv9 (V.lss rfl rfl) ?_; go_step)) | ((with_reducible apply gt9 (some 131) (.binOp .eql 3 _ _ _)); (refine wvv9 (V.eql rfl rfl) ?_; go_step)) | ((with_reducible apply gt9 (some 128) (.lookup 89 _ _ _)); (refine wpl (by kernel_rfl) ?_; apply wp_lookupN (enc := ik) hS 89 _ _ rfl _ rfl _ rfl Tryd.underlying89 (keyLaw_int Tryd.underlying3) (.int .i64 0) (fun w => Tryd.zeroValue3 w) _; (case hp => exact pl9); (case hf => with_reducible assumption); refine put_move ?_; go_step)) | ((fail_if_success with_reducible apply ga9); go_step))
                          repeat' (first
                            | ((with_reducible apply gt9 (some 145) (.binOp .add _ _ _ _)); (refine wplV (.int _ (((s + 1 : Nat) : Int))) (V.as (V.addI rfl rfl (by omega)) (by omega)) rfl ?_; go_step)) | ((with_reducible apply gt9 _ (.move _)); (first | go_big_want | go_step); go_step) | ((fail_if_success with_reducible apply ga9); go_step))
                          go_roundg (gk - 1)
                          case measure => omega
                          case rel => exact ⟨s + 1, ls, C, S', ao, co, by omega, by go_num, hls2, hC, HN2.out, by rw [HSE2.out, HSK.out], hS.sub sb9⟩
                        · rw [if_neg hf0] at hfe
                          repeat' (first
                            | ((with_reducible apply gt9 (some 130) (.binOp .add _ _ _ _)); (refine wplV (.int _ (((q + 1 : Nat) : Int))) (V.as (V.addI rfl rfl (by omega)) (by omega)) rfl ?_; go_step)) | ((with_reducible apply gt9 _ (.move _)); (first | go_big_want | go_step); go_step) | ((with_reducible apply gt9 _ (.assign _)); (first | go_big_want | go_step); go_step) | ((with_reducible apply gt9 (some 124) (.binOp .lss _ _ _ _)); (refine wvv9 (V.lss rfl rfl) ?_; go_step)) | ((with_reducible apply gt9 (some 131) (.binOp .eql 3 _ _ _)); (refine wvv9 (V.eql rfl rfl) ?_; go_step)) | ((with_reducible apply gt9 (some 128) (.lookup 89 _ _ _)); (refine wpl (by kernel_rfl) ?_; apply wp_lookupS (enc := ik) hS 89 _ _ rfl _ rfl _ rfl Tryd.underlying89 (keyLaw_int Tryd.underlying3) (.int .i64 0) (fun w => Tryd.zeroValue3 w) _; (case hp => exact pl9); (case hf => with_reducible assumption); refine put_move ?_; go_step)) | ((fail_if_success with_reducible apply ga9); go_step))
                          repeat' (first
                            | ((with_reducible apply gt9 (some 145) (.binOp .add _ _ _ _)); (refine wplV (.int _ (((s + 1 : Nat) : Int))) (V.as (V.addI rfl rfl (by omega)) (by omega)) rfl ?_; go_step)) | ((with_reducible apply gt9 _ (.move _)); (first | go_big_want | go_step); go_step) | ((fail_if_success with_reducible apply ga9); go_step))
                          go_roundg (gk - 1)
                          case measure => omega
                          case rel => exact ⟨s + 1, ls, C, S', ao, co, by omega, by go_num, hls2, hC, HN2.out, by rw [HSE2.out, HSK.out], hS.sub sb9⟩
                    · obtain rfl : s = k := by omega
                      repeat' (first
                        | ((with_reducible apply gt9 (some 124) (.binOp .lss _ _ _ _)); (refine wvv9 (V.lss rfl rfl) ?_; go_step)) | ((fail_if_success with_reducible apply ga9); go_step))
                      repeat' (first
                        | ((with_reducible apply gt9 (some 146) (.binOp .add _ _ _ _)); (refine wplV (.int _ (((q + 1 : Nat) : Int))) (V.as (V.addI rfl rfl (by omega)) (by omega)) rfl ?_; go_step)) | ((with_reducible apply gt9 _ (.move _)); (first | go_big_want | go_step); go_step) | ((fail_if_success with_reducible apply ga9); go_step))
                      go_roundg (gk3 - 1)
                      case measure => omega
                      case rel =>
                        refine ⟨q + 1, ls, C, S', ao, co, by omega, by go_num, hls2, hC, fun i hi => ?_, by rw [HSE2.out, HSE.out, symsTo_succ], hS⟩
                        rw [HCN.out i hi]
                        unfold cntTo
                        by_cases hi2 : i < q
                        · rw [if_pos hi2, if_pos (by omega)]
                        · by_cases hi3 : i = q
                          · subst hi3; rw [if_neg hi2, if_pos rfl, if_pos (by omega)]
                          · rw [if_neg hi2, if_neg hi3, if_neg (by omega)]
                            split <;> rfl
                · obtain rfl : q = 16 := by omega
                  have hCf : ∀ i, i < 16 → nth C i = ((symsK f k (i + 1)).length : Nat) := fun i hi => by
                    rw [HCN.out i hi]; unfold cntTo; rw [if_pos hi]
                  have HCF := hid hCf
                  clear hCf HCN
                  repeat' (first
                    | ((with_reducible apply gt9 (some 119) (.binOp .lss _ _ _ _)); (refine wvv9 (V.lss rfl rfl) ?_; go_step)) | ((fail_if_success with_reducible apply ga9); go_step))
                  repeat' (first
                    | ((with_reducible apply gt9 _ (.assign _)); (first | go_big_want | go_step); go_step) | ((with_reducible apply gt9 _ (.load 31 _)); (refine wpl (by kernel_rfl) ?_; apply wp_loadPP hS 31 _ rfl _ _ rfl 17 (row_of rfl) _; (case hp => exact pl9); (case hi => (repeat (first | (apply AtP.head; (repeat (first | exact Pre.nil | (apply Pre.ints; (case hn => (first | (with_reducible assumption) | exact Len.rep | exact Len.set (by with_reducible assumption) | exact Len.set Len.rep | exact Len.set (Len.set Len.rep))); (case h => omega); (case hm => rfl)) | apply Pre.val))) | (apply AtP.skipI; (case hn => (first | (with_reducible assumption) | exact Len.rep | exact Len.set (by with_reducible assumption) | exact Len.set Len.rep | exact Len.set (Len.set Len.rep))); (case h => omega); (case ho => rfl)) | apply AtP.skipV))); refine put_move ?_; go_step)) | ((with_reducible apply gt9 _ (.store 31 _ _)); (refine wpl (by kernel_rfl) ?_; apply wp_storePP hS 31 _ _ rfl _ rfl 17 (row_of rfl) _ _; (case hp => exact pl9); (case hy => rfl); (case hn => (repeat (first | exact Pre.nil | (apply Pre.ints; (case hn => (first | (with_reducible assumption) | exact Len.rep | exact Len.set (by with_reducible assumption) | exact Len.set Len.rep | exact Len.set (Len.set Len.rep))); (case h => omega); (case hm => rfl)) | apply Pre.val))); (case hn' => (repeat (first | exact Pre.nil | (apply Pre.ints; (case hn => (first | (with_reducible assumption) | exact Len.rep | exact Len.set (by with_reducible assumption) | exact Len.set Len.rep | exact Len.set (Len.set Len.rep))); (case h => omega); (case hm => rfl)) | apply Pre.val))); (case hv => rfl); (case hd => exact rfl); clear hS; intro w hS)) | ((fail_if_success with_reducible apply ga9); go_step))
                  refine ret_all (xs := [_, _]) rfl (.cons (OneRes.prt hS rfl (row_of (n := 17) rfl) pl9 (by (repeat (first | exact Pre.nil | (apply Pre.ints; (case hn => (first | (with_reducible assumption) | exact Len.rep | exact Len.set (by with_reducible assumption) | exact Len.set Len.rep | exact Len.set (Len.set Len.rep))); (case h => omega); (case hm => rfl)) | apply Pre.val)))) (.cons (OneRes.tmp rfl) (.nil))) (by simp) rfl ?_
                  exact ⟨f, G2.map gpM, C, S, ao, co, HR2.out, HFF.out, hC, HCF.out, HSE.out, by rw [← hls]; rfl, by rw [← hls]; exact hS.sub sb9⟩
end Go.Proofs.YtehbjhocgnfpmaaDoor

/- What best.Make's table is: valid, with words of the lengths that packages gave; and what any table costs. -/
namespace Go.Proofs.YtehbjhocgnfpmaaDoor
set_option linter.unusedVariables false
/-- Symbols that come. -/
def posL (c : List Int) (n : Nat) : List Int := ((List.range n).filter fun s => decide (0 < nth c s)).map fun (s : Nat) => (s : Int)
def wOf (c : List Int) (s : Int) : Int := if s = -1 then 0 else nth c s.toNat
theorem posL_mem (c : List Int) (n : Nat) (s : Int) : s ∈ posL c n ↔ 0 ≤ s ∧ s < n ∧ 0 < nth c s.toNat := by
  unfold posL
  simp only [List.mem_map, List.mem_filter, List.mem_range, decide_eq_true_eq]
  constructor
  · rintro ⟨a, ⟨h1, h2⟩, rfl⟩; exact ⟨by omega, by omega, by simpa using h2⟩
  · intro ⟨h1, h2, h3⟩; exact ⟨s.toNat, ⟨by omega, h3⟩, by omega⟩
theorem posL_nodup (c : List Int) (n : Nat) : (posL c n).Nodup := by
  unfold posL
  rw [List.nodup_iff_pairwise_ne, List.pairwise_map]
  refine List.Pairwise.imp ?_ (List.Pairwise.filter _ List.nodup_range)
  intro a b h e
  exact h (by omega)
theorem sgs_sing (c : List Int) (n : Nat) : Sing (sgs c n) (-1 :: posL c n) := by
  refine ⟨?_, List.nodup_cons.2 ⟨fun h => by have := (posL_mem c n _).1 h; omega, posL_nodup c n⟩⟩
  unfold sgs posL
  simp [List.map_map, Function.comp_def]
theorem sgs_w (c : List Int) (n : Nat) : ∀ x ∈ sgs c n, x.1 = isum (wOf c) x.2 := by
  intro x hx
  rcases List.mem_cons.1 hx with rfl | hx
  · simp [isum, wOf]
  · obtain ⟨s, _, rfl⟩ := List.mem_map.1 hx
    simp only [isum, List.map_cons, List.map_nil, List.sum_cons, List.sum_nil, wOf]
    rw [if_neg (by omega)]; simp
/-- Sums over the rows of words. -/
theorem nx_sum (c : Nat → Nat) : ∀ k, k ≤ 16 → nx c k * 2 ^ (16 - k) = sm (fun i => c i * 2 ^ (15 - i)) k
  | 0, _ => by simp [nx, sm]
  | k + 1, h => by
    have ih := nx_sum c k (by omega)
    rw [sm, ← ih, nx, Nat.add_mul, show 16 - k = (16 - (k + 1)) + 1 by omega, show 16 - (k + 1) = 15 - k by omega, Nat.pow_succ]
    rw [Nat.mul_comm 2 (nx c k), Nat.mul_assoc, Nat.mul_comm 2 (2 ^ (15 - k))]
theorem sm_addf (a b : Nat → Nat) : ∀ k, sm (fun i => a i + b i) k = sm a k + sm b k
  | 0 => rfl
  | k + 1 => by simp only [sm]; rw [sm_addf a b k]; omega
theorem sm_congrf {a b : Nat → Nat} : ∀ k, (∀ i, i < k → a i = b i) → sm a k = sm b k
  | 0, _ => rfl
  | k + 1, h => by simp only [sm]; rw [sm_congrf k fun i hi => h i (by omega), h k (by omega)]
def bit16 (l : Nat) : Nat := if 1 ≤ l then 2 ^ (16 - l) else 0
theorem one_row (l : Nat) (h : l ≤ 16) : sm (fun i => (if l = i + 1 then 1 else 0) * 2 ^ (15 - i)) 16 = bit16 l := by
  have : ∀ l, l < 17 → sm (fun i => (if l = i + 1 then 1 else 0) * 2 ^ (15 - i)) 16 = bit16 l := by decide
  exact this l (by omega)
theorem rows_sum (f : Int → Nat) (hf : ∀ s, f s ≤ 16) : ∀ n, sm (fun i => (symsK f n (i + 1)).length * 2 ^ (15 - i)) 16 = nsum (fun s : Nat => bit16 (f (s : Int))) (List.range n)
  | 0 => by simp [symsK, nsum]; decide
  | n + 1 => by
    rw [List.range_succ, nsum_append, ← rows_sum f hf n]
    have : nsum (fun s : Nat => bit16 (f (s : Int))) [n] = bit16 (f (n : Int)) := by simp [nsum]
    rw [this, ← one_row _ (hf _), ← sm_addf]
    refine sm_congrf 16 fun i hi => ?_
    rw [symsK_succ, ← Nat.add_mul]
    by_cases h : f (n : Int) = i + 1
    · rw [if_pos h, if_pos h, List.length_append]; rfl
    · rw [if_neg h, if_neg h]; rfl
theorem nsum_map {α β : Type} (g : α → β) (f : β → Nat) (l : List α) : nsum f (l.map g) = nsum (fun x => f (g x)) l := by
  unfold nsum; rw [List.map_map]; rfl
theorem isum_map {α β : Type} (g : α → β) (f : β → Int) (l : List α) : isum f (l.map g) = isum (fun x => f (g x)) l := by
  unfold isum; rw [List.map_map]; rfl
theorem nsum_filter {α : Type} (p : α → Bool) (f : α → Nat) (l : List α) (h : ∀ x ∈ l, p x = false → f x = 0) : nsum f (l.filter p) = nsum f l := by
  induction l with
  | nil => rfl
  | cons x l ih =>
    have ih := ih fun y hy => h y (by simp [hy])
    rw [List.filter_cons]
    by_cases hp : p x = true
    · rw [if_pos hp, nsum_cons, nsum_cons, ih]
    · rw [if_neg hp, nsum_cons, ih, h x (by simp) (by simpa using hp), Nat.zero_add]
theorem isum_filter {α : Type} (p : α → Bool) (f : α → Int) (l : List α) (h : ∀ x ∈ l, p x = false → f x = 0) : isum f (l.filter p) = isum f l := by
  induction l with
  | nil => rfl
  | cons x l ih =>
    have ih := ih fun y hy => h y (by simp [hy])
    rw [List.filter_cons]
    by_cases hp : p x = true
    · rw [if_pos hp, isum_cons, isum_cons, ih]
    · rw [if_neg hp, isum_cons, ih, h x (by simp) (by simpa using hp), Int.zero_add]
/-- What counts cost by these lengths. -/
def costL (c : List Int) (n : Nat) (l : Int → Nat) : Int := isum (fun s : Nat => nth c s * (l (s : Int) : Nat)) (List.range n)
/-- Lengths that words may have for these counts. -/
structure LenOk (c : List Int) (n : Nat) (l : Int → Nat) : Prop where
  top : ∀ s ∈ posL c n, 1 ≤ l s ∧ l s ≤ 16
  kraft : nsum (fun s => 2 ^ (16 - l s)) (posL c n) < 2 ^ 16
theorem costL_pos (c : List Int) (n : Nat) (l : Int → Nat) (h0 : ∀ i, i < n → 0 ≤ nth c i) : isum (fun s => wOf c s * (l s : Nat)) (posL c n) = costL c n l := by
  unfold posL costL
  rw [isum_map, isum_congr _ (fun s : Nat => nth c s * (l (s : Int) : Nat)) _ fun s _ => ?_]
  · refine isum_filter _ _ _ fun x hx hp => ?_
    have := h0 x (List.mem_range.1 hx)
    have h1 : ¬ 0 < nth c x := by simpa using hp
    rw [show nth c x = 0 by omega, Int.zero_mul]
  · unfold wOf; rw [if_neg (by omega)]; simp
/-- WHAT MAKE GIVES: lengths that may be, of the least cost. -/
theorem made_law {c : List Int} {n : Nat} {R : List Pk} (hn : n ≤ 256) (h0 : ∀ i, i < n → 0 ≤ nth c i) (hR : RowK (sgs c n) 16 R) (f : Int → Nat) (hf : f = lng (R.take (2 * (sgs c n).length - 2))) :
    (∀ s, f s ≤ 16) ∧ (∀ s, s ∉ posL c n → 0 ≤ s → f s = 0) ∧ LenOk c n f ∧ (∀ l, LenOk c n l → costL c n f ≤ costL c n l) ∧ (∀ a b, a ∈ posL c n → b ∈ posL c n → nth c b.toNat < nth c a.toNat → f a ≤ f b) := by
  have hS := sgs_sing c n
  have hlen := hS.len
  have hpl : (posL c n).length ≤ n := by
    unfold posL
    have := List.length_filter_le (fun s => decide (0 < nth c s)) (List.range n)
    simp at this ⊢; exact this
  have hw0 : ∀ s ∈ (-1 :: posL c n), 0 ≤ wOf c s := fun s hs => by
    rcases List.mem_cons.1 hs with rfl | hs
    · simp [wOf]
    · have := (posL_mem c n s).1 hs
      unfold wOf; rw [if_neg (by omega)]; omega
  obtain ⟨_, b1, b2, b3, b4, b5⟩ := best_spec hS (wOf c) (sgs_w c n) hw0 (by simp) (by simp; omega) hR
  rw [← hlen, ← hf] at b1 b2 b3 b4 b5
  have hpos : ∀ s ∈ posL c n, 1 ≤ f s := fun s hs => kraft_pos b3 (List.mem_cons_of_mem _ hs) (List.mem_cons_self (a := -1)) (by have := (posL_mem c n s).1 hs; omega)
  rw [nsum_cons] at b3
  have hone : 1 ≤ 2 ^ (16 - f (-1)) := Nat.one_le_two_pow
  refine ⟨b1, fun s hs hs0 => b2 s (by simp only [List.mem_cons, not_or]; exact ⟨by omega, hs⟩), ⟨fun s hs => ⟨hpos s hs, b1 s⟩, by omega⟩, fun l hl => ?_, fun a b ha hb hab => ?_⟩
  · have hb4 := b4 (fun s => if s = -1 then 16 else l s) (fun s hs => by
      show (if s = -1 then 16 else l s) ≤ 16
      rcases List.mem_cons.1 hs with rfl | hs
      · simp
      · have := (posL_mem c n s).1 hs
        rw [if_neg (by omega)]; exact (hl.top s hs).2) (by
      rw [nsum_cons]
      have := hl.kraft
      have e : nsum (fun s => 2 ^ (16 - (if s = -1 then 16 else l s))) (posL c n) = nsum (fun s => 2 ^ (16 - l s)) (posL c n) := nsum_congr _ _ _ fun s hs => by
        have := (posL_mem c n s).1 hs
        rw [if_neg (by omega)]
      rw [e]; simp; simp at this; omega)
    rw [isum_cons, isum_cons] at hb4
    have z : ∀ x : Int, wOf c (-1) * x = 0 := fun x => by simp [wOf]
    rw [z, z, costL_pos c n f h0] at hb4
    have e : isum (fun s => wOf c s * ((if s = -1 then 16 else l s : Nat) : Int)) (posL c n) = isum (fun s => wOf c s * (l s : Nat)) (posL c n) := isum_congr _ _ _ fun s hs => by
      have := (posL_mem c n s).1 hs
      rw [if_neg (by omega)]
    rw [e, costL_pos c n l h0] at hb4
    omega
  · have h1 := (posL_mem c n a).1 ha
    have h2 := (posL_mem c n b).1 hb
    exact b5 a b (List.mem_cons_of_mem _ hb) (by unfold wOf; rw [if_neg (by omega), if_neg (by omega)]; exact hab)
end Go.Proofs.YtehbjhocgnfpmaaDoor

/- best.Make's table is valid, its words have the lengths that packages gave; the lengths of any valid table. -/
namespace Go.Proofs.YtehbjhocgnfpmaaDoor
set_option linter.unusedVariables false
theorem nx_congr {a b : Nat → Nat} : ∀ k, (∀ i, i < k → a i = b i) → nx a k = nx b k
  | 0, _ => rfl
  | k + 1, h => by rw [nx, nx, nx_congr k fun i hi => h i (by omega), h k (by omega)]
theorem cds_congr {a b : Nat → Nat} : ∀ k, (∀ i, i < k → a i = b i) → cds a k = cds b k
  | 0, _ => rfl
  | k + 1, h => by rw [cds, cds, cds_congr k fun i hi => h i (by omega), h k (by omega), nx_congr k fun i hi => h i (by omega)]
theorem one_row1 (l : Nat) (h : l ≤ 16) : sm (fun i => if l = i + 1 then 1 else 0) 16 = if 1 ≤ l then 1 else 0 := by
  have : ∀ l, l < 17 → sm (fun i => if l = i + 1 then 1 else 0) 16 = if 1 ≤ l then 1 else 0 := by decide
  exact this l (by omega)
theorem rows_len (f : Int → Nat) (hf : ∀ s, f s ≤ 16) : ∀ n, sm (fun i => (symsK f n (i + 1)).length) 16 = nsum (fun s : Nat => if 1 ≤ f (s : Int) then 1 else 0) (List.range n)
  | 0 => by simp [symsK, nsum]; decide
  | n + 1 => by
    rw [List.range_succ, nsum_append, ← rows_len f hf n]
    have : nsum (fun s : Nat => if 1 ≤ f (s : Int) then 1 else 0) [n] = if 1 ≤ f (n : Int) then 1 else 0 := by simp [nsum]
    rw [this, ← one_row1 _ (hf _), ← sm_addf]
    refine sm_congrf 16 fun i hi => ?_
    rw [symsK_succ]
    by_cases h : f (n : Int) = i + 1
    · rw [if_pos h, if_pos h, List.length_append]; rfl
    · rw [if_neg h, if_neg h]; rfl
theorem symsTo_sm (f : Int → Nat) (n : Nat) : ∀ k, (symsTo f n k).length = sm (fun i => (symsK f n (i + 1)).length) k
  | 0 => rfl
  | k + 1 => by rw [symsTo_succ, List.length_append, symsTo_sm f n k, sm]
theorem symsK_mem (f : Int → Nat) (n k : Nat) (s : Int) : s ∈ symsK f n k ↔ 0 ≤ s ∧ s < n ∧ f s = k := by
  unfold symsK
  simp only [List.mem_map, List.mem_filter, List.mem_range, decide_eq_true_eq]
  constructor
  · rintro ⟨a, ⟨h1, h2⟩, rfl⟩; exact ⟨by omega, by omega, h2⟩
  · intro ⟨h1, h2, h3⟩; exact ⟨s.toNat, ⟨by omega, by rw [Int.toNat_of_nonneg h1]; exact h3⟩, by omega⟩
theorem symsK_nodup (f : Int → Nat) (n k : Nat) : (symsK f n k).Nodup := by
  unfold symsK
  rw [List.nodup_iff_pairwise_ne, List.pairwise_map]
  refine List.Pairwise.imp ?_ (List.Pairwise.filter _ List.nodup_range)
  intro a b h e
  exact h (by omega)
theorem symsTo_mem (f : Int → Nat) (n : Nat) (s : Int) : ∀ k, s ∈ symsTo f n k ↔ 0 ≤ s ∧ s < n ∧ 1 ≤ f s ∧ f s ≤ k
  | 0 => by simp [symsTo]; intro _ _ _; omega
  | k + 1 => by
    rw [symsTo_succ, List.mem_append, symsTo_mem f n s k, symsK_mem]
    constructor
    · rintro (h | h) <;> omega
    · intro h
      by_cases e : f s = k + 1
      · right; omega
      · left; omega
theorem symsTo_nodup (f : Int → Nat) (n : Nat) : ∀ k, (symsTo f n k).Nodup
  | 0 => by simp [symsTo]
  | k + 1 => by
    rw [symsTo_succ, List.nodup_append]
    refine ⟨symsTo_nodup f n k, symsK_nodup f n (k + 1), fun a ha b hb e => ?_⟩
    subst e
    have h1 := (symsTo_mem f n a k).1 ha
    have h2 := (symsK_mem f n (k + 1) a).1 hb
    omega
theorem zip_words (f : Int → Nat) (n : Nat) : ∀ k, ∀ x ∈ (symsTo f n k).zip (cds (fun i => (symsK f n (i + 1)).length) k), x.2.1 = f x.1
  | 0, x, h => by simp [symsTo] at h
  | k + 1, x, h => by
    rw [symsTo_succ, cds, List.zip_append (by rw [symsTo_sm, cds_len])] at h
    rcases List.mem_append.1 h with h | h
    · exact zip_words f n k x h
    · have h1 := (List.of_mem_zip (a := x.1) (b := x.2) h)
      obtain ⟨j, _, e⟩ := List.mem_map.1 h1.2
      have h2 := (symsK_mem f n (k + 1) x.1).1 h1.1
      rw [h2.2.2, ← e]
/-- The length of a symbol's word; 0 if it has none. -/
def lw (L : List (Int × Nat × Nat)) (s : Int) : Nat := match symW L s with
  | some x => x.1
  | none => 0
theorem wds_fst {C S : List Int} (h : sm (cc C) 16 = S.length) : (wds C S).map (·.1) = S := by
  unfold wds
  exact List.map_fst_zip (by rw [cds_len, h]; exact Nat.le_refl _)
theorem wds_snd {C S : List Int} (h : sm (cc C) 16 = S.length) : (wds C S).map (·.2) = cds (cc C) 16 := by
  unfold wds
  exact List.map_snd_zip (by rw [cds_len, h]; exact Nat.le_refl _)
theorem lw_mem {C S : List Int} (h : tabE C S = 0) {x : Int × Nat × Nat} (hx : x ∈ wds C S) : symW (wds C S) x.1 = some x.2 ∧ lw (wds C S) x.1 = x.2.1 := by
  have := (wds_good h).symW hx
  exact ⟨this, by unfold lw; rw [this]⟩
theorem lw_in {C S : List Int} (h : tabE C S = 0) {s : Int} (hs : s ∈ S) : ∃ x ∈ wds C S, x.1 = s := by
  have h2 := (tabE_ok h).2.1
  rw [← wds_fst h2] at hs
  obtain ⟨x, hx, e⟩ := List.mem_map.1 hs
  exact ⟨x, hx, e⟩
theorem lw_pos {C S : List Int} (h : tabE C S = 0) (s : Int) : (s ∈ S → 1 ≤ lw (wds C S) s ∧ lw (wds C S) s ≤ 16) ∧ (s ∉ S → lw (wds C S) s = 0) := by
  constructor
  · intro hs
    obtain ⟨x, hx, rfl⟩ := lw_in h hs
    rw [(lw_mem h hx).2]
    have := (wds_good h).long x hx
    omega
  · intro hs
    unfold lw
    cases e : symW (wds C S) s with
    | none => rfl
    | some y => exact absurd (wds_mem C S _ (symW_mem e)).1 hs
theorem made_table {c C S : List Int} {n : Nat} {f : Int → Nat} (hn : n ≤ 256) (h16 : ∀ s, f s ≤ 16) (hz : ∀ s, s ∉ posL c n → 0 ≤ s → f s = 0) (hl : LenOk c n f) (hC : ∀ i, i < 16 → nth C i = ((symsK f n (i + 1)).length : Nat)) (hS : S = symsTo f n 16) :
    tabE C S = 0 ∧ (∀ s : Int, 0 ≤ s → s < n → lw (wds C S) s = f s) ∧ S.length = (posL c n).length ∧ (∀ s, s ∈ S ↔ s ∈ posL c n) := by
  have hcc : ∀ i, i < 16 → cc C i = (symsK f n (i + 1)).length := fun i hi => by unfold cc; rw [hC i hi]; simp
  have hmem : ∀ s, s ∈ S ↔ s ∈ posL c n := fun s => by
    rw [hS, symsTo_mem]
    constructor
    · intro h
      by_cases hp : s ∈ posL c n
      · exact hp
      · have := hz s hp h.1; omega
    · intro h
      have h1 := (posL_mem c n s).1 h
      have h2 := hl.top s h
      exact ⟨h1.1, h1.2.1, h2.1, h2.2⟩
  have hsm : sm (cc C) 16 = S.length := by rw [hS, symsTo_sm, sm_congrf 16 hcc]
  have hlen : S.length = (posL c n).length := by
    rw [hS, symsTo_sm, rows_len f h16]
    unfold posL
    rw [List.length_map, ← nsum_one]
    refine nsum_congr _ _ _ fun s hs => ?_
    by_cases hp : (s : Int) ∈ posL c n
    · have h1 := (posL_mem c n s).1 hp
      rw [if_pos (hl.top _ hp).1, if_pos (by simpa using h1.2.2)]
    · have h1 : ¬ 0 < nth c s := fun h => hp ((posL_mem c n s).2 ⟨by omega, by simp at hs; omega, by simpa using h⟩)
      rw [if_neg (by rw [hz _ hp (by omega)]; omega), if_neg (by simpa using h1)]
  have hpl : (posL c n).length ≤ n := by
    unfold posL
    have := List.length_filter_le (fun s => decide (0 < nth c s)) (List.range n)
    simp at this ⊢; exact this
  have hnx : nx (cc C) 16 < 65536 := by
    have h1 := nx_sum (fun i => (symsK f n (i + 1)).length) 16 (by omega)
    rw [rows_sum f h16] at h1
    rw [nx_congr 16 hcc]
    have h2 : nsum (fun s : Nat => bit16 (f (s : Int))) (List.range n) = nsum (fun s => 2 ^ (16 - f s)) (posL c n) := by
      unfold posL
      rw [nsum_map, ← nsum_filter (fun s => decide (0 < nth c s)) (fun s : Nat => bit16 (f (s : Int))) (List.range n) fun s hs hp => ?_]
      · refine nsum_congr _ _ _ fun s hs => ?_
        have h3 := List.mem_filter.1 hs
        have hp : (s : Int) ∈ posL c n := (posL_mem c n s).2 ⟨by omega, by have := h3.1; simp at this; omega, by simpa using h3.2⟩
        unfold bit16; rw [if_pos (hl.top _ hp).1]
      · have hp2 : (s : Int) ∉ posL c n := fun h => by have := ((posL_mem c n s).1 h).2.2; simp at this hp; omega
        unfold bit16; rw [hz _ hp2 (by omega)]; rfl
    rw [h2] at h1
    have := hl.kraft
    simp at h1 this
    omega
  have htab : tabE C S = 0 := by
    refine tabE_of ((totOk_iff C).2 ⟨fun k hk => ?_, by omega⟩) hsm (fun s hs => ?_) (by rw [hS]; exact symsTo_nodup f n 16) ((roomy_iff _).2 hnx)
    · have := symsK_len f n (k + 1)
      rw [hC k hk]; omega
    · have := (posL_mem c n s).1 ((hmem s).1 hs); omega
  refine ⟨htab, fun s h0 h1 => ?_, hlen, hmem⟩
  by_cases hs : s ∈ S
  · obtain ⟨x, hx, rfl⟩ := lw_in htab hs
    rw [(lw_mem htab hx).2]
    refine zip_words f n 16 x ?_
    unfold wds at hx
    rw [hS, cds_congr 16 hcc] at hx
    exact hx
  · rw [(lw_pos htab s).2 hs, hz s (fun h => hs ((hmem s).2 h)) h0]
theorem nsum_sub {α : Type} [DecidableEq α] (f : α → Nat) : ∀ (A B : List α), A.Nodup → (∀ a ∈ A, a ∈ B) → nsum f A ≤ nsum f B
  | [], B, _, _ => by simp [nsum]
  | a :: A, B, hn, h => by
    obtain ⟨h1, h2⟩ := List.nodup_cons.1 hn
    have p := List.perm_cons_erase (h a (by simp))
    rw [nsum_perm f p, nsum_cons, nsum_cons]
    have := nsum_sub f A (B.erase a) h2 fun x hx => (List.mem_erase_of_ne (fun e => h1 (by rw [← e]; exact hx))).2 (h x (by simp [hx]))
    omega
theorem cds_sum (c : Nat → Nat) : ∀ k, k ≤ 16 → nsum (fun x => 2 ^ (16 - x.1)) (cds c k) = nx c k * 2 ^ (16 - k)
  | 0, _ => by simp [cds, nsum, nx]
  | k + 1, h => by
    rw [nx_sum c (k + 1) h, sm, ← nx_sum c k (by omega), ← cds_sum c k (by omega), cds, nsum_append, nsum_map]
    refine congrArg (_ + ·) ?_
    have : ∀ m, nsum (fun _ : Nat => 2 ^ (16 - (k + 1))) (List.range m) = m * 2 ^ (15 - k) := fun m => by
      have := nsum_mul (fun _ : Nat => 1) (2 ^ (15 - k)) (List.range m)
      simp only [Nat.one_mul] at this
      rw [show 16 - (k + 1) = 15 - k by omega, this, nsum_const, List.length_range]
    exact this (c k)
/-- The lengths of a valid table that has a word for all that comes. -/
theorem table_len {C S : List Int} (h : tabE C S = 0) (c : List Int) (n : Nat) (hall : ∀ s ∈ posL c n, s ∈ S) : LenOk c n (lw (wds C S)) := by
  obtain ⟨h1, h2, h3, h4, h5, h6⟩ := tabE_ok h
  refine ⟨fun s hs => (lw_pos h s).1 (hall s hs), ?_⟩
  have a1 := nsum_sub (fun s => 2 ^ (16 - lw (wds C S) s)) (posL c n) S (posL_nodup c n) hall
  have a2 : nsum (fun s => 2 ^ (16 - lw (wds C S) s)) S = nsum (fun x => 2 ^ (16 - x.2.1)) (wds C S) := by
    have e1 := nsum_map (fun x : Int × Nat × Nat => x.1) (fun s => 2 ^ (16 - lw (wds C S) s)) (wds C S)
    rw [wds_fst h2] at e1
    rw [e1]
    exact nsum_congr _ _ _ fun x hx => by rw [(lw_mem h hx).2]
  have a3 : nsum (fun x : Int × Nat × Nat => 2 ^ (16 - x.2.1)) (wds C S) = nsum (fun x => 2 ^ (16 - x.1)) (cds (cc C) 16) := by
    rw [← wds_snd h2, nsum_map]
  have a4 := cds_sum (cc C) 16 (Nat.le_refl _)
  have a5 := (roomy_iff _).1 h6
  simp at a4
  have : (2 : Nat) ^ 16 = 65536 := by decide
  omega
end Go.Proofs.YtehbjhocgnfpmaaDoor

/- The walk of best.Cost. -/
namespace Go.Proofs.YtehbjhocgnfpmaaDoor
set_option maxRecDepth 100000
open Go.RowKit
set_option linter.unusedVariables false
end Go.Proofs.YtehbjhocgnfpmaaDoor

/- What best.Make gives, in one record; its refusals; the closed fact. -/
namespace Go.Proofs.YtehbjhocgnfpmaaDoor
set_option maxRecDepth 100000
open Go.RowKit
set_option linter.unusedVariables false
/-- (C, S) is the table that Make gives for these counts. -/
structure Mk (c : List Int) (n : Nat) (C S : List Int) : Prop where
  len : Len C 16
  ok : tabE C S = 0
  mem : ∀ s, s ∈ S ↔ s ∈ posL c n
  slen : S.length = (posL c n).length
  best : ∀ l, LenOk c n l → costL c n (lw (wds C S)) ≤ costL c n l
  order : ∀ a b, a ∈ posL c n → b ∈ posL c n → nth c b.toNat < nth c a.toNat → lw (wds C S) a ≤ lw (wds C S) b
  lens : LenOk c n (lw (wds C S))
theorem costL_congr (c : List Int) (n : Nat) (f g : Int → Nat) (h : ∀ s : Int, 0 ≤ s → s < n → f s = g s) : costL c n f = costL c n g := by
  unfold costL
  refine isum_congr _ _ _ fun s hs => ?_
  rw [h s (by omega) (by have := List.mem_range.1 hs; omega)]
theorem bE_ok {c : List Int} (h : bE c = 0) : c.length ≤ 256 ∧ ∀ i, i < c.length → 0 ≤ nth c i ∧ nth c i ≤ 9999 := by
  unfold bE at h
  by_cases h1 : 256 < c.length
  · rw [if_pos h1] at h; cases h
  · rw [if_neg h1] at h
    by_cases h2 : allIn c 0 9999 = true
    · exact ⟨by omega, (allIn_iff c 0 9999).1 h2⟩
    · rw [if_neg h2] at h; cases h
theorem make_good (w0 : World) (c : List Int) (ad : Option Addr) (n cap : Nat) (hv : Sl w0 1 (.slice ad n cap) n (c.map (Value.int .i64))) (hn : n ≤ 9223372036854775807) (hok : bE c = 0) :
    Calls Tryd.prog 47 #[.slice ad n cap] w0 fun e w => ∃ (C S : List Int) (ao : Option Addr) (co : Nat), Mk c n C S ∧ e = .returned (.tuple #[tv C (.slice ao S.length co), .int .i64 0]) ∧ St w0 w [own 3 1 ao S.length co (S.map (Value.int .i64))] := by
  refine (make_any w0 c ad n cap hv hn hok).mono ?_
  rintro e w ⟨f, R, C, S, ao, co, hR, hf, hC, hCi, hSy, rfl, hS⟩
  have hcl : c.length = n := by have := hv.1; simpa using this
  obtain ⟨b1, b2⟩ := bE_ok hok
  rw [hcl] at b1 b2
  obtain ⟨m1, m2, m3, m4, m5⟩ := made_law b1 (fun i hi => (b2 i hi).1) hR f hf
  obtain ⟨t1, t2, t3, t4⟩ := made_table b1 m1 m2 m3 hCi hSy
  have hin : ∀ s ∈ posL c n, 0 ≤ s ∧ s < n := fun s hs => by have := (posL_mem c n s).1 hs; exact ⟨this.1, this.2.1⟩
  have hcost : costL c n (lw (wds C S)) = costL c n f := costL_congr _ _ _ _ t2
  refine ⟨C, S, ao, co, ⟨hC, t1, t4, t3, fun l hl => by rw [hcost]; exact m4 l hl, fun a b ha hb h => ?_, table_len t1 c n fun s hs => (t4 s).2 hs⟩, rfl, hS⟩
  rw [t2 a (hin a ha).1 (hin a ha).2, t2 b (hin b hb).1 (hin b hb).2]
  exact m5 a b ha hb h
theorem build_tab0 (w : World) : (Instr.build 31 #[]).run Tryd.prog w = .ok (tv (List.replicate 16 0) (.slice none 0 0)) w := by kernel_rfl
set_option maxRecDepth 100000 in
set_option maxHeartbeats 4000000 in
theorem make_bad (w0 : World) (c : List Int) (ad : Option Addr) (n cap : Nat) (hv : Sl w0 1 (.slice ad n cap) n (c.map (Value.int .i64))) (hn : n ≤ 9223372036854775807) (hbad : bE c ≠ 0) :
    Calls Tryd.prog 47 #[.slice ad n cap] w0 fun e w => e = .returned (.tuple #[tv (List.replicate 16 0) (.slice none 0 0), .int .i64 (bE c)]) ∧ Ext w0 w := by
  have hS := St.start w0
  have HCK := hid (fun (w : World) (hE : Ext w0 w) => bcheck_any w c ad n cap (hv.ext hE) hn)
  obtain ⟨B, hB⟩ : ∃ B, bE c = B := ⟨_, rfl⟩
  rw [hB] at HCK hbad ⊢
  clear hB
  go_enter Tryd.func47, Tryd.ntmps47
  repeat' (first
    | ((with_reducible apply gt9 _ (.call ⟨.value (.func 45), _, _⟩)); refine wpl_call (f := 45) Tryd.call45 (by kernel_rfl) ?_; refine ⟨_, (HCK.out _ hS.1), ?_⟩; rintro e w ⟨rfl, hE2⟩; replace hS := hS.ext hE2; clear hE2; refine ⟨_, rfl, ?_⟩; refine put_move ?_; go_step) | ((with_reducible apply gt9 _ (.move _)); (first | go_big_want | go_step); go_step) | ((with_reducible apply gt9 _ (.assign _)); (first | go_big_want | go_step); go_step) | ((with_reducible apply gt9 (some 22) (.binOp .neq 25 _ _ _)); (refine wvv9 (V.neq rfl rfl) ?_; go_step)) | ((with_reducible apply gt9 (some 2) (.alloc 31)); (refine wpl (by kernel_rfl) ?_; apply wp_allocP (o := ⟨some 2, _, _, _, _, _⟩) hS 31 rfl _ zp31; clear hS; intro g2 w hS; refine put_move ?_; go_step)) | ((fail_if_success with_reducible apply ga9); go_step))
  repeat' (first
    | ((with_reducible apply gt9 (some 23) _); refine wvv9 (V.build (vs := []) rfl build_tab0) ?_; go_step) | ((with_reducible apply gt9 _ (.move _)); (first | go_big_want | go_step); go_step) | ((with_reducible apply gt9 _ (.assign _)); (first | go_big_want | go_step); go_step) | ((with_reducible apply gt9 _ (.store 31 _ _)); (refine wpl (by kernel_rfl) ?_; apply wp_storePP hS 31 _ _ rfl _ rfl 17 (row_of rfl) _ _; (case hp => exact pl9); (case hy => rfl); (case hn => (repeat (first | exact Pre.nil | (apply Pre.ints; (case hn => (first | (with_reducible assumption) | exact Len.rep | exact Len.set (by with_reducible assumption) | exact Len.set Len.rep | exact Len.set (Len.set Len.rep))); (case h => omega); (case hm => rfl)) | apply Pre.val))); (case hn' => (repeat (first | exact Pre.nil | (apply Pre.ints; (case hn => (first | (with_reducible assumption) | exact Len.rep | exact Len.set (by with_reducible assumption) | exact Len.set Len.rep | exact Len.set (Len.set Len.rep))); (case h => omega); (case hm => rfl)) | apply Pre.val))); (case hv => rfl); (case hd => exact rfl); clear hS; intro w hS)) | ((fail_if_success with_reducible apply ga9); go_step))
  refine ret_all (xs := [_, _]) rfl (.cons (OneRes.prt hS rfl (row_of (n := 17) rfl) pl9 (by (repeat (first | exact Pre.nil | (apply Pre.ints; (case hn => (first | (with_reducible assumption) | exact Len.rep | exact Len.set (by with_reducible assumption) | exact Len.set Len.rep | exact Len.set (Len.set Len.rep))); (case h => omega); (case hm => rfl)) | apply Pre.val)))) (.cons (OneRes.tmp rfl) (.nil))) (by simp) rfl ?_
  exact ⟨rfl, hS.1⟩
/-- The table of a refusal. -/
theorem zero_len : Len (List.replicate 16 (0 : Int)) 16 := List.length_replicate
theorem zero_tab : tabE (List.replicate 16 0) [] = 0 := by decide
end Go.Proofs.YtehbjhocgnfpmaaDoor

/- Costs of the shortest words, compared; the walk of made. -/
namespace Go.Proofs.YtehbjhocgnfpmaaDoor
set_option maxRecDepth 100000
open Go.RowKit
set_option linter.unusedVariables false
end Go.Proofs.YtehbjhocgnfpmaaDoor

/- best.Make, whatever comes. -/
namespace Go.Proofs.YtehbjhocgnfpmaaDoor
open Go.RowKit
set_option linter.unusedVariables false
theorem make_both (w0 : World) (c : List Int) (ad : Option Addr) (n cap : Nat) (hv : Sl w0 1 (.slice ad n cap) n (c.map (Value.int .i64))) (hn : n ≤ 9223372036854775807) :
    Calls Tryd.prog 47 #[.slice ad n cap] w0 fun e w => ∃ (C S : List Int) (ao : Option Addr) (m co : Nat), Len C 16 ∧ S.length = m ∧ m ≤ 256 ∧ tabE C S = 0 ∧ (bE c = 0 → Mk c n C S) ∧ e = .returned (.tuple #[tv C (.slice ao m co), .int .i64 (bE c)]) ∧ St w0 w [own 3 1 ao m co (S.map (Value.int .i64))] := by
  by_cases hb : bE c = 0
  · refine (make_good w0 c ad n cap hv hn hb).mono ?_
    rintro e w ⟨C, S, ao, co, hM, rfl, hS⟩
    exact ⟨C, S, ao, S.length, co, hM.len, rfl, (tabE_ok hM.ok).2.2.1, hM.ok, fun _ => hM, by rw [hb], hS⟩
  · refine (make_bad w0 c ad n cap hv hn hb).mono ?_
    rintro e w ⟨rfl, hE⟩
    exact ⟨_, [], none, 0, 0, zero_len, rfl, by omega, zero_tab, fun h => absurd h hb, rfl, (St.of_ext hE).nil _ _⟩
end Go.Proofs.YtehbjhocgnfpmaaDoor
