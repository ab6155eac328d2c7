/- Packages that are merged (best.Make): what their words' lengths are, in plain lists: KRAFT; no words of at most 16 bits cost less; what weighs more has no longer word. -/
import Derived.Test.YtembekkanggciaaBase
namespace Go.Proofs.Ytembekkanggciaa
set_option linter.unusedVariables false
/-- a pack: its weight, its symbols -/
abbrev Pk := Int × List Int
def wsum (l : List Pk) : Int := (l.map (·.1)).sum
def syl (l : List Pk) : List Int := l.flatMap (·.2)
theorem wsum_nil : wsum [] = 0 := rfl
theorem wsum_cons (x : Pk) (l : List Pk) : wsum (x :: l) = x.1 + wsum l := by simp [wsum]
theorem wsum_append (a b : List Pk) : wsum (a ++ b) = wsum a + wsum b := by simp [wsum]
theorem wsum_perm {a b : List Pk} (h : a.Perm b) : wsum a = wsum b := by
  induction h with
  | nil => rfl
  | cons x _ ih => simp [wsum_cons, ih]
  | swap x y l => simp only [wsum_cons]; omega
  | trans _ _ h1 h2 => rw [h1, h2]
theorem syl_cons (x : Pk) (l : List Pk) : syl (x :: l) = x.2 ++ syl l := by simp [syl]
theorem syl_append (a b : List Pk) : syl (a ++ b) = syl a ++ syl b := by simp [syl]
theorem syl_perm {a b : List Pk} (h : a.Perm b) : (syl a).Perm (syl b) := h.flatMap_right _
def Srt (l : List Pk) : Prop := l.Pairwise (fun a b => a.1 ≤ b.1)
def pjoin (p : Pk × Pk) : Pk := (p.1.1 + p.2.1, p.1.2 ++ p.2.2)
def prs : List Pk → List (Pk × Pk)
  | a :: b :: l => (a, b) :: prs l
  | _ => []
def unp (l : List (Pk × Pk)) : List Pk := l.flatMap fun p => [p.1, p.2]
def pkgs (l : List Pk) : List Pk := (prs l).map pjoin
theorem prs_unp : ∀ (l : List Pk), ∃ z, unp (prs l) ++ z = l ∧ z.length ≤ 1
  | [] => ⟨[], rfl, by simp⟩
  | [a] => ⟨[a], rfl, by simp⟩
  | a :: b :: l => by
    obtain ⟨z, h, hz⟩ := prs_unp l
    exact ⟨z, by simp [prs, unp] at h ⊢; exact h, hz⟩
theorem unp_len (l : List (Pk × Pk)) : (unp l).length = 2 * l.length := by
  induction l with
  | nil => rfl
  | cons x l ih => simp [unp] at ih ⊢; omega
theorem prs_len (l : List Pk) : (prs l).length = l.length / 2 := by
  obtain ⟨z, h, hz⟩ := prs_unp l
  have := congrArg List.length h
  rw [List.length_append, unp_len] at this
  omega
theorem pairs_len (l : List Pk) : (pkgs l).length = l.length / 2 := by simp [pkgs, prs_len]
theorem wsum_join (l : List (Pk × Pk)) : wsum (l.map pjoin) = wsum (unp l) := by
  induction l with
  | nil => rfl
  | cons x l ih => simp only [List.map_cons, wsum_cons, ih, pjoin, unp, List.flatMap_cons, List.cons_append, List.nil_append]; simp only [unp] at *; omega
theorem syl_join (l : List (Pk × Pk)) : syl (l.map pjoin) = syl (unp l) := by
  induction l with
  | nil => rfl
  | cons x l ih => simp only [List.map_cons, syl_cons, ih, pjoin, unp, List.flatMap_cons, List.cons_append, List.nil_append, List.append_assoc]
theorem perm_lift {α β : Type} (f : α → β) {L L0 : List β} (h : L.Perm L0) : ∀ M : List α, M.map f = L0 → ∃ M' : List α, M'.Perm M ∧ M'.map f = L := by
  induction h with
  | nil => intro M e; exact ⟨[], (by cases M with | nil => exact List.Perm.refl _ | cons => cases e), rfl⟩
  | cons x _ ih =>
    intro M e
    cases M with
    | nil => cases e
    | cons m M =>
      simp only [List.map_cons, List.cons.injEq] at e
      obtain ⟨M', h1, h2⟩ := ih M e.2
      exact ⟨m :: M', h1.cons m, by simp [e.1, h2]⟩
  | swap x y l =>
    intro M e
    match M, e with
    | m1 :: m2 :: M, e =>
      simp only [List.map_cons, List.cons.injEq] at e
      exact ⟨m2 :: m1 :: M, List.Perm.swap _ _ _, by simp [e.1, e.2.1, e.2.2]⟩
  | trans _ _ h1 h2 =>
    intro M e
    obtain ⟨M1, p1, e1⟩ := h2 M e
    obtain ⟨M2, p2, e2⟩ := h1 M1 e1
    exact ⟨M2, p2.trans p1, e2⟩
/-- X lies in R -/
def LiesIn (X R : List Pk) : Prop := ∃ Z, (X ++ Z).Perm R
theorem LiesIn.take (R : List Pk) (m : Nat) : LiesIn (R.take m) R := ⟨R.drop m, by rw [List.take_append_drop]⟩
theorem LiesIn.perm {X Y R : List Pk} (h : LiesIn X R) (p : X.Perm Y) : LiesIn Y R := by
  obtain ⟨Z, hz⟩ := h; exact ⟨Z, (p.symm.append_right Z).trans hz⟩
theorem LiesIn.right {X R Q : List Pk} (h : LiesIn X R) (p : R.Perm Q) : LiesIn X Q := by
  obtain ⟨Z, hz⟩ := h; exact ⟨Z, hz.trans p⟩
theorem LiesIn.app {X Y R Q : List Pk} (h : LiesIn X R) (k : LiesIn Y Q) : LiesIn (X ++ Y) (R ++ Q) := by
  obtain ⟨Z, hz⟩ := h; obtain ⟨U, hu⟩ := k
  refine ⟨Z ++ U, List.Perm.trans ?_ (hz.append hu)⟩
  rw [List.append_assoc, List.append_assoc]
  refine List.Perm.append_left X ?_
  rw [← List.append_assoc, ← List.append_assoc]
  exact List.Perm.append_right U List.perm_append_comm
theorem LiesIn.mem {X R : List Pk} (h : LiesIn X R) {x : Pk} (hx : x ∈ X) : x ∈ R := by
  obtain ⟨Z, hz⟩ := h; exact hz.mem_iff.1 (List.mem_append_left _ hx)
theorem LiesIn.len {X R : List Pk} (h : LiesIn X R) : X.length ≤ R.length := by
  obtain ⟨Z, hz⟩ := h; have := hz.length_eq; rw [List.length_append] at this; omega
/-- what lies among the packages comes of twice as many -/
theorem LiesIn.unpair {B R : List Pk} (h : LiesIn B (pkgs R)) : ∃ Y, LiesIn Y R ∧ Y.length = 2 * B.length ∧ syl Y = syl B ∧ wsum Y = wsum B ∧ ∃ B', B'.map pjoin = B ∧ Y = unp B' := by
  obtain ⟨Z, hz⟩ := h
  obtain ⟨M, hp, hm⟩ := perm_lift pjoin hz (prs R) rfl
  obtain ⟨B', Z', e, hb, hz'⟩ := List.map_eq_append_iff.1 hm
  obtain ⟨z, hu, _⟩ := prs_unp R
  refine ⟨unp B', ⟨unp Z' ++ z, ?_⟩, by rw [unp_len, ← hb, List.length_map], by rw [← hb, syl_join], by rw [← hb, wsum_join], B', hb, rfl⟩
  have h1 : (unp M).Perm (unp (prs R)) := hp.flatMap_right _
  have h2 : unp M = unp B' ++ unp Z' := by rw [e]; simp [unp]
  rw [← List.append_assoc, ← h2]
  conv => rhs; rw [← hu]
  exact h1.append_right z
/-- the lightest m weigh no more than any as many or more -/
theorem take_least : ∀ (R : List Pk), Srt R → (∀ x ∈ R, 0 ≤ x.1) → ∀ (X : List Pk) (m : Nat), LiesIn X R → m ≤ X.length → wsum (R.take m) ≤ wsum X := by
  have nn : ∀ X : List Pk, (∀ x ∈ X, 0 ≤ x.1) → 0 ≤ wsum X := fun X h => by
    induction X with
    | nil => simp [wsum]
    | cons x X ih => rw [wsum_cons]; have := h x (by simp); have := ih fun y hy => h y (by simp [hy]); omega
  intro R
  induction R with
  | nil =>
    intro _ _ X m hX _
    have : X = [] := by have := hX.len; exact List.eq_nil_of_length_eq_zero (by simpa using this)
    subst this; simp [wsum]
  | cons r R ih =>
    intro hs h0 X m hX hm
    cases m with
    | zero => simp only [List.take_zero, wsum_nil]; exact nn X fun x hx => h0 x (hX.mem hx)
    | succ m =>
      obtain ⟨hr, hs'⟩ := List.pairwise_cons.1 hs
      rw [List.take_succ_cons, wsum_cons]
      obtain ⟨Z, hz⟩ := hX
      have hrm : r ∈ X ++ Z := hz.mem_iff.2 (by simp)
      rcases List.mem_append.1 hrm with hx | hx
      · have p := List.perm_cons_erase hx
        have hz2 : (X.erase r ++ Z).Perm R := by
          have : (r :: (X.erase r ++ Z)).Perm (r :: R) := (p.symm.append_right Z).trans hz
          exact this.cons_inv
        have hl := p.length_eq
        rw [List.length_cons] at hl
        have := ih hs' (fun x hx => h0 x (by simp [hx])) (X.erase r) m ⟨Z, hz2⟩ (by omega)
        rw [wsum_perm p, wsum_cons]; omega
      · cases X with
        | nil => simp at hm
        | cons x X =>
          have p := List.perm_cons_erase hx
          have hz2 : (X ++ (x :: Z.erase r)).Perm R := by
            have h1 : (r :: (X ++ (x :: Z.erase r))).Perm (r :: R) := by
              refine List.Perm.trans ?_ hz
              have a1 : (X ++ x :: Z.erase r).Perm (x :: (X ++ Z.erase r)) := List.perm_middle
              have a2 : (r :: (X ++ x :: Z.erase r)).Perm (r :: x :: (X ++ Z.erase r)) := a1.cons r
              refine a2.trans ((List.Perm.swap x r _).trans ?_)
              refine List.Perm.cons x ?_
              have a3 : (r :: (X ++ Z.erase r)).Perm (X ++ r :: Z.erase r) := List.perm_middle.symm
              exact a3.trans (List.Perm.append_left X p.symm)
            exact h1.cons_inv
          have hxr : r.1 ≤ x.1 := by
            have : x ∈ r :: R := hz.mem_iff.1 (by simp)
            rcases List.mem_cons.1 this with e | e
            · rw [e]; exact Int.le_refl _
            · exact hr x e
          have := ih hs' (fun x hx => h0 x (by simp [hx])) X m ⟨_, hz2⟩ (by simp at hm; omega)
          rw [wsum_cons]; omega
/-- row k of packages over the singles S: sorted, of S and the pkgs of the row ahead -/
inductive RowK (S : List Pk) : Nat → List Pk → Prop
  | one (R : List Pk) (p : R.Perm S) (s : Srt R) : RowK S 1 R
  | more {k : Nat} {R Q : List Pk} (h : RowK S k R) (p : Q.Perm (pkgs R ++ S)) (s : Srt Q) : RowK S (k + 1) Q
theorem RowK.srt {S R : List Pk} {k : Nat} (h : RowK S k R) : Srt R := by cases h <;> assumption
theorem RowK.nonneg {S R : List Pk} {k : Nat} (h0 : ∀ x ∈ S, 0 ≤ x.1) (h : RowK S k R) : ∀ x ∈ R, 0 ≤ x.1 := by
  induction h with
  | one R p _ => exact fun x hx => h0 x (p.mem_iff.1 hx)
  | @more k R Q h p _ ih =>
    intro x hx
    rcases List.mem_append.1 (p.mem_iff.1 hx) with hx | hx
    · obtain ⟨q, hq, rfl⟩ := List.mem_map.1 hx
      obtain ⟨z, hu, _⟩ := prs_unp R
      have hm : ∀ y ∈ unp (prs R), y ∈ R := fun y hy => by rw [← hu]; exact List.mem_append_left _ hy
      have h1 := ih q.1 (hm _ (by simp only [unp, List.mem_flatMap]; exact ⟨q, hq, by simp⟩))
      have h2 := ih q.2 (hm _ (by simp only [unp, List.mem_flatMap]; exact ⟨q, hq, by simp⟩))
      simp only [pjoin]; omega
    · exact h0 x hx
theorem RowK.len {S R : List Pk} {k : Nat} (h : RowK S k R) : R.length ≤ 2 * S.length := by
  induction h with
  | one R p _ => have := p.length_eq; omega
  | more h p _ ih => have := p.length_eq; rw [List.length_append, pairs_len] at this; omega
/-- long enough -/
theorem RowK.long {S R : List Pk} {k : Nat} (h : RowK S k R) (_h1 : 1 ≤ S.length) : 2 * S.length ≤ R.length + 1 + S.length / 2 ^ (k - 1) := by
  induction h with
  | one R p _ => have := p.length_eq; simp; omega
  | @more k R Q h p _ ih =>
    have := p.length_eq; rw [List.length_append, pairs_len] at this
    have hk : 1 ≤ k := by cases h <;> omega
    have e : S.length / 2 ^ (k + 1 - 1) = S.length / 2 ^ (k - 1) / 2 := by
      rw [Nat.div_div_eq_div_mul, ← Nat.pow_succ, show (k - 1).succ = k + 1 - 1 by omega]
    rw [e]; omega
/-- sums of naturals over a list -/
def nsum {α : Type} (f : α → Nat) (l : List α) : Nat := (l.map f).sum
theorem nsum_cons {α : Type} (f : α → Nat) (x : α) (l : List α) : nsum f (x :: l) = f x + nsum f l := by simp [nsum]
theorem nsum_add {α : Type} (f g : α → Nat) (l : List α) : nsum (fun x => f x + g x) l = nsum f l + nsum g l := by
  induction l with
  | nil => rfl
  | cons x l ih => simp only [nsum_cons, ih]; omega
theorem nsum_le {α : Type} (f g : α → Nat) (l : List α) (h : ∀ x ∈ l, f x ≤ g x) : nsum f l ≤ nsum g l := by
  induction l with
  | nil => exact Nat.le_refl _
  | cons x l ih => have := h x (by simp); have := ih fun y hy => h y (by simp [hy]); simp only [nsum_cons]; omega
theorem nsum_congr {α : Type} (f g : α → Nat) (l : List α) (h : ∀ x ∈ l, f x = g x) : nsum f l = nsum g l := by
  induction l with
  | nil => rfl
  | cons x l ih => have := h x (by simp); have := ih fun y hy => h y (by simp [hy]); simp only [nsum_cons]; omega
theorem nsum_mul {α : Type} (f : α → Nat) (c : Nat) (l : List α) : nsum (fun x => f x * c) l = nsum f l * c := by
  induction l with
  | nil => simp [nsum]
  | cons x l ih => simp only [nsum_cons, ih, Nat.add_mul]
theorem nsum_one {α : Type} (p : α → Bool) (l : List α) : nsum (fun x => if p x then 1 else 0) l = (l.filter p).length := by
  induction l with
  | nil => rfl
  | cons x l ih => rw [nsum_cons, ih, List.filter_cons]; by_cases h : p x = true <;> simp [h]; omega
theorem nsum_zero {α : Type} (f : α → Nat) (l : List α) (h : ∀ x ∈ l, f x = 0) : nsum f l = 0 := by
  induction l with
  | nil => rfl
  | cons x l ih => have := h x (by simp); have := ih fun y hy => h y (by simp [hy]); simp only [nsum_cons]; omega
/-- how many of each symbol -/
def lng (X : List Pk) (s : Int) : Nat := (syl X).count s
/-- singles: each of one symbol, all apart -/
structure Sing (S : List Pk) (ss : List Int) : Prop where
  syms : S.map (·.2) = ss.map fun s => [s]
  nd : ss.Nodup
theorem Sing.len {S : List Pk} {ss : List Int} (h : Sing S ss) : S.length = ss.length := by
  have := congrArg List.length h.syms; simpa using this
theorem Sing.one {S : List Pk} {ss : List Int} (h : Sing S ss) : ∀ x ∈ S, ∃ s ∈ ss, x.2 = [s] := fun x hx => by
  have : x.2 ∈ S.map (·.2) := List.mem_map.2 ⟨x, hx, rfl⟩
  rw [h.syms] at this
  obtain ⟨s, hs, e⟩ := List.mem_map.1 this
  exact ⟨s, hs, e.symm⟩
theorem Sing.syls {S : List Pk} {ss : List Int} (h : Sing S ss) : syl S = ss := by
  have : syl S = (S.map (·.2)).flatten := by simp [syl, List.flatMap]
  rw [this, h.syms]
  clear h this
  induction ss with
  | nil => rfl
  | cons a l ih => rw [List.map_cons, List.flatten_cons, ih]; rfl
theorem RowK.pos {S R : List Pk} {k : Nat} {ss : List Int} (hS : Sing S ss) (h : RowK S k R) : ∀ x ∈ R, 1 ≤ x.2.length := by
  induction h with
  | one R p _ => intro x hx; obtain ⟨s, _, e⟩ := hS.one x (p.mem_iff.1 hx); rw [e]; simp
  | @more k R Q h p _ ih =>
    intro x hx
    rcases List.mem_append.1 (p.mem_iff.1 hx) with hx | hx
    · obtain ⟨q, hq, rfl⟩ := List.mem_map.1 hx
      obtain ⟨z, hu, _⟩ := prs_unp R
      have h1 := ih q.1 (by rw [← hu]; exact List.mem_append_left _ (by simp only [unp, List.mem_flatMap]; exact ⟨q, hq, by simp⟩))
      simp only [pjoin, List.length_append]; omega
    · obtain ⟨s, _, e⟩ := hS.one x hx; rw [e]; simp
/-- what lies in a row is of packages and of singles -/
theorem LiesIn.parts {S R Q X : List Pk} {k : Nat} {ss : List Int} (hS : Sing S ss) (h : RowK S k R) (p : Q.Perm (pkgs R ++ S)) (hX : LiesIn X Q) :
    ∃ B A, LiesIn B (pkgs R) ∧ LiesIn A S ∧ X.Perm (B ++ A) := by
  obtain ⟨Z, hz⟩ := hX
  have hz := hz.trans p
  have hpos := h.pos hS
  have h1 : ∀ x ∈ pkgs R, decide (2 ≤ x.2.length) = true := fun x hx => by
    obtain ⟨q, hq, rfl⟩ := List.mem_map.1 hx
    obtain ⟨z, hu, _⟩ := prs_unp R
    have e1 := hpos q.1 (by rw [← hu]; exact List.mem_append_left _ (by simp only [unp, List.mem_flatMap]; exact ⟨q, hq, by simp⟩))
    have e2 := hpos q.2 (by rw [← hu]; exact List.mem_append_left _ (by simp only [unp, List.mem_flatMap]; exact ⟨q, hq, by simp⟩))
    simp only [pjoin, List.length_append, decide_eq_true_eq]; omega
  have h2 : ∀ x ∈ S, decide (2 ≤ x.2.length) = false := fun x hx => by obtain ⟨s, _, e⟩ := hS.one x hx; rw [e]; simp
  have f1 := hz.filter (fun x => decide (2 ≤ x.2.length))
  have f2 := hz.filter (fun x => !decide (2 ≤ x.2.length))
  rw [List.filter_append, List.filter_append, List.filter_eq_self.2 h1, (List.filter_eq_nil_iff (l := S)).2 (fun x hx => by rw [h2 x hx]; simp), List.append_nil] at f1
  rw [List.filter_append, List.filter_append, (List.filter_eq_nil_iff (l := pkgs R)).2 (fun x hx => by rw [h1 x hx]; simp), (List.filter_eq_self (l := S)).2 (fun x hx => by rw [h2 x hx]; rfl), List.nil_append] at f2
  exact ⟨_, _, ⟨_, f1⟩, ⟨_, f2⟩, (List.filter_append_perm _ X).symm⟩
theorem lng_app (X Y : List Pk) (s : Int) : lng (X ++ Y) s = lng X s + lng Y s := by simp [lng, syl_append]
theorem lng_perm {X Y : List Pk} (h : X.Perm Y) (s : Int) : lng X s = lng Y s := (syl_perm h).count_eq s
theorem LiesIn.single {A S : List Pk} {ss : List Int} (hS : Sing S ss) (h : LiesIn A S) : (syl A).Nodup ∧ (syl A).length = A.length ∧ ∀ s ∈ syl A, s ∈ ss := by
  obtain ⟨Z, hz⟩ := h
  have hp : (syl A ++ syl Z).Perm ss := by rw [← syl_append, ← hS.syls]; exact syl_perm hz
  refine ⟨(List.nodup_append.1 (hp.nodup_iff.2 hS.nd)).1, ?_, fun s hs => hp.mem_iff.1 (List.mem_append_left _ hs)⟩
  have : ∀ x ∈ A, x.2.length = 1 := fun x hx => by
    obtain ⟨s, _, e⟩ := hS.one x (hz.mem_iff.1 (List.mem_append_left _ hx)); rw [e]; rfl
  clear hp hz
  induction A with
  | nil => rfl
  | cons x A ih => rw [syl_cons, List.length_append, this x (by simp), ih fun y hy => this y (by simp [hy]), List.length_cons]; omega
theorem two_pow_pred (k : Nat) (h : 1 ≤ k) : 2 ^ k = 2 * 2 ^ (k - 1) := by
  cases k with
  | zero => omega
  | succ k => rw [Nat.pow_succ, Nat.add_sub_cancel]; omega
/-- KRAFT: what lies in row k, by the width of its words -/
theorem RowK.kraft {S R : List Pk} {k : Nat} {ss : List Int} (hS : Sing S ss) (h : RowK S k R) : ∀ X, LiesIn X R →
    (∀ s, lng X s ≤ k) ∧ X.length * 2 ^ (k - 1) ≤ nsum (fun s => 2 ^ k - 2 ^ (k - lng X s)) ss ∧ (∀ s ∈ syl X, s ∈ ss) := by
  have sums : ∀ (L : List Int), L.Nodup → (∀ s ∈ L, s ∈ ss) → nsum (fun s => L.count s) ss = L.length := by
    intro L
    induction L with
    | nil => intro _ _; exact nsum_zero _ _ fun s _ => rfl
    | cons x L ih =>
      intro hn hm
      obtain ⟨h1, h2⟩ := List.nodup_cons.1 hn
      have := ih h2 fun s hs => hm s (by simp [hs])
      have e : nsum (fun s => (x :: L).count s) ss = nsum (fun s => L.count s) ss + nsum (fun s => if s = x then 1 else 0) ss := by
        rw [← nsum_add]
        refine nsum_congr _ _ _ fun s _ => ?_
        rw [List.count_cons]; by_cases h : s = x
        · subst h; simp
        · have : (x == s) = false := by simp; exact fun e => h e.symm
          simp [h, this]
      have e2 : nsum (fun s => if s = x then 1 else 0) ss = 1 := by
        have hx := hm x (by simp)
        have e3 : nsum (fun s => if s = x then 1 else 0) ss = ss.count x := by
          clear e this ih h1 h2 hn hm hx h hS
          induction ss with
          | nil => rfl
          | cons a l ih => rw [nsum_cons, ih, List.count_cons]; by_cases h : a = x <;> simp [h]; omega
        rw [e3]
        have a1 := List.nodup_iff_count.1 hS.nd x
        have a2 := List.count_pos_iff.2 hx
        omega
      rw [e, e2, this, List.length_cons]
  induction h with
  | one R p _ =>
    intro X hX
    obtain ⟨h1, h2, h3⟩ := (hX.right p).single hS
    have hle : ∀ s, lng X s ≤ 1 := fun s => List.nodup_iff_count.1 h1 s
    refine ⟨hle, ?_, h3⟩
    have := sums _ h1 h3
    have e : nsum (fun s => 2 ^ 1 - 2 ^ (1 - lng X s)) ss = nsum (fun s => (syl X).count s) ss := nsum_congr _ _ _ fun s _ => by
      have := hle s
      have e : lng X s = (syl X).count s := rfl
      rcases Nat.lt_or_ge (lng X s) 1 with h | h
      · rw [← e, show lng X s = 0 by omega]
      · rw [← e, show lng X s = 1 by omega]
    rw [e, this, h2]; simp
  | @more k R Q h p _ ih =>
    intro X hX
    obtain ⟨B, A, hB, hA, hp⟩ := LiesIn.parts hS h p hX
    obtain ⟨Y, hY, hYl, hYs, _, _⟩ := hB.unpair
    obtain ⟨i1, i2, i3⟩ := ih Y hY
    obtain ⟨a1, a2, a3⟩ := hA.single hS
    have hk : 1 ≤ k := by cases h <;> omega
    have hlx : ∀ s, lng X s = lng Y s + (syl A).count s := fun s => by rw [lng_perm hp, lng_app]; simp only [lng, hYs]
    have ha : ∀ s, (syl A).count s ≤ 1 := fun s => List.nodup_iff_count.1 a1 s
    refine ⟨fun s => by rw [hlx]; have := i1 s; have := ha s; omega, ?_, fun s hs => ?_⟩
    · have hs := sums _ a1 a3
      rw [a2] at hs
      have key : nsum (fun s => (syl A).count s * 2 ^ k + (2 ^ k - 2 ^ (k - lng Y s))) ss ≤ nsum (fun s => 2 ^ (k + 1) - 2 ^ (k + 1 - lng X s)) ss := by
        refine nsum_le _ _ _ fun s _ => ?_
        rw [hlx]
        have h1 := i1 s
        have h2 := ha s
        have e1 : 2 ^ (k + 1) = 2 * 2 ^ k := by rw [Nat.pow_succ]; omega
        have e3 : 2 ^ (k - lng Y s) ≤ 2 ^ k := Nat.pow_le_pow_right (by omega) (by omega)
        rcases Nat.lt_or_ge ((syl A).count s) 1 with h | h
        · rw [show (syl A).count s = 0 by omega, Nat.zero_mul, Nat.zero_add, Nat.add_zero (lng Y s), e1]
          have e2 : 2 ^ (k + 1 - lng Y s) = 2 * 2 ^ (k - lng Y s) := by rw [show k + 1 - lng Y s = (k - lng Y s) + 1 by omega, Nat.pow_succ]; omega
          rw [e2]; omega
        · rw [show (syl A).count s = 1 by omega, Nat.one_mul, e1, show k + 1 - (lng Y s + 1) = k - lng Y s by omega]
          omega
      rw [nsum_add, nsum_mul, hs] at key
      have hl := hp.length_eq
      rw [List.length_append] at hl
      have e4 := two_pow_pred k hk
      rw [hl, Nat.add_sub_cancel, Nat.add_mul]
      rw [hYl] at i2
      have e5 : B.length * 2 ^ k = 2 * B.length * 2 ^ (k - 1) := by rw [e4, ← Nat.mul_assoc]; congr 1; omega
      omega
    · have := (syl_perm hp).mem_iff.1 hs
      rw [syl_append, List.mem_append] at this
      rcases this with h | h
      · exact i3 s (hYs ▸ h)
      · exact a3 s h
def isum {α : Type} (f : α → Int) (l : List α) : Int := (l.map f).sum
theorem isum_cons {α : Type} (f : α → Int) (x : α) (l : List α) : isum f (x :: l) = f x + isum f l := by simp [isum]
theorem isum_add {α : Type} (f g : α → Int) (l : List α) : isum (fun x => f x + g x) l = isum f l + isum g l := by
  induction l with
  | nil => rfl
  | cons x l ih => simp only [isum_cons, ih]; omega
theorem isum_le {α : Type} (f g : α → Int) (l : List α) (h : ∀ x ∈ l, f x ≤ g x) : isum f l ≤ isum g l := by
  induction l with
  | nil => exact Int.le_refl _
  | cons x l ih => have := h x (by simp); have := ih fun y hy => h y (by simp [hy]); simp only [isum_cons]; omega
theorem isum_congr {α : Type} (f g : α → Int) (l : List α) (h : ∀ x ∈ l, f x = g x) : isum f l = isum g l := by
  induction l with
  | nil => rfl
  | cons x l ih => have := h x (by simp); have := ih fun y hy => h y (by simp [hy]); simp only [isum_cons]; omega
theorem isum_zero {α : Type} (f : α → Int) (l : List α) (h : ∀ x ∈ l, f x = 0) : isum f l = 0 := by
  induction l with
  | nil => rfl
  | cons x l ih => have := h x (by simp); have := ih fun y hy => h y (by simp [hy]); simp only [isum_cons]; omega
theorem isum_perm {α : Type} (f : α → Int) {l m : List α} (h : l.Perm m) : isum f l = isum f m := by
  induction h with
  | nil => rfl
  | cons x _ ih => simp [isum_cons, ih]
  | swap x y l => simp only [isum_cons]; omega
  | trans _ _ h1 h2 => rw [h1, h2]
theorem nsum_perm {α : Type} (f : α → Nat) {l m : List α} (h : l.Perm m) : nsum f l = nsum f m := by
  induction h with
  | nil => rfl
  | cons x _ ih => simp [nsum_cons, ih]
  | swap x y l => simp only [nsum_cons]; omega
  | trans _ _ h1 h2 => rw [h1, h2]
theorem isum_append {α : Type} (f : α → Int) (l m : List α) : isum f (l ++ m) = isum f l + isum f m := by simp [isum]
theorem nsum_append {α : Type} (f : α → Nat) (l m : List α) : nsum f (l ++ m) = nsum f l + nsum f m := by simp [nsum]
/-- a pack weighs what its symbols weigh -/
theorem RowK.weigh {S R : List Pk} {k : Nat} (w : Int → Int) (hw : ∀ x ∈ S, x.1 = isum w x.2) (h : RowK S k R) : ∀ x ∈ R, x.1 = isum w x.2 := by
  induction h with
  | one R p _ => exact fun x hx => hw x (p.mem_iff.1 hx)
  | @more k R Q h p _ ih =>
    intro x hx
    rcases List.mem_append.1 (p.mem_iff.1 hx) with hx | hx
    · obtain ⟨q, hq, rfl⟩ := List.mem_map.1 hx
      obtain ⟨z, hu, _⟩ := prs_unp R
      have h1 := ih q.1 (by rw [← hu]; exact List.mem_append_left _ (by simp only [unp, List.mem_flatMap]; exact ⟨q, hq, by simp⟩))
      have h2 := ih q.2 (by rw [← hu]; exact List.mem_append_left _ (by simp only [unp, List.mem_flatMap]; exact ⟨q, hq, by simp⟩))
      simp only [pjoin, isum_append]; omega
    · exact hw x hx
theorem wsum_syl (w : Int → Int) : ∀ (X : List Pk), (∀ x ∈ X, x.1 = isum w x.2) → wsum X = isum w (syl X)
  | [], _ => rfl
  | x :: X, h => by rw [wsum_cons, syl_cons, isum_append, h x (by simp), wsum_syl w X fun y hy => h y (by simp [hy])]
theorem isum_count (w : Int → Int) (ss : List Int) (hn : ss.Nodup) : ∀ (L : List Int), (∀ s ∈ L, s ∈ ss) → isum w L = isum (fun s => w s * (L.count s : Nat)) ss
  | [], _ => (isum_zero _ _ fun s _ => by simp).symm
  | x :: L, h => by
    rw [isum_cons, isum_count w ss hn L fun s hs => h s (by simp [hs])]
    have e : isum (fun s => w s * ((x :: L).count s : Nat)) ss = isum (fun s => w s * (L.count s : Nat)) ss + isum (fun s => if s = x then w s else 0) ss := by
      rw [← isum_add]
      refine isum_congr _ _ _ fun s _ => ?_
      rw [List.count_cons]; by_cases h : s = x
      · subst h; simp [Int.mul_add]
      · have : (x == s) = false := by simp; exact fun e => h e.symm
        simp [h, this]
    have hx := h x (by simp)
    have e2 : isum (fun s => if s = x then w s else 0) ss = w x := by
      clear e h
      induction ss with
      | nil => cases hx
      | cons a l ih =>
        obtain ⟨h1, h2⟩ := List.nodup_cons.1 hn
        rw [isum_cons]
        by_cases ha : a = x
        · subst ha
          rw [if_pos rfl, isum_zero _ l fun s hs => by rw [if_neg]; intro e; exact h1 (e ▸ hs)]; omega
        · rw [if_neg ha, ih h2 ((List.mem_cons.1 hx).resolve_left (fun e => ha e.symm))]; omega
    rw [e, e2]; omega
def fN (K l : Nat) : Nat → Nat
  | 0 => 0
  | k + 1 => fN K l k + (if K ≤ l + k then 2 ^ k else 0)
def fC (K l : Nat) : Nat → Nat
  | 0 => 0
  | k + 1 => fC K l k + (if K ≤ l + k then 1 else 0)
theorem fN_16 (l : Nat) (h : l ≤ 16) : fN 16 l 16 + 2 ^ (16 - l) = 2 ^ 16 := by
  have : ∀ l, l < 17 → fN 16 l 16 + 2 ^ (16 - l) = 2 ^ 16 := by decide
  exact this l (by omega)
theorem fC_16 (l : Nat) (h : l ≤ 16) : fC 16 l 16 = l := by
  have : ∀ l, l < 17 → fC 16 l 16 = l := by decide
  exact this l (by omega)
theorem pairs_take : ∀ (R : List Pk) (t : Nat), 2 * t ≤ R.length → wsum ((pkgs R).take t) = wsum (R.take (2 * t))
  | _, 0, _ => by simp
  | a :: b :: l, t + 1, h => by
    have ih := pairs_take l t (by simp at h; omega)
    rw [show 2 * (t + 1) = 2 * t + 1 + 1 by omega, List.take_succ_cons, List.take_succ_cons, wsum_cons, wsum_cons, ← ih]
    simp only [pkgs, prs, List.map_cons, List.take_succ_cons, wsum_cons, pjoin]; omega
  | [a], t + 1, h => by simp at h; omega
  | [], t + 1, h => by simp at h
theorem RowK.lower {S R : List Pk} {k : Nat} (K : Nat) (len : Pk → Nat) (h0 : ∀ x ∈ S, 0 ≤ x.1) (h : RowK S k R) :
    ∃ X, LiesIn X R ∧ X.length = nsum (fun x => fN K (len x) k) S / 2 ^ (k - 1) ∧ wsum X ≤ isum (fun x => x.1 * (fC K (len x) k : Nat)) S := by
  have sel : ∀ k, nsum (fun x => fN K (len x) (k + 1)) S = nsum (fun x => fN K (len x) k) S + (S.filter fun x => decide (K ≤ len x + k)).length * 2 ^ k ∧
      isum (fun x => x.1 * (fC K (len x) (k + 1) : Nat)) S = isum (fun x => x.1 * (fC K (len x) k : Nat)) S + wsum (S.filter fun x => decide (K ≤ len x + k)) := fun k => by
    clear h h0
    induction S with
    | nil => exact ⟨by simp [nsum], by simp [isum, wsum]⟩
    | cons x S ih =>
      simp only [nsum_cons, isum_cons, List.filter_cons]
      rw [ih.1, ih.2]
      by_cases hx : K ≤ len x + k
      · simp only [fN, fC, hx, if_true, decide_true, List.length_cons, wsum_cons, Nat.add_mul, Nat.one_mul]
        refine ⟨by omega, ?_⟩
        push_cast; rw [Int.mul_add]; omega
      · simp only [fN, fC, hx, if_false, decide_false, Bool.false_eq_true]
        exact ⟨by omega, by simp; omega⟩
  have filt : ∀ k, LiesIn (S.filter fun x => decide (K ≤ len x + k)) S := fun k => ⟨_, List.filter_append_perm _ S⟩
  induction h with
  | one R p _ =>
    refine ⟨_, (filt 0).right p.symm, ?_, ?_⟩
    · rw [(sel 0).1, nsum_zero (fun x => fN K (len x) 0) S fun _ _ => rfl]; simp
    · rw [(sel 0).2, isum_zero (fun x => x.1 * (fC K (len x) 0 : Nat)) S fun _ _ => by simp [fC]]; omega
  | @more k R Q h p _ ih =>
    obtain ⟨X, hX, hl, hw⟩ := ih
    have hk : 1 ≤ k := by cases h <;> omega
    have ht := hX.len
    refine ⟨_, ((LiesIn.take (pkgs R) (X.length / 2)).app (filt k)).right p.symm, ?_, ?_⟩
    · rw [(sel k).1, List.length_append, List.length_take, pairs_len, Nat.min_eq_left (by omega), Nat.add_sub_cancel, Nat.add_mul_div_right _ _ (Nat.two_pow_pos k), hl, Nat.div_div_eq_div_mul, ← Nat.pow_succ, show (k - 1).succ = k by omega]
    · rw [(sel k).2, wsum_append, pairs_take R _ (by omega)]
      have := take_least R h.srt (h.nonneg h0) X (2 * (X.length / 2)) hX (by omega)
      omega
theorem prs_mem {R : List Pk} {q : Pk × Pk} (h : q ∈ prs R) : q.1 ∈ R ∧ q.2 ∈ R := by
  obtain ⟨z, hu, _⟩ := prs_unp R
  exact ⟨by rw [← hu]; exact List.mem_append_left _ (by simp only [unp, List.mem_flatMap]; exact ⟨q, h, by simp⟩), by rw [← hu]; exact List.mem_append_left _ (by simp only [unp, List.mem_flatMap]; exact ⟨q, h, by simp⟩)⟩
theorem prs_srt : ∀ (R : List Pk), Srt R → (prs R).Pairwise (fun q p => q.2.1 ≤ p.1.1) ∧ ∀ q ∈ prs R, q.1.1 ≤ q.2.1
  | [], _ => ⟨List.Pairwise.nil, fun q h => by cases h⟩
  | [a], _ => ⟨List.Pairwise.nil, fun q h => by cases h⟩
  | a :: b :: l, h => by
    obtain ⟨h1, h2⟩ := List.pairwise_cons.1 h
    obtain ⟨h3, h4⟩ := List.pairwise_cons.1 h2
    obtain ⟨i1, i2⟩ := prs_srt l h4
    refine ⟨List.pairwise_cons.2 ⟨fun q hq => h3 _ (prs_mem hq).1, i1⟩, fun q hq => ?_⟩
    rcases List.mem_cons.1 hq with rfl | hq
    · exact h1 _ (by simp)
    · exact i2 q hq
/-- a part of a row, with all that is lighter -/
def Low (C Z R : List Pk) : Prop := (C ++ Z).Perm R ∧ ∀ p ∈ C, ∀ q ∈ Z, p.1 ≤ q.1
theorem Low.take {R : List Pk} (h : Srt R) (m : Nat) : Low (R.take m) (R.drop m) R :=
  ⟨by rw [List.take_append_drop], fun p hp q hq => by
    have : (R.take m ++ R.drop m).Pairwise (fun a b => a.1 ≤ b.1) := by rw [List.take_append_drop]; exact h
    exact (List.pairwise_append.1 this).2.2 p hp q hq⟩
theorem prs_last : ∀ (R : List Pk), Srt R → ∀ z, unp (prs R) ++ z = R → ∀ y ∈ z, ∀ x ∈ unp (prs R), x.1 ≤ y.1 := fun R h z e y hy x hx => by
  have : (unp (prs R) ++ z).Pairwise (fun a b => a.1 ≤ b.1) := by rw [e]; exact h
  exact (List.pairwise_append.1 this).2.2 x hx y hy
theorem RowK.order {S R : List Pk} {k : Nat} {ss : List Int} (hS : Sing S ss) (w : Int → Int) (hw : ∀ x ∈ S, x.1 = isum w x.2) (h : RowK S k R) {a b : Int} (hb : b ∈ ss) (hab : w b < w a) :
    ∀ C Z, Low C Z R → lng C a ≤ lng C b := by
  have single : ∀ C Z, (C ++ Z).Perm S → (∀ p ∈ C, ∀ q ∈ Z, p.1 ≤ q.1) → (syl C).count a ≤ (syl C).count b := by
    intro C Z hp hl
    have hsp : (syl C ++ syl Z).Perm ss := by rw [← syl_append, ← hS.syls]; exact syl_perm hp
    have hn := hsp.nodup_iff.2 hS.nd
    have h1 : (syl C).count a ≤ 1 := List.nodup_iff_count.1 (List.nodup_append.1 hn).1 a
    by_cases ha : a ∈ syl C
    · have hbm := hsp.mem_iff.2 hb
      rcases List.mem_append.1 hbm with hbC | hbZ
      · have := List.count_pos_iff.2 hbC; omega
      · exfalso
        obtain ⟨x, hx, hax⟩ := List.mem_flatMap.1 ha
        obtain ⟨y, hy, hby⟩ := List.mem_flatMap.1 hbZ
        have hxS := hp.mem_iff.1 (List.mem_append_left _ hx)
        have hyS := hp.mem_iff.1 (List.mem_append_right _ hy)
        obtain ⟨s, _, es⟩ := hS.one x hxS
        obtain ⟨t, _, et⟩ := hS.one y hyS
        rw [es] at hax; rw [et] at hby
        simp at hax hby
        subst hax; subst hby
        have w1 := hw x hxS
        have w2 := hw y hyS
        rw [es] at w1; rw [et] at w2
        simp [isum] at w1 w2
        have := hl x hx y hy
        omega
    · rw [List.count_eq_zero.2 ha]; omega
  induction h with
  | one R p _ => exact fun C Z hL => single C Z (hL.1.trans p) hL.2
  | @more k R Q h p _ ih =>
    intro C Z hL
    obtain ⟨hp, hl⟩ := hL
    have hz := hp.trans p
    have hpos := h.pos hS
    have h1 : ∀ x ∈ pkgs R, decide (2 ≤ x.2.length) = true := fun x hx => by
      obtain ⟨q, hq, rfl⟩ := List.mem_map.1 hx
      have e1 := hpos q.1 (prs_mem hq).1
      have e2 := hpos q.2 (prs_mem hq).2
      simp only [pjoin, List.length_append, decide_eq_true_eq]; omega
    have h2 : ∀ x ∈ S, decide (2 ≤ x.2.length) = false := fun x hx => by obtain ⟨s, _, e⟩ := hS.one x hx; rw [e]; simp
    have f1 := hz.filter (fun x => decide (2 ≤ x.2.length))
    have f2 := hz.filter (fun x => !decide (2 ≤ x.2.length))
    rw [List.filter_append, List.filter_append, List.filter_eq_self.2 h1, (List.filter_eq_nil_iff (l := S)).2 (fun x hx => by rw [h2 x hx]; simp), List.append_nil] at f1
    rw [List.filter_append, List.filter_append, (List.filter_eq_nil_iff (l := pkgs R)).2 (fun x hx => by rw [h1 x hx]; simp), (List.filter_eq_self (l := S)).2 (fun x hx => by rw [h2 x hx]; rfl), List.nil_append] at f2
    have hC := (List.filter_append_perm (fun x : Pk => decide (2 ≤ x.2.length)) C).symm
    obtain ⟨M, hM, hm⟩ := perm_lift pjoin f1 (prs R) rfl
    obtain ⟨B, B', e, hb1, hb2⟩ := List.map_eq_append_iff.1 hm
    obtain ⟨z, hu, _⟩ := prs_unp R
    obtain ⟨s1, s2⟩ := prs_srt R h.srt
    have hpw : (B ++ B').Pairwise (fun q p => q.2.1 ≤ p.1.1 ∨ p.2.1 ≤ q.1.1) := by
      rw [← e]
      exact (List.Perm.pairwise_iff (R := fun (q p : Pk × Pk) => q.2.1 ≤ p.1.1 ∨ p.2.1 ≤ q.1.1) (fun hh => hh.symm) hM).2 (s1.imp Or.inl)
    have hcross := (List.pairwise_append.1 hpw).2.2
    have hmem : ∀ q, q ∈ B ++ B' → q ∈ prs R := fun q hq => hM.mem_iff.1 (e ▸ hq)
    have hlow : Low (unp B) (unp B' ++ z) R := by
      refine ⟨?_, ?_⟩
      · rw [← List.append_assoc]
        have h3 : (unp M).Perm (unp (prs R)) := hM.flatMap_right _
        have h4 : unp M = unp B ++ unp B' := by rw [e]; simp [unp]
        rw [← h4]
        conv => rhs; rw [← hu]
        exact h3.append_right z
      · intro y hy y' hy'
        simp only [unp, List.mem_flatMap] at hy
        obtain ⟨q, hq, hyq⟩ := hy
        have hqR := hmem q (List.mem_append_left _ hq)
        rcases List.mem_append.1 hy' with hy' | hy'
        · simp only [unp, List.mem_flatMap] at hy'
          obtain ⟨q', hq', hyq'⟩ := hy'
          have hqR' := hmem q' (List.mem_append_right _ hq')
          have c1 := s2 q hqR
          have c2 := s2 q' hqR'
          have c3 := hcross q hq q' hq'
          have c4 : (pjoin q).1 ≤ (pjoin q').1 := by
            refine hl _ ?_ _ ?_
            · exact (List.mem_filter.1 (hb1 ▸ List.mem_map.2 ⟨q, hq, rfl⟩)).1
            · exact (List.mem_filter.1 (hb2 ▸ List.mem_map.2 ⟨q', hq', rfl⟩)).1
          simp only [pjoin] at c4
          simp at hyq hyq'
          rcases hyq with rfl | rfl <;> rcases hyq' with rfl | rfl <;> rcases c3 with c3 | c3 <;> omega
        · exact prs_last R h.srt z hu y' hy' y (by simp only [unp, List.mem_flatMap]; exact ⟨q, hqR, hyq⟩)
    have i1 := ih _ _ hlow
    have e1 : ∀ s, lng C s = lng (unp B) s + (syl (C.filter fun x => !decide (2 ≤ x.2.length))).count s := fun s => by
      rw [lng_perm hC, lng_app]; simp only [lng]; rw [← hb1, syl_join]
    rw [e1, e1]
    have := single _ _ f2 fun p hp q hq => hl p (List.mem_filter.1 hp).1 q (List.mem_filter.1 hq).1
    omega
theorem nsum_const {α : Type} (l : List α) : nsum (fun _ => 1) l = l.length := by
  induction l with
  | nil => rfl
  | cons a l ih => rw [nsum_cons, ih, List.length_cons]; omega
/-- WHAT PACKAGES GIVE: the lengths of the words, as many as a symbol lies in what is taken of the last row. -/
theorem best_spec {S R : List Pk} {ss : List Int} (hS : Sing S ss) (w : Int → Int) (hw : ∀ x ∈ S, x.1 = isum w x.2) (h0 : ∀ s ∈ ss, 0 ≤ w s) (h1 : 1 ≤ ss.length) (h2 : ss.length < 32768) (hR : RowK S 16 R) :
    2 * ss.length - 2 ≤ R.length ∧
    (∀ s, lng (R.take (2 * ss.length - 2)) s ≤ 16) ∧ (∀ s, s ∉ ss → lng (R.take (2 * ss.length - 2)) s = 0) ∧
    nsum (fun s => 2 ^ (16 - lng (R.take (2 * ss.length - 2)) s)) ss ≤ 2 ^ 16 ∧
    (∀ len : Int → Nat, (∀ s ∈ ss, len s ≤ 16) → nsum (fun s => 2 ^ (16 - len s)) ss ≤ 2 ^ 16 → isum (fun s => w s * (lng (R.take (2 * ss.length - 2)) s : Nat)) ss ≤ isum (fun s => w s * (len s : Nat)) ss) ∧
    (∀ a b, b ∈ ss → w b < w a → lng (R.take (2 * ss.length - 2)) a ≤ lng (R.take (2 * ss.length - 2)) b) := by
  have hSl := hS.len
  have hlong := hR.long (by omega)
  have hd : S.length / 2 ^ (16 - 1) = 0 := Nat.div_eq_of_lt (by omega)
  rw [hd] at hlong
  have hlen : 2 * ss.length - 2 ≤ R.length := by omega
  obtain ⟨k1, k2, k3⟩ := hR.kraft hS _ (LiesIn.take R (2 * ss.length - 2))
  have h0S : ∀ x ∈ S, 0 ≤ x.1 := fun x hx => by
    obtain ⟨s, hs, e⟩ := hS.one x hx
    have := hw x hx; rw [e] at this; simp [isum] at this
    have := h0 s hs; omega
  refine ⟨hlen, k1, fun s hs => List.count_eq_zero.2 fun hm => hs (k3 s hm), ?_, ?_, fun a b hb hab => hR.order hS w hw hb hab _ _ (Low.take hR.srt _)⟩
  · rw [List.length_take, Nat.min_eq_left hlen] at k2
    have e : nsum (fun s => 2 ^ 16 - 2 ^ (16 - lng (R.take (2 * ss.length - 2)) s)) ss + nsum (fun s => 2 ^ (16 - lng (R.take (2 * ss.length - 2)) s)) ss = ss.length * 2 ^ 16 := by
      rw [← nsum_add, nsum_congr _ (fun _ => 1 * 2 ^ 16) ss fun s _ => ?_, nsum_mul, nsum_const]
      · have : 2 ^ (16 - lng (R.take (2 * ss.length - 2)) s) ≤ 2 ^ 16 := Nat.pow_le_pow_right (by omega) (by omega)
        omega
    omega
  · intro len hl hk
    obtain ⟨X, hX, hXl, hXw⟩ := hR.lower 16 (fun x => len (x.2.headD 0)) h0S
    have conv1 : nsum (fun x : Pk => fN 16 (len (x.2.headD 0)) 16) S = nsum (fun s => fN 16 (len s) 16) ss := by
      have : S.map (fun x : Pk => fN 16 (len (x.2.headD 0)) 16) = (S.map (·.2)).map fun l => fN 16 (len (l.headD 0)) 16 := by rw [List.map_map]; rfl
      simp only [nsum]; rw [this, hS.syms, List.map_map]; rfl
    have conv2 : isum (fun x : Pk => x.1 * (fC 16 (len (x.2.headD 0)) 16 : Nat)) S = isum (fun s => w s * (len s : Nat)) ss := by
      have e1 : S.map (fun x : Pk => x.1 * (fC 16 (len (x.2.headD 0)) 16 : Nat)) = (S.map (·.2)).map fun l => isum w l * (fC 16 (len (l.headD 0)) 16 : Nat) := by
        rw [List.map_map]; exact List.map_congr_left fun x hx => by simp only [Function.comp]; rw [hw x hx]
      simp only [isum] at e1 ⊢; rw [e1, hS.syms, List.map_map]
      have := isum_congr (fun s => (List.map w [s]).sum * (fC 16 (len s) 16 : Nat)) (fun s => w s * (len s : Nat)) ss fun s hs => by rw [fC_16 _ (hl s hs)]; simp
      simp only [isum] at this
      exact this
    rw [conv1] at hXl
    rw [conv2] at hXw
    have e : nsum (fun s => fN 16 (len s) 16) ss + nsum (fun s => 2 ^ (16 - len s)) ss = ss.length * 2 ^ 16 := by
      rw [← nsum_add, nsum_congr _ (fun _ => 1 * 2 ^ 16) ss fun s hs => by rw [fN_16 _ (hl s hs), Nat.one_mul], nsum_mul, nsum_const]
    have hm : 2 * ss.length - 2 ≤ X.length := by
      rw [hXl, Nat.le_div_iff_mul_le (Nat.two_pow_pos _)]
      rw [show (2 : Nat) ^ 16 = 65536 from rfl] at e hk
      rw [show (16 : Nat) - 1 = 15 from rfl, show (2 : Nat) ^ 15 = 32768 from rfl]
      generalize nsum (fun s => fN 16 (len s) 16) ss = A at e ⊢
      generalize nsum (fun s => 2 ^ (16 - len s)) ss = B at e hk
      clear hXl hXw hX conv1 conv2 hd hlong hlen k1 k2 k3 hl
      omega
    have := take_least R hR.srt (hR.nonneg h0S) X _ hX hm
    have wt : wsum (R.take (2 * ss.length - 2)) = isum (fun s => w s * (lng (R.take (2 * ss.length - 2)) s : Nat)) ss := by
      rw [wsum_syl w _ fun x hx => hR.weigh w hw x (List.mem_of_mem_take hx), isum_count w ss hS.nd _ k3]; rfl
    omega
theorem nsum_mem_le {α : Type} (f : α → Nat) {l : List α} {x : α} (h : x ∈ l) : f x ≤ nsum f l := by
  induction l with
  | nil => cases h
  | cons a l ih => rw [nsum_cons]; rcases List.mem_cons.1 h with rfl | h; omega; have := ih h; omega
theorem nsum_two {α : Type} (f : α → Nat) {l : List α} {x y : α} (hx : x ∈ l) (hy : y ∈ l) (hn : x ≠ y) : f x + f y ≤ nsum f l := by
  induction l with
  | nil => cases hx
  | cons a l ih =>
    rw [nsum_cons]
    rcases List.mem_cons.1 hx with e1 | hx <;> rcases List.mem_cons.1 hy with e2 | hy
    · exact absurd (e1.trans e2.symm) hn
    · have := nsum_mem_le f hy; rw [e1]; omega
    · have := nsum_mem_le f hx; rw [e2]; omega
    · have := ih hx hy; omega
/-- every symbol has a word, if there is more than one -/
theorem kraft_pos {ss : List Int} {f : Int → Nat} (hk : nsum (fun s => 2 ^ (16 - f s)) ss ≤ 2 ^ 16) {a b : Int} (ha : a ∈ ss) (hb : b ∈ ss) (hab : a ≠ b) : 1 ≤ f a := by
  have h1 : 2 ^ (16 - f a) + 2 ^ (16 - f b) ≤ nsum (fun s => 2 ^ (16 - f s)) ss := nsum_two (fun s => 2 ^ (16 - f s)) ha hb hab
  rcases Nat.lt_or_ge (f a) 1 with h | h
  · have : f a = 0 := by omega
    rw [this] at h1
    have : 1 ≤ 2 ^ (16 - f b) := Nat.one_le_two_pow
    omega
  · exact h
end Go.Proofs.Ytembekkanggciaa
