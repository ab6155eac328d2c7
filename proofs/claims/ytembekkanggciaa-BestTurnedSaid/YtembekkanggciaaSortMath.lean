/- Sorting in place, in plain lists: places turned, an element moved, a rotation, a merge (SymMerge). -/
import Derived.Test.YtembekkanggciaaBase
namespace Go.Proofs.Ytembekkanggciaa
set_option linter.unusedVariables false
section
variable {α : Type} [Inhabited α]
/-- the element at a place -/
def elt (l : List α) (i : Nat) : α := l.getD i default
theorem elt_set (l : List α) (i j : Nat) (z : α) (h : i < l.length) : elt (l.set i z) j = if i = j then z else elt l j := by
  unfold elt
  simp only [List.getD_eq_getElem?_getD, List.getElem?_set]
  split
  · simp
  · rfl
theorem elt_app1 (l m : List α) (i : Nat) (h : i < l.length) : elt (l ++ m) i = elt l i := by simp [elt, List.getElem?_append_left h]
theorem elt_app2 (l m : List α) (i : Nat) (h : l.length ≤ i) : elt (l ++ m) i = elt m (i - l.length) := by simp [elt, List.getElem?_append_right h]
theorem elt_mem {l : List α} {i : Nat} (h : i < l.length) : elt l i ∈ l := by simp [elt, h]
theorem elt_of_mem {l : List α} {x : α} (h : x ∈ l) : ∃ i, i < l.length ∧ elt l i = x := by
  obtain ⟨i, hi, e⟩ := List.getElem_of_mem h
  exact ⟨i, hi, by simp [elt, hi, e]⟩
theorem elt_ext {l m : List α} (h : l.length = m.length) (k : ∀ i, i < l.length → elt l i = elt m i) : l = m := by
  apply List.ext_getElem h
  intro i h1 h2
  have := k i h1
  simpa [elt, h1, h2] using this
theorem elt_take (l : List α) (n i : Nat) (h : i < n) : elt (l.take n) i = elt l i := by simp [elt, h]
theorem elt_drop (l : List α) (n i : Nat) : elt (l.drop n) i = elt l (n + i) := by simp [elt]
/-- the same but for the order of what lies from a up to b -/
structure Rg (a b : Nat) (P P' : List α) : Prop where
  len : P'.length = P.length
  out : ∀ x, x < a ∨ b ≤ x → elt P' x = elt P x
  perm : ((P'.drop a).take (b - a)).Perm ((P.drop a).take (b - a))
theorem Rg.refl (a b : Nat) (P : List α) : Rg a b P P := ⟨rfl, fun _ _ => rfl, List.Perm.refl _⟩
theorem Rg.trans {a b : Nat} {P Q R : List α} (h : Rg a b P Q) (k : Rg a b Q R) : Rg a b P R :=
  ⟨k.len.trans h.len, fun x hx => (k.out x hx).trans (h.out x hx), k.perm.trans h.perm⟩
/-- where an element of the range came from -/
theorem Rg.from {a b : Nat} {P P' : List α} (h : Rg a b P P') (hb : b ≤ P.length) {x : Nat} (h1 : a ≤ x) (h2 : x < b) : ∃ y, a ≤ y ∧ y < b ∧ elt P' x = elt P y := by
  have hl := h.len
  have e : elt P' x = elt ((P'.drop a).take (b - a)) (x - a) := by rw [elt_take _ _ _ (by omega), elt_drop]; congr 1; omega
  have hm : elt P' x ∈ (P'.drop a).take (b - a) := by rw [e]; exact elt_mem (by simp; omega)
  obtain ⟨i, hi, e2⟩ := elt_of_mem (h.perm.mem_iff.1 hm)
  simp at hi
  exact ⟨a + i, by omega, by omega, by rw [← e2, elt_take _ _ _ (by omega), elt_drop]⟩
/-- a range within a greater one -/
theorem Rg.wide {a b c d : Nat} {P P' : List α} (h : Rg a b P P') (hca : c ≤ a) (hbd : b ≤ d) (hab : a ≤ b) (hd : b ≤ P.length) : Rg c d P P' := by
  refine ⟨h.len, fun x hx => h.out x (by omega), ?_⟩
  have cut : ∀ Q : List α, (Q.drop c).take (d - c) = (Q.drop c).take (a - c) ++ ((Q.drop a).take (b - a) ++ (Q.drop b).take (d - b)) := fun Q => by
    have e1 : d - c = (a - c) + ((b - a) + (d - b)) := by omega
    rw [e1, List.take_add, List.take_add, List.drop_drop, List.drop_drop]
    congr 4 <;> omega
  have hl := h.len
  rw [cut, cut]
  have e1 : (P'.drop c).take (a - c) = (P.drop c).take (a - c) := elt_ext (by simp [hl]) fun i hi => by
    simp at hi; rw [elt_take _ _ _ (by omega), elt_take _ _ _ (by omega), elt_drop, elt_drop, h.out _ (by omega)]
  have e2 : (P'.drop b).take (d - b) = (P.drop b).take (d - b) := elt_ext (by simp [hl]) fun i hi => by
    simp at hi; rw [elt_take _ _ _ (by omega), elt_take _ _ _ (by omega), elt_drop, elt_drop, h.out _ (by omega)]
  rw [e1, e2]
  exact List.Perm.append_left _ (List.Perm.append_right _ h.perm)
theorem Rg.all {P P' : List α} (h : Rg 0 P.length P P') : P'.Perm P := by
  have := h.perm
  simp only [List.drop_zero, Nat.sub_zero, List.take_length] at this
  rwa [← h.len, List.take_length] at this
/-- two places turned -/
def swp (P : List α) (i j : Nat) : List α := (P.set i (elt P j)).set j (elt P i)
theorem swp_len (P : List α) (i j : Nat) : (swp P i j).length = P.length := by simp [swp]
theorem elt_swp (P : List α) (i j x : Nat) (hi : i < P.length) (hj : j < P.length) : elt (swp P i j) x = if j = x then elt P i else if i = x then elt P j else elt P x := by
  unfold swp
  rw [elt_set _ _ _ _ (by simpa using hj), elt_set _ _ _ _ hi]
theorem set_perm (l : List α) (i : Nat) (z : α) (h : i < l.length) : (elt l i :: l.set i z).Perm (z :: l) := by
  induction l generalizing i with
  | nil => simp at h
  | cons a l ih =>
    cases i with
    | zero => simp only [elt, List.getD_cons_zero, List.set_cons_zero]; exact List.Perm.swap _ _ _
    | succ i =>
      have := ih i (by simpa using h)
      simp only [List.set_cons_succ]
      have e : elt (a :: l) (i + 1) = elt l i := by simp [elt]
      rw [e]
      exact (List.Perm.swap _ _ _).trans ((this.cons a).trans (List.Perm.swap _ _ _))
theorem swp_perm (P : List α) (i j : Nat) (hi : i < P.length) (hj : j < P.length) : (swp P i j).Perm P := by
  unfold swp
  have h1 := set_perm (P.set i (elt P j)) j (elt P i) (by simpa using hj)
  have h2 := set_perm P i (elt P j) hi
  rw [elt_set _ _ _ _ hi] at h1
  have e : (if i = j then elt P j else elt P j) = elt P j := by split <;> rfl
  rw [e] at h1
  exact (h1.trans h2).cons_inv
theorem swp_mid (P : List α) (a b i j : Nat) (hi : a ≤ i) (hib : i < b) (hj : a ≤ j) (hjb : j < b) (hb : b ≤ P.length) : Rg a b P (swp P i j) := by
  refine ⟨swp_len P i j, fun x hx => by rw [elt_swp _ _ _ _ (by omega) (by omega), if_neg (by omega), if_neg (by omega)], ?_⟩
  have e : ((swp P i j).drop a).take (b - a) = swp ((P.drop a).take (b - a)) (i - a) (j - a) := by
    refine elt_ext (by simp [swp_len]) fun x hx => ?_
    simp [swp_len] at hx
    rw [elt_take _ _ _ (by omega), elt_drop, elt_swp _ _ _ _ (by omega) (by omega), elt_swp _ _ _ _ (by simp; omega) (by simp; omega), elt_take _ _ (i - a) (by omega), elt_take _ _ (j - a) (by omega), elt_take _ _ x (by omega), elt_drop, elt_drop, elt_drop]
    rw [show a + (i - a) = i by omega, show a + (j - a) = j by omega]
    by_cases h1 : j = a + x
    · rw [if_pos h1, if_pos (show j - a = x by omega)]
    · rw [if_neg h1, if_neg (show ¬ j - a = x by omega)]
      by_cases h2 : i = a + x
      · rw [if_pos h2, if_pos (show i - a = x by omega)]
      · rw [if_neg h2, if_neg (show ¬ i - a = x by omega)]
  rw [e]
  exact swp_perm _ _ _ (by simp; omega) (by simp; omega)
variable (key : α → Int)
def Asc (lo hi : Nat) (P : List α) : Prop := ∀ i j, lo ≤ i → i ≤ j → j < hi → key (elt P i) ≤ key (elt P j)
variable {key}
theorem Asc.same {lo hi : Nat} {P Q : List α} (h : Asc key lo hi P) (e : ∀ x, lo ≤ x → x < hi → elt Q x = elt P x) : Asc key lo hi Q := fun i j h1 h2 h3 => by
  rw [e i h1 (by omega), e j (by omega) h3]; exact h i j h1 h2 h3
theorem Asc.sub {lo hi lo' hi' : Nat} {P : List α} (h : Asc key lo hi P) (h1 : lo ≤ lo') (h2 : hi' ≤ hi) : Asc key lo' hi' P := fun i j k1 k2 k3 => h i j (by omega) k2 (by omega)
theorem Asc.pair {P : List α} (h : Asc key 0 P.length P) : P.Pairwise (fun a b => key a ≤ key b) := by
  rw [List.pairwise_iff_getElem]
  intro i j hi hj hij
  have := h i j (by omega) (by omega) hj
  simpa [elt, hi, hj] using this
/-- a rotation, by places -/
theorem rot_at (A U V B : List α) (x : Nat) : elt (A ++ (V ++ (U ++ B))) x = if x < A.length then elt (A ++ (U ++ (V ++ B))) x else if x < A.length + V.length then elt (A ++ (U ++ (V ++ B))) (x + U.length) else if x < A.length + V.length + U.length then elt (A ++ (U ++ (V ++ B))) (x - V.length) else elt (A ++ (U ++ (V ++ B))) x := by
  by_cases h1 : x < A.length
  · rw [if_pos h1, elt_app1 _ _ _ h1, elt_app1 _ _ _ h1]
  · rw [if_neg h1, elt_app2 _ _ _ (by omega)]
    by_cases h2 : x < A.length + V.length
    · rw [if_pos h2, elt_app1 _ _ _ (by omega), elt_app2 A _ _ (by omega), elt_app2 U _ _ (by omega), elt_app1 V _ _ (by omega)]; congr 1; omega
    · rw [if_neg h2, elt_app2 _ _ _ (by omega)]
      by_cases h3 : x < A.length + V.length + U.length
      · rw [if_pos h3, elt_app1 _ _ _ (by omega), elt_app2 A _ _ (by omega), elt_app1 U _ _ (by omega)]; congr 1; omega
      · rw [if_neg h3, elt_app2 U _ _ (by omega), elt_app2 A _ _ (by omega), elt_app2 U _ _ (by omega), elt_app2 V _ _ (by omega)]; congr 1; omega
/-- what a rotation is -/
def Rot (a m b : Nat) (P P' : List α) : Prop := ∃ A U V B, P = A ++ (U ++ (V ++ B)) ∧ P' = A ++ (V ++ (U ++ B)) ∧ A.length = a ∧ U.length = m - a ∧ V.length = b - m
theorem Rot.rg {a m b : Nat} {P P' : List α} (h : Rot a m b P P') (h1 : a ≤ m) (h2 : m ≤ b) : Rg a b P P' := by
  obtain ⟨A, U, V, B, rfl, rfl, rfl, hu, hv⟩ := h
  refine ⟨by simp; omega, fun x hx => ?_, ?_⟩
  · rw [rot_at]
    rcases hx with hx | hx
    · rw [if_pos hx]
    · rw [if_neg (by omega), if_neg (by omega), if_neg (by omega)]
  · rw [List.drop_left' rfl, List.drop_left' rfl, ← List.append_assoc, ← List.append_assoc, List.take_left' (by simp; omega), List.take_left' (by simp; omega)]
    exact List.perm_append_comm
theorem Rot.at {a m b : Nat} {P P' : List α} (h : Rot a m b P P') (h1 : a ≤ m) (h2 : m ≤ b) (x : Nat) : elt P' x = if x < a then elt P x else if x < a + (b - m) then elt P (x + (m - a)) else if x < b then elt P (x - (b - m)) else elt P x := by
  obtain ⟨A, U, V, B, rfl, rfl, rfl, hu, hv⟩ := h
  rw [rot_at, hu, hv]
  rw [show A.length + (b - m) + (m - A.length) = b by omega]
theorem Rot.triv {β : Type} {a m b : Nat} {P : List β} (h1 : a ≤ m) (h2 : m ≤ b) (hb : b ≤ P.length) (h : m = a ∨ m = b) : Rot a m b P P := by
  refine ⟨P.take a, (P.drop a).take (m - a), (P.drop m).take (b - m), P.drop b, ?_, ?_, by simp; omega, by simp; omega, by simp; omega⟩
  · have e1 : (P.drop m).take (b - m) ++ P.drop b = P.drop m := by
      have := List.take_append_drop (b - m) (P.drop m)
      rw [List.drop_drop, show m + (b - m) = b by omega] at this; exact this
    have e2 : (P.drop a).take (m - a) ++ P.drop m = P.drop a := by
      have := List.take_append_drop (m - a) (P.drop a)
      rw [List.drop_drop, show a + (m - a) = m by omega] at this; exact this
    rw [e1, e2, List.take_append_drop]
  · rcases h with rfl | rfl
    · rw [Nat.sub_self, List.take_zero, List.nil_append]
      have e1 : (P.drop m).take (b - m) ++ P.drop b = P.drop m := by
        have := List.take_append_drop (b - m) (P.drop m)
        rw [List.drop_drop, show m + (b - m) = b by omega] at this; exact this
      rw [e1, List.take_append_drop]
    · rw [Nat.sub_self, List.take_zero, List.nil_append]
      have e2 : (P.drop a).take (m - a) ++ P.drop m = P.drop a := by
        have := List.take_append_drop (m - a) (P.drop a)
        rw [List.drop_drop, show a + (m - a) = m by omega] at this; exact this
      rw [e2, List.take_append_drop]
/-- SYMMERGE: behind the search and the rotation each part can be merged by itself. -/
theorem sym_parts {a m b mid st en : Nat} {P Q : List α} (h1 : Asc key a m P) (h2 : Asc key m b P) (ham : a < m) (hmb : m < b) (hmid : mid = (a + b) / 2) (hen : en = mid + m - st) (hs1 : a ≤ st) (hs2 : st ≤ m) (hs3 : st ≤ mid) (he1 : m ≤ en) (he2 : en ≤ b)
    (hlo : a < st → m ≤ en → en < b → key (elt P (st - 1)) ≤ key (elt P en)) (hhi : m < en → st < m → key (elt P (en - 1)) ≤ key (elt P st)) (hr : Rot st m en P Q) :
    Asc key a st Q ∧ Asc key st mid Q ∧ Asc key mid en Q ∧ Asc key en b Q ∧ ∀ x y, a ≤ x → x < mid → mid ≤ y → y < b → key (elt Q x) ≤ key (elt Q y) := by
  have ha := hr.at hs2 he1
  have em : st + (en - m) = mid := by omega
  rw [em] at ha
  have hA : ∀ x, x < st → elt Q x = elt P x := fun x h => by rw [ha, if_pos h]
  have hB : ∀ x, st ≤ x → x < mid → elt Q x = elt P (x + (m - st)) := fun x h h' => by rw [ha, if_neg (by omega), if_pos h']
  have hC : ∀ x, mid ≤ x → x < en → elt Q x = elt P (x - (en - m)) := fun x h h' => by rw [ha, if_neg (by omega), if_neg (by omega), if_pos h']
  have hD : ∀ x, en ≤ x → elt Q x = elt P x := fun x h => by rw [ha, if_neg (by omega), if_neg (by omega), if_neg (by omega)]
  clear ha hr
  refine ⟨h1.sub (Nat.le_refl _) hs2 |>.same fun x _ hx => hA x hx, ?_, ?_, h2.sub he1 (Nat.le_refl _) |>.same fun x hx _ => hD x hx, ?_⟩
  · intro i j k1 k2 k3
    rw [hB i k1 (by omega), hB j (by omega) k3]
    exact h2 _ _ (by omega) (by omega) (by omega)
  · intro i j k1 k2 k3
    rw [hC i k1 (by omega), hC j (by omega) k3]
    exact h1 _ _ (by omega) (by omega) (by omega)
  · intro x y k1 k2 k3 k4
    by_cases c1 : x < st
    · rw [hA x c1]
      by_cases c2 : y < en
      · rw [hC y k3 c2]; exact h1 _ _ (by omega) (by omega) (by omega)
      · rw [hD y (by omega)]
        have t1 := h1 x (st - 1) k1 (by omega) (by omega)
        have t2 := hlo (by omega) he1 (by omega)
        have t3 := h2 en y he1 (by omega) k4
        omega
    · rw [hB x (by omega) k2]
      by_cases c2 : y < en
      · rw [hC y k3 c2]
        have t1 := h2 (x + (m - st)) (en - 1) (by omega) (by omega) (by omega)
        have t2 := hhi (by omega) (by omega)
        have t3 := h1 st (y - (en - m)) hs1 (by omega) (by omega)
        omega
      · rw [hD y (by omega)]; exact h2 _ _ (by omega) (by omega) (by omega)
theorem sym_join {a mid b : Nat} {Q R S : List α} (h1 : a ≤ mid) (h2 : mid ≤ b) (hb : b ≤ Q.length) (hx : ∀ x y, a ≤ x → x < mid → mid ≤ y → y < b → key (elt Q x) ≤ key (elt Q y)) (r1 : Rg a mid Q R) (r2 : Rg mid b R S) (s1 : Asc key a mid R) (s2 : Asc key mid b S) : Asc key a b S ∧ Rg a b Q S := by
  refine ⟨fun i j k1 k2 k3 => ?_, (r1.wide (Nat.le_refl _) h2 h1 (by omega)).trans (r2.wide h1 (Nat.le_refl _) h2 (by rw [r1.len]; omega))⟩
  by_cases c1 : j < mid
  · rw [r2.out i (by omega), r2.out j (by omega)]; exact s1 i j k1 k2 c1
  · by_cases c2 : i < mid
    · obtain ⟨x, x1, x2, ex⟩ := r1.from (by omega) k1 c2
      obtain ⟨y, y1, y2, ey⟩ := r2.from (by rw [r1.len]; omega) (show mid ≤ j by omega) k3
      rw [r2.out i (by omega), ex, ey, r1.out y (by omega)]
      exact hx x y x1 x2 y1 y2
    · exact s2 i j (by omega) k2 k3
/-- one element moved down into what is sorted -/
theorem ins_asc {lo i p : Nat} {P Q : List α} (h1 : Asc key lo i P) (hp1 : lo ≤ p) (hp2 : p ≤ i) (e1 : ∀ x, x < p → elt Q x = elt P x) (e2 : elt Q p = elt P i) (e3 : ∀ x, p < x → x ≤ i → elt Q x = elt P (x - 1))
    (hlo : lo < p → key (elt P (p - 1)) ≤ key (elt P i)) (hhi : p < i → key (elt P i) ≤ key (elt P p)) : Asc key lo (i + 1) Q := by
  intro x y k1 k2 k3
  by_cases c1 : x < p
  · rw [e1 x c1]
    by_cases c2 : y < p
    · rw [e1 y c2]; exact h1 x y k1 k2 (by omega)
    · by_cases c3 : y = p
      · rw [c3, e2]; have := h1 x (p - 1) k1 (by omega) (by omega); have := hlo (by omega); omega
      · rw [e3 y (by omega) (by omega)]; exact h1 x (y - 1) k1 (by omega) (by omega)
  · by_cases c2 : x = p
    · rw [c2, e2]
      by_cases c3 : y = p
      · rw [c3, e2]; exact Int.le_refl _
      · rw [e3 y (by omega) (by omega)]
        have := h1 p (y - 1) (by omega) (by omega) (by omega); have := hhi (by omega); omega
    · rw [e3 x (by omega) (by omega), e3 y (by omega) (by omega)]
      exact h1 (x - 1) (y - 1) (by omega) (by omega) (by omega)
end
section
variable {α : Type} [Inhabited α] {key : α → Int}
/-- the element i moved down to j -/
structure Dn (i j : Nat) (P Q : List α) : Prop where
  len : Q.length = P.length
  lo : ∀ x, x < j → elt Q x = elt P x
  eq : elt Q j = elt P i
  mid : ∀ x, j < x → x ≤ i → elt Q x = elt P (x - 1)
  hi : ∀ x, i < x → elt Q x = elt P x
theorem Dn.refl (i : Nat) (P : List α) : Dn i i P P := ⟨rfl, fun _ _ => rfl, rfl, fun x h1 h2 => by omega, fun _ _ => rfl⟩
theorem Dn.step {i j : Nat} {P Q : List α} (h : Dn i j P Q) (h1 : 0 < j) (h2 : j ≤ i) (h3 : i < P.length) : Dn i (j - 1) P (swp Q j (j - 1)) := by
  have hl := h.len
  have e := fun x => elt_swp Q j (j - 1) x (by omega) (by omega)
  refine ⟨by rw [swp_len, hl], fun x hx => ?_, ?_, fun x k1 k2 => ?_, fun x hx => ?_⟩
  · rw [e, if_neg (by omega), if_neg (by omega), h.lo x (by omega)]
  · rw [e, if_pos rfl, h.eq]
  · rw [e, if_neg (by omega)]
    by_cases c : j = x
    · rw [if_pos c, h.lo _ (by omega), c]
    · rw [if_neg c, h.mid x (by omega) k2]
  · rw [e, if_neg (by omega), if_neg (by omega), h.hi x hx]
theorem Dn.asc {lo i p : Nat} {P Q : List α} (h : Dn i p P Q) (h1 : Asc key lo i P) (hp1 : lo ≤ p) (hp2 : p ≤ i) (hlo : lo < p → key (elt P (p - 1)) ≤ key (elt P i)) (hhi : p < i → key (elt P i) ≤ key (elt P p)) : Asc key lo (i + 1) Q :=
  ins_asc h1 hp1 hp2 h.lo h.eq h.mid hlo hhi
/-- the element a moved up to k -/
structure Upw (a k : Nat) (P Q : List α) : Prop where
  len : Q.length = P.length
  lo : ∀ x, x < a → elt Q x = elt P x
  mid : ∀ x, a ≤ x → x < k → elt Q x = elt P (x + 1)
  eq : elt Q k = elt P a
  hi : ∀ x, k < x → elt Q x = elt P x
theorem Upw.refl (i : Nat) (P : List α) : Upw i i P P := ⟨rfl, fun _ _ => rfl, fun x h1 h2 => by omega, rfl, fun _ _ => rfl⟩
theorem Upw.step {a k : Nat} {P Q : List α} (h : Upw a k P Q) (h1 : a ≤ k) (h3 : k + 1 < P.length) : Upw a (k + 1) P (swp Q k (k + 1)) := by
  have hl := h.len
  have e := fun x => elt_swp Q k (k + 1) x (by omega) (by omega)
  refine ⟨by rw [swp_len, hl], fun x hx => ?_, fun x k1 k2 => ?_, ?_, fun x hx => ?_⟩
  · rw [e, if_neg (by omega), if_neg (by omega), h.lo x hx]
  · rw [e, if_neg (by omega)]
    by_cases c : k = x
    · rw [if_pos c, h.hi _ (by omega), c]
    · rw [if_neg c, h.mid x k1 (by omega)]
  · rw [e, if_pos rfl, h.eq]
  · rw [e, if_neg (by omega), if_neg (by omega), h.hi x (by omega)]
theorem Upw.asc {a p b : Nat} {P Q : List α} (h : Upw a p P Q) (h1 : Asc key (a + 1) b P) (hp1 : a ≤ p) (hp2 : p < b) (hlo : a < p → key (elt P p) ≤ key (elt P a)) (hhi : p + 1 < b → key (elt P a) ≤ key (elt P (p + 1))) : Asc key a b Q := by
  intro x y k1 k2 k3
  by_cases c1 : x < p
  · rw [h.mid x k1 c1]
    by_cases c2 : y < p
    · rw [h.mid y (by omega) c2]; exact h1 _ _ (by omega) (by omega) (by omega)
    · by_cases c3 : y = p
      · rw [c3, h.eq]; have := h1 (x + 1) p (by omega) (by omega) (by omega); have := hlo (by omega); omega
      · rw [h.hi y (by omega)]; exact h1 _ _ (by omega) (by omega) (by omega)
  · by_cases c2 : x = p
    · rw [c2, h.eq]
      by_cases c3 : y = p
      · rw [c3, h.eq]; exact Int.le_refl _
      · rw [h.hi y (by omega)]
        have := hhi (by omega); have := h1 (p + 1) y (by omega) (by omega) (by omega); omega
    · rw [h.hi x (by omega), h.hi y (by omega)]; exact h1 _ _ (by omega) (by omega) (by omega)
/-- t places from a on and from b on turned -/
structure Swr (a b t : Nat) (P Q : List α) : Prop where
  len : Q.length = P.length
  one : ∀ x, a ≤ x → x < a + t → elt Q x = elt P (x - a + b)
  two : ∀ x, b ≤ x → x < b + t → elt Q x = elt P (x - b + a)
  out : ∀ x, (x < a ∨ a + t ≤ x) → (x < b ∨ b + t ≤ x) → elt Q x = elt P x
theorem Swr.refl (a b : Nat) (P : List α) : Swr a b 0 P P := ⟨rfl, fun x h1 h2 => by omega, fun x h1 h2 => by omega, fun _ _ _ => rfl⟩
theorem Swr.step {a b t : Nat} {P Q : List α} (h : Swr a b t P Q) (h1 : a + t < b) (h2 : b + t < P.length) : Swr a b (t + 1) P (swp Q (a + t) (b + t)) := by
  have hl := h.len
  have e := fun x => elt_swp Q (a + t) (b + t) x (by omega) (by omega)
  refine ⟨by rw [swp_len, hl], fun x k1 k2 => ?_, fun x k1 k2 => ?_, fun x k1 k2 => ?_⟩
  · rw [e, if_neg (by omega)]
    by_cases c : a + t = x
    · rw [if_pos c, h.out _ (by omega) (by omega)]; congr 1; omega
    · rw [if_neg c, h.one x k1 (by omega)]
  · rw [e]
    by_cases c : b + t = x
    · rw [if_pos c, h.out _ (by omega) (by omega)]; congr 1; omega
    · rw [if_neg c, if_neg (by omega), h.two x k1 (by omega)]
  · rw [e, if_neg (by omega), if_neg (by omega), h.out x (by omega) (by omega)]
theorem Swr.blocks {A U C V B Q : List α} {n : Nat} (hu : U.length = n) (hv : V.length = n) (h : Swr A.length (A.length + n + C.length) n (A ++ (U ++ (C ++ (V ++ B)))) Q) : Q = A ++ (V ++ (C ++ (U ++ B))) := by
  have hl := h.len
  refine elt_ext (by rw [hl]; simp; omega) fun x hx => ?_
  rw [hl] at hx
  simp at hx
  by_cases c1 : x < A.length
  · rw [h.out x (by omega) (by omega), elt_app1 _ _ _ c1, elt_app1 _ _ _ c1]
  · rw [elt_app2 A (V ++ (C ++ (U ++ B))) _ (by omega)]
    by_cases c2 : x < A.length + n
    · rw [h.one x (by omega) c2, elt_app1 V _ _ (by omega), elt_app2 A _ _ (by omega), elt_app2 U _ _ (by omega), elt_app2 C _ _ (by omega), elt_app1 V _ _ (by omega)]; congr 1; omega
    · rw [elt_app2 V (C ++ (U ++ B)) _ (by omega)]
      by_cases c3 : x < A.length + n + C.length
      · rw [h.out x (by omega) (by omega), elt_app1 C (U ++ B) _ (by omega), elt_app2 A _ _ (by omega), elt_app2 U _ _ (by omega), elt_app1 C _ _ (by omega)]; congr 1; omega
      · rw [elt_app2 C (U ++ B) _ (by omega)]
        by_cases c4 : x < A.length + n + C.length + n
        · rw [h.two x (by omega) c4, elt_app1 U B _ (by omega), elt_app2 A _ _ (by omega), elt_app1 U _ _ (by omega)]; congr 1; omega
        · rw [h.out x (by omega) (by omega), elt_app2 U B _ (by omega), elt_app2 A _ _ (by omega), elt_app2 U _ _ (by omega), elt_app2 C _ _ (by omega), elt_app2 V _ _ (by omega)]; congr 1; omega
/-- one step of a rotation -/
theorem Rot.left {A U V B Q : List α} {i j : Nat} (hu : U.length = i) (hv : V.length = j) (hij : j ≤ i) (h : Swr A.length (A.length + i) j (A ++ (U ++ (V ++ B))) Q) :
    ∃ U1 U2, U = U1 ++ U2 ∧ U1.length = j ∧ U2.length = i - j ∧ Q = (A ++ V) ++ (U2 ++ (U1 ++ B)) ∧ A ++ (V ++ (U ++ B)) = (A ++ V) ++ (U1 ++ (U2 ++ B)) := by
  have e : U = U.take j ++ U.drop j := (List.take_append_drop _ _).symm
  refine ⟨U.take j, U.drop j, e, by simp; omega, by simp; omega, ?_, ?_⟩
  · rw [e, List.append_assoc] at h
    have := Swr.blocks (A := A) (U := U.take j) (C := U.drop j) (V := V) (B := B) (n := j) (Q := Q) (by simp; omega) hv (by
      rw [show A.length + j + (U.drop j).length = A.length + i by simp; omega]; exact h)
    rw [this, List.append_assoc]
  · conv => lhs; rw [e]
    simp only [List.append_assoc]
theorem Rot.right {A U V B Q : List α} {i j : Nat} (hu : U.length = i) (hv : V.length = j) (hij : i ≤ j) (h : Swr A.length (A.length + j) i (A ++ (U ++ (V ++ B))) Q) :
    ∃ V1 V2, V = V1 ++ V2 ∧ V1.length = j - i ∧ V2.length = i ∧ Q = A ++ (V2 ++ (V1 ++ (U ++ B))) ∧ A ++ (V ++ (U ++ B)) = A ++ (V1 ++ (V2 ++ (U ++ B))) := by
  have e : V = V.take (j - i) ++ V.drop (j - i) := (List.take_append_drop _ _).symm
  refine ⟨V.take (j - i), V.drop (j - i), e, by simp; omega, by simp; omega, ?_, ?_⟩
  · rw [e, List.append_assoc] at h
    have := Swr.blocks (A := A) (U := U) (C := V.take (j - i)) (V := V.drop (j - i)) (B := B) (n := i) (Q := Q) hu (by simp; omega) (by
      rw [show A.length + i + (V.take (j - i)).length = A.length + j by simp; omega]; exact h)
    exact this
  · conv => lhs; rw [e]
    simp only [List.append_assoc]
end
end Go.Proofs.Ytembekkanggciaa
