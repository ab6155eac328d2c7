/- The law ScanMended: what its proof needs, part 5. -/
import Derived.Test.YtehbjhocgnfpmaaDoorScanMendedZ4
import Derived.Deep.MidRow
import Derived.Lib.AppendZeros
import Derived.Laws.Cover3
/- Sorting in place, in plain lists: places turned, an element moved, a rotation, a merge (SymMerge). -/
namespace Go.Proofs.YtehbjhocgnfpmaaDoor
set_option linter.unusedVariables false
section
variable {α : Type} [Inhabited α]
def elt (l : List α) (i : Nat) : α := l.getD i default
theorem elt_set (l : List α) (i j : Nat) (z : α) (h : i < l.length) : elt (l.set i z) j = if i = j then z else elt l j := by
 unfold elt
 simp only [List.getD_eq_getElem?_getD, List.getElem?_set]
 split
 · simp
 · rfl
theorem elt_app1 (l m : List α) (i : Nat) (h : i < l.length) : elt (l ++ m) i = elt l i := by simp [elt, List.getElem?_append_left h]
theorem elt_app2 (l m : List α) (i : Nat) (h : l.length ≤ i) : elt (l ++ m) i = elt m (i - l.length) := by simp [elt, List.getElem?_append_right h]
theorem elt_mem {l : List α} {i : Nat} (h : i < l.length) : elt l i ∈ l := by simp [elt, h]
theorem elt_of_mem {l : List α} {x : α} (h : x ∈ l) : ∃ i, i < l.length ∧ elt l i = x := by
 obtain ⟨i, hi, e⟩ := List.getElem_of_mem h
 exact ⟨i, hi, by simp [elt, hi, e]⟩
theorem elt_ext {l m : List α} (h : l.length = m.length) (k : ∀ i, i < l.length → elt l i = elt m i) : l = m := by
 apply List.ext_getElem h
 intro i h1 h2
 have := k i h1
 simpa [elt, h1, h2] using this
theorem elt_take (l : List α) (n i : Nat) (h : i < n) : elt (l.take n) i = elt l i := by simp [elt, h]
theorem elt_drop (l : List α) (n i : Nat) : elt (l.drop n) i = elt l (n + i) := by simp [elt]
structure Rg (a b : Nat) (P P' : List α) : Prop where
 len : P'.length = P.length
 out : ∀ x, x < a ∨ b ≤ x → elt P' x = elt P x
 perm : ((P'.drop a).take (b - a)).Perm ((P.drop a).take (b - a))
theorem Rg.refl (a b : Nat) (P : List α) : Rg a b P P := ⟨rfl, fun _ _ => rfl, List.Perm.refl _⟩
theorem Rg.trans {a b : Nat} {P Q R : List α} (h : Rg a b P Q) (k : Rg a b Q R) : Rg a b P R :=
 ⟨k.len.trans h.len, fun x hx => (k.out x hx).trans (h.out x hx), k.perm.trans h.perm⟩
theorem Rg.from {a b : Nat} {P P' : List α} (h : Rg a b P P') (hb : b ≤ P.length) {x : Nat} (h1 : a ≤ x) (h2 : x < b) : ∃ y, a ≤ y ∧ y < b ∧ elt P' x = elt P y := by
 have hl := h.len
 have e : elt P' x = elt ((P'.drop a).take (b - a)) (x - a) := by rw [elt_take _ _ _ (by omega), elt_drop]; congr 1; omega
 have hm : elt P' x ∈ (P'.drop a).take (b - a) := by rw [e]; exact elt_mem (by simp; omega)
 obtain ⟨i, hi, e2⟩ := elt_of_mem (h.perm.mem_iff.1 hm)
 simp at hi
 exact ⟨a + i, by omega, by omega, by rw [← e2, elt_take _ _ _ (by omega), elt_drop]⟩
theorem Rg.wide {a b c d : Nat} {P P' : List α} (h : Rg a b P P') (hca : c ≤ a) (hbd : b ≤ d) (hab : a ≤ b) (hd : b ≤ P.length) : Rg c d P P' := by
 refine ⟨h.len, fun x hx => h.out x (by omega), ?_⟩
 have cut : ∀ Q : List α, (Q.drop c).take (d - c) = (Q.drop c).take (a - c) ++ ((Q.drop a).take (b - a) ++ (Q.drop b).take (d - b)) := fun Q => by
  have e1 : d - c = (a - c) + ((b - a) + (d - b)) := by omega
  rw [e1, List.take_add, List.take_add, List.drop_drop, List.drop_drop]
  congr 4 <;> omega
 have hl := h.len
 rw [cut, cut]
 have e1 : (P'.drop c).take (a - c) = (P.drop c).take (a - c) := elt_ext (by simp [hl]) fun i hi => by
  simp at hi; rw [elt_take _ _ _ (by omega), elt_take _ _ _ (by omega), elt_drop, elt_drop, h.out _ (by omega)]
 have e2 : (P'.drop b).take (d - b) = (P.drop b).take (d - b) := elt_ext (by simp [hl]) fun i hi => by
  simp at hi; rw [elt_take _ _ _ (by omega), elt_take _ _ _ (by omega), elt_drop, elt_drop, h.out _ (by omega)]
 rw [e1, e2]
 exact List.Perm.append_left _ (List.Perm.append_right _ h.perm)
theorem Rg.all {P P' : List α} (h : Rg 0 P.length P P') : P'.Perm P := by
 have := h.perm
 simp only [List.drop_zero, Nat.sub_zero, List.take_length] at this
 rwa [← h.len, List.take_length] at this
def swp (P : List α) (i j : Nat) : List α := (P.set i (elt P j)).set j (elt P i)
theorem swp_len (P : List α) (i j : Nat) : (swp P i j).length = P.length := by simp [swp]
theorem elt_swp (P : List α) (i j x : Nat) (hi : i < P.length) (hj : j < P.length) : elt (swp P i j) x = if j = x then elt P i else if i = x then elt P j else elt P x := by
 unfold swp
 rw [elt_set _ _ _ _ (by simpa using hj), elt_set _ _ _ _ hi]
theorem set_perm (l : List α) (i : Nat) (z : α) (h : i < l.length) : (elt l i :: l.set i z).Perm (z :: l) := by
 induction l generalizing i with
 | nil => simp at h
 | cons a l ih =>
  cases i with
  | zero => simp only [elt, List.getD_cons_zero, List.set_cons_zero]; exact List.Perm.swap _ _ _
  | succ i =>
   have := ih i (by simpa using h)
   simp only [List.set_cons_succ]
   have e : elt (a :: l) (i + 1) = elt l i := by simp [elt]
   rw [e]
   exact (List.Perm.swap _ _ _).trans ((this.cons a).trans (List.Perm.swap _ _ _))
theorem swp_perm (P : List α) (i j : Nat) (hi : i < P.length) (hj : j < P.length) : (swp P i j).Perm P := by
 unfold swp
 have h1 := set_perm (P.set i (elt P j)) j (elt P i) (by simpa using hj)
 have h2 := set_perm P i (elt P j) hi
 rw [elt_set _ _ _ _ hi] at h1
 have e : (if i = j then elt P j else elt P j) = elt P j := by split <;> rfl
 rw [e] at h1
 exact (h1.trans h2).cons_inv
theorem swp_mid (P : List α) (a b i j : Nat) (hi : a ≤ i) (hib : i < b) (hj : a ≤ j) (hjb : j < b) (hb : b ≤ P.length) : Rg a b P (swp P i j) := by
 refine ⟨swp_len P i j, fun x hx => by rw [elt_swp _ _ _ _ (by omega) (by omega), if_neg (by omega), if_neg (by omega)], ?_⟩
 have e : ((swp P i j).drop a).take (b - a) = swp ((P.drop a).take (b - a)) (i - a) (j - a) := by
  refine elt_ext (by simp [swp_len]) fun x hx => ?_
  simp [swp_len] at hx
  rw [elt_take _ _ _ (by omega), elt_drop, elt_swp _ _ _ _ (by omega) (by omega), elt_swp _ _ _ _ (by simp; omega) (by simp; omega), elt_take _ _ (i - a) (by omega), elt_take _ _ (j - a) (by omega), elt_take _ _ x (by omega), elt_drop, elt_drop, elt_drop]
  rw [show a + (i - a) = i by omega, show a + (j - a) = j by omega]
  by_cases h1 : j = a + x
  · rw [if_pos h1, if_pos (show j - a = x by omega)]
  · rw [if_neg h1, if_neg (show ¬ j - a = x by omega)]
    by_cases h2 : i = a + x
    · rw [if_pos h2, if_pos (show i - a = x by omega)]
    · rw [if_neg h2, if_neg (show ¬ i - a = x by omega)]
 rw [e]
 exact swp_perm _ _ _ (by simp; omega) (by simp; omega)
variable (key : α → Int)
def Asc (lo hi : Nat) (P : List α) : Prop := ∀ i j, lo ≤ i → i ≤ j → j < hi → key (elt P i) ≤ key (elt P j)
variable {key}
theorem Asc.same {lo hi : Nat} {P Q : List α} (h : Asc key lo hi P) (e : ∀ x, lo ≤ x → x < hi → elt Q x = elt P x) : Asc key lo hi Q := fun i j h1 h2 h3 => by
 rw [e i h1 (by omega), e j (by omega) h3]; exact h i j h1 h2 h3
theorem Asc.sub {lo hi lo' hi' : Nat} {P : List α} (h : Asc key lo hi P) (h1 : lo ≤ lo') (h2 : hi' ≤ hi) : Asc key lo' hi' P := fun i j k1 k2 k3 => h i j (by omega) k2 (by omega)
theorem Asc.pair {P : List α} (h : Asc key 0 P.length P) : P.Pairwise (fun a b => key a ≤ key b) := by
 rw [List.pairwise_iff_getElem]
 intro i j hi hj hij
 have := h i j (by omega) (by omega) hj
 simpa [elt, hi, hj] using this
theorem rot_at (A U V B : List α) (x : Nat) : elt (A ++ (V ++ (U ++ B))) x = if x < A.length then elt (A ++ (U ++ (V ++ B))) x else if x < A.length + V.length then elt (A ++ (U ++ (V ++ B))) (x + U.length) else if x < A.length + V.length + U.length then elt (A ++ (U ++ (V ++ B))) (x - V.length) else elt (A ++ (U ++ (V ++ B))) x := by
 by_cases h1 : x < A.length
 · rw [if_pos h1, elt_app1 _ _ _ h1, elt_app1 _ _ _ h1]
 · rw [if_neg h1, elt_app2 _ _ _ (by omega)]
   by_cases h2 : x < A.length + V.length
   · rw [if_pos h2, elt_app1 _ _ _ (by omega), elt_app2 A _ _ (by omega), elt_app2 U _ _ (by omega), elt_app1 V _ _ (by omega)]; congr 1; omega
   · rw [if_neg h2, elt_app2 _ _ _ (by omega)]
     by_cases h3 : x < A.length + V.length + U.length
     · rw [if_pos h3, elt_app1 _ _ _ (by omega), elt_app2 A _ _ (by omega), elt_app1 U _ _ (by omega)]; congr 1; omega
     · rw [if_neg h3, elt_app2 U _ _ (by omega), elt_app2 A _ _ (by omega), elt_app2 U _ _ (by omega), elt_app2 V _ _ (by omega)]; congr 1; omega
def Rot (a m b : Nat) (P P' : List α) : Prop := ∃ A U V B, P = A ++ (U ++ (V ++ B)) ∧ P' = A ++ (V ++ (U ++ B)) ∧ A.length = a ∧ U.length = m - a ∧ V.length = b - m
theorem Rot.rg {a m b : Nat} {P P' : List α} (h : Rot a m b P P') (h1 : a ≤ m) (h2 : m ≤ b) : Rg a b P P' := by
 obtain ⟨A, U, V, B, rfl, rfl, rfl, hu, hv⟩ := h
 refine ⟨by simp; omega, fun x hx => ?_, ?_⟩
 · rw [rot_at]
   rcases hx with hx | hx
   · rw [if_pos hx]
   · rw [if_neg (by omega), if_neg (by omega), if_neg (by omega)]
 · rw [List.drop_left' rfl, List.drop_left' rfl, ← List.append_assoc, ← List.append_assoc, List.take_left' (by simp; omega), List.take_left' (by simp; omega)]
   exact List.perm_append_comm
theorem Rot.at {a m b : Nat} {P P' : List α} (h : Rot a m b P P') (h1 : a ≤ m) (h2 : m ≤ b) (x : Nat) : elt P' x = if x < a then elt P x else if x < a + (b - m) then elt P (x + (m - a)) else if x < b then elt P (x - (b - m)) else elt P x := by
 obtain ⟨A, U, V, B, rfl, rfl, rfl, hu, hv⟩ := h
 rw [rot_at, hu, hv]
 rw [show A.length + (b - m) + (m - A.length) = b by omega]
theorem Rot.triv {β : Type} {a m b : Nat} {P : List β} (h1 : a ≤ m) (h2 : m ≤ b) (hb : b ≤ P.length) (h : m = a ∨ m = b) : Rot a m b P P := by
 refine ⟨P.take a, (P.drop a).take (m - a), (P.drop m).take (b - m), P.drop b, ?_, ?_, by simp; omega, by simp; omega, by simp; omega⟩
 · have e1 : (P.drop m).take (b - m) ++ P.drop b = P.drop m := by
    have := List.take_append_drop (b - m) (P.drop m)
    rw [List.drop_drop, show m + (b - m) = b by omega] at this; exact this
   have e2 : (P.drop a).take (m - a) ++ P.drop m = P.drop a := by
    have := List.take_append_drop (m - a) (P.drop a)
    rw [List.drop_drop, show a + (m - a) = m by omega] at this; exact this
   rw [e1, e2, List.take_append_drop]
 · rcases h with rfl | rfl
   · rw [Nat.sub_self, List.take_zero, List.nil_append]
     have e1 : (P.drop m).take (b - m) ++ P.drop b = P.drop m := by
      have := List.take_append_drop (b - m) (P.drop m)
      rw [List.drop_drop, show m + (b - m) = b by omega] at this; exact this
     rw [e1, List.take_append_drop]
   · rw [Nat.sub_self, List.take_zero, List.nil_append]
     have e2 : (P.drop a).take (m - a) ++ P.drop m = P.drop a := by
      have := List.take_append_drop (m - a) (P.drop a)
      rw [List.drop_drop, show a + (m - a) = m by omega] at this; exact this
     rw [e2, List.take_append_drop]
theorem sym_parts {a m b mid st en : Nat} {P Q : List α} (h1 : Asc key a m P) (h2 : Asc key m b P) (ham : a < m) (hmb : m < b) (hmid : mid = (a + b) / 2) (hen : en = mid + m - st) (hs1 : a ≤ st) (hs2 : st ≤ m) (hs3 : st ≤ mid) (he1 : m ≤ en) (he2 : en ≤ b)
 (hlo : a < st → m ≤ en → en < b → key (elt P (st - 1)) ≤ key (elt P en)) (hhi : m < en → st < m → key (elt P (en - 1)) ≤ key (elt P st)) (hr : Rot st m en P Q) :
 Asc key a st Q ∧ Asc key st mid Q ∧ Asc key mid en Q ∧ Asc key en b Q ∧ ∀ x y, a ≤ x → x < mid → mid ≤ y → y < b → key (elt Q x) ≤ key (elt Q y) := by
 have ha := hr.at hs2 he1
 have em : st + (en - m) = mid := by omega
 rw [em] at ha
 have hA : ∀ x, x < st → elt Q x = elt P x := fun x h => by rw [ha, if_pos h]
 have hB : ∀ x, st ≤ x → x < mid → elt Q x = elt P (x + (m - st)) := fun x h h' => by rw [ha, if_neg (by omega), if_pos h']
 have hC : ∀ x, mid ≤ x → x < en → elt Q x = elt P (x - (en - m)) := fun x h h' => by rw [ha, if_neg (by omega), if_neg (by omega), if_pos h']
 have hD : ∀ x, en ≤ x → elt Q x = elt P x := fun x h => by rw [ha, if_neg (by omega), if_neg (by omega), if_neg (by omega)]
 clear ha hr
 refine ⟨h1.sub (Nat.le_refl _) hs2 |>.same fun x _ hx => hA x hx, ?_, ?_, h2.sub he1 (Nat.le_refl _) |>.same fun x hx _ => hD x hx, ?_⟩
 · intro i j k1 k2 k3
   rw [hB i k1 (by omega), hB j (by omega) k3]
   exact h2 _ _ (by omega) (by omega) (by omega)
 · intro i j k1 k2 k3
   rw [hC i k1 (by omega), hC j (by omega) k3]
   exact h1 _ _ (by omega) (by omega) (by omega)
 · intro x y k1 k2 k3 k4
   by_cases c1 : x < st
   · rw [hA x c1]
     by_cases c2 : y < en
     · rw [hC y k3 c2]; exact h1 _ _ (by omega) (by omega) (by omega)
     · rw [hD y (by omega)]
       have t1 := h1 x (st - 1) k1 (by omega) (by omega)
       have t2 := hlo (by omega) he1 (by omega)
       have t3 := h2 en y he1 (by omega) k4
       omega
   · rw [hB x (by omega) k2]
     by_cases c2 : y < en
     · rw [hC y k3 c2]
       have t1 := h2 (x + (m - st)) (en - 1) (by omega) (by omega) (by omega)
       have t2 := hhi (by omega) (by omega)
       have t3 := h1 st (y - (en - m)) hs1 (by omega) (by omega)
       omega
     · rw [hD y (by omega)]; exact h2 _ _ (by omega) (by omega) (by omega)
theorem sym_join {a mid b : Nat} {Q R S : List α} (h1 : a ≤ mid) (h2 : mid ≤ b) (hb : b ≤ Q.length) (hx : ∀ x y, a ≤ x → x < mid → mid ≤ y → y < b → key (elt Q x) ≤ key (elt Q y)) (r1 : Rg a mid Q R) (r2 : Rg mid b R S) (s1 : Asc key a mid R) (s2 : Asc key mid b S) : Asc key a b S ∧ Rg a b Q S := by
 refine ⟨fun i j k1 k2 k3 => ?_, (r1.wide (Nat.le_refl _) h2 h1 (by omega)).trans (r2.wide h1 (Nat.le_refl _) h2 (by rw [r1.len]; omega))⟩
 by_cases c1 : j < mid
 · rw [r2.out i (by omega), r2.out j (by omega)]; exact s1 i j k1 k2 c1
 · by_cases c2 : i < mid
   · obtain ⟨x, x1, x2, ex⟩ := r1.from (by omega) k1 c2
     obtain ⟨y, y1, y2, ey⟩ := r2.from (by rw [r1.len]; omega) (show mid ≤ j by omega) k3
     rw [r2.out i (by omega), ex, ey, r1.out y (by omega)]
     exact hx x y x1 x2 y1 y2
   · exact s2 i j (by omega) k2 k3
theorem ins_asc {lo i p : Nat} {P Q : List α} (h1 : Asc key lo i P) (hp1 : lo ≤ p) (hp2 : p ≤ i) (e1 : ∀ x, x < p → elt Q x = elt P x) (e2 : elt Q p = elt P i) (e3 : ∀ x, p < x → x ≤ i → elt Q x = elt P (x - 1))
 (hlo : lo < p → key (elt P (p - 1)) ≤ key (elt P i)) (hhi : p < i → key (elt P i) ≤ key (elt P p)) : Asc key lo (i + 1) Q := by
 intro x y k1 k2 k3
 by_cases c1 : x < p
 · rw [e1 x c1]
   by_cases c2 : y < p
   · rw [e1 y c2]; exact h1 x y k1 k2 (by omega)
   · by_cases c3 : y = p
     · rw [c3, e2]; have := h1 x (p - 1) k1 (by omega) (by omega); have := hlo (by omega); omega
     · rw [e3 y (by omega) (by omega)]; exact h1 x (y - 1) k1 (by omega) (by omega)
 · by_cases c2 : x = p
   · rw [c2, e2]
     by_cases c3 : y = p
     · rw [c3, e2]; exact Int.le_refl _
     · rw [e3 y (by omega) (by omega)]
       have := h1 p (y - 1) (by omega) (by omega) (by omega); have := hhi (by omega); omega
   · rw [e3 x (by omega) (by omega), e3 y (by omega) (by omega)]
     exact h1 (x - 1) (y - 1) (by omega) (by omega) (by omega)
end
section
variable {α : Type} [Inhabited α] {key : α → Int}
structure Dn (i j : Nat) (P Q : List α) : Prop where
 len : Q.length = P.length
 lo : ∀ x, x < j → elt Q x = elt P x
 eq : elt Q j = elt P i
 mid : ∀ x, j < x → x ≤ i → elt Q x = elt P (x - 1)
 hi : ∀ x, i < x → elt Q x = elt P x
theorem Dn.refl (i : Nat) (P : List α) : Dn i i P P := ⟨rfl, fun _ _ => rfl, rfl, fun x h1 h2 => by omega, fun _ _ => rfl⟩
theorem Dn.step {i j : Nat} {P Q : List α} (h : Dn i j P Q) (h1 : 0 < j) (h2 : j ≤ i) (h3 : i < P.length) : Dn i (j - 1) P (swp Q j (j - 1)) := by
 have hl := h.len
 have e := fun x => elt_swp Q j (j - 1) x (by omega) (by omega)
 refine ⟨by rw [swp_len, hl], fun x hx => ?_, ?_, fun x k1 k2 => ?_, fun x hx => ?_⟩
 · rw [e, if_neg (by omega), if_neg (by omega), h.lo x (by omega)]
 · rw [e, if_pos rfl, h.eq]
 · rw [e, if_neg (by omega)]
   by_cases c : j = x
   · rw [if_pos c, h.lo _ (by omega), c]
   · rw [if_neg c, h.mid x (by omega) k2]
 · rw [e, if_neg (by omega), if_neg (by omega), h.hi x hx]
theorem Dn.asc {lo i p : Nat} {P Q : List α} (h : Dn i p P Q) (h1 : Asc key lo i P) (hp1 : lo ≤ p) (hp2 : p ≤ i) (hlo : lo < p → key (elt P (p - 1)) ≤ key (elt P i)) (hhi : p < i → key (elt P i) ≤ key (elt P p)) : Asc key lo (i + 1) Q :=
 ins_asc h1 hp1 hp2 h.lo h.eq h.mid hlo hhi
structure Upw (a k : Nat) (P Q : List α) : Prop where
 len : Q.length = P.length
 lo : ∀ x, x < a → elt Q x = elt P x
 mid : ∀ x, a ≤ x → x < k → elt Q x = elt P (x + 1)
 eq : elt Q k = elt P a
 hi : ∀ x, k < x → elt Q x = elt P x
theorem Upw.refl (i : Nat) (P : List α) : Upw i i P P := ⟨rfl, fun _ _ => rfl, fun x h1 h2 => by omega, rfl, fun _ _ => rfl⟩
theorem Upw.step {a k : Nat} {P Q : List α} (h : Upw a k P Q) (h1 : a ≤ k) (h3 : k + 1 < P.length) : Upw a (k + 1) P (swp Q k (k + 1)) := by
 have hl := h.len
 have e := fun x => elt_swp Q k (k + 1) x (by omega) (by omega)
 refine ⟨by rw [swp_len, hl], fun x hx => ?_, fun x k1 k2 => ?_, ?_, fun x hx => ?_⟩
 · rw [e, if_neg (by omega), if_neg (by omega), h.lo x hx]
 · rw [e, if_neg (by omega)]
   by_cases c : k = x
   · rw [if_pos c, h.hi _ (by omega), c]
   · rw [if_neg c, h.mid x k1 (by omega)]
 · rw [e, if_pos rfl, h.eq]
 · rw [e, if_neg (by omega), if_neg (by omega), h.hi x (by omega)]
theorem Upw.asc {a p b : Nat} {P Q : List α} (h : Upw a p P Q) (h1 : Asc key (a + 1) b P) (hp1 : a ≤ p) (hp2 : p < b) (hlo : a < p → key (elt P p) ≤ key (elt P a)) (hhi : p + 1 < b → key (elt P a) ≤ key (elt P (p + 1))) : Asc key a b Q := by
 intro x y k1 k2 k3
 by_cases c1 : x < p
 · rw [h.mid x k1 c1]
   by_cases c2 : y < p
   · rw [h.mid y (by omega) c2]; exact h1 _ _ (by omega) (by omega) (by omega)
   · by_cases c3 : y = p
     · rw [c3, h.eq]; have := h1 (x + 1) p (by omega) (by omega) (by omega); have := hlo (by omega); omega
     · rw [h.hi y (by omega)]; exact h1 _ _ (by omega) (by omega) (by omega)
 · by_cases c2 : x = p
   · rw [c2, h.eq]
     by_cases c3 : y = p
     · rw [c3, h.eq]; exact Int.le_refl _
     · rw [h.hi y (by omega)]
       have := hhi (by omega); have := h1 (p + 1) y (by omega) (by omega) (by omega); omega
   · rw [h.hi x (by omega), h.hi y (by omega)]; exact h1 _ _ (by omega) (by omega) (by omega)
structure Swr (a b t : Nat) (P Q : List α) : Prop where
 len : Q.length = P.length
 one : ∀ x, a ≤ x → x < a + t → elt Q x = elt P (x - a + b)
 two : ∀ x, b ≤ x → x < b + t → elt Q x = elt P (x - b + a)
 out : ∀ x, (x < a ∨ a + t ≤ x) → (x < b ∨ b + t ≤ x) → elt Q x = elt P x
theorem Swr.refl (a b : Nat) (P : List α) : Swr a b 0 P P := ⟨rfl, fun x h1 h2 => by omega, fun x h1 h2 => by omega, fun _ _ _ => rfl⟩
theorem Swr.step {a b t : Nat} {P Q : List α} (h : Swr a b t P Q) (h1 : a + t < b) (h2 : b + t < P.length) : Swr a b (t + 1) P (swp Q (a + t) (b + t)) := by
 have hl := h.len
 have e := fun x => elt_swp Q (a + t) (b + t) x (by omega) (by omega)
 refine ⟨by rw [swp_len, hl], fun x k1 k2 => ?_, fun x k1 k2 => ?_, fun x k1 k2 => ?_⟩
 · rw [e, if_neg (by omega)]
   by_cases c : a + t = x
   · rw [if_pos c, h.out _ (by omega) (by omega)]; congr 1; omega
   · rw [if_neg c, h.one x k1 (by omega)]
 · rw [e]
   by_cases c : b + t = x
   · rw [if_pos c, h.out _ (by omega) (by omega)]; congr 1; omega
   · rw [if_neg c, if_neg (by omega), h.two x k1 (by omega)]
 · rw [e, if_neg (by omega), if_neg (by omega), h.out x (by omega) (by omega)]
theorem Swr.blocks {A U C V B Q : List α} {n : Nat} (hu : U.length = n) (hv : V.length = n) (h : Swr A.length (A.length + n + C.length) n (A ++ (U ++ (C ++ (V ++ B)))) Q) : Q = A ++ (V ++ (C ++ (U ++ B))) := by
 have hl := h.len
 refine elt_ext (by rw [hl]; simp; omega) fun x hx => ?_
 rw [hl] at hx
 simp at hx
 by_cases c1 : x < A.length
 · rw [h.out x (by omega) (by omega), elt_app1 _ _ _ c1, elt_app1 _ _ _ c1]
 · rw [elt_app2 A (V ++ (C ++ (U ++ B))) _ (by omega)]
   by_cases c2 : x < A.length + n
   · rw [h.one x (by omega) c2, elt_app1 V _ _ (by omega), elt_app2 A _ _ (by omega), elt_app2 U _ _ (by omega), elt_app2 C _ _ (by omega), elt_app1 V _ _ (by omega)]; congr 1; omega
   · rw [elt_app2 V (C ++ (U ++ B)) _ (by omega)]
     by_cases c3 : x < A.length + n + C.length
     · rw [h.out x (by omega) (by omega), elt_app1 C (U ++ B) _ (by omega), elt_app2 A _ _ (by omega), elt_app2 U _ _ (by omega), elt_app1 C _ _ (by omega)]; congr 1; omega
     · rw [elt_app2 C (U ++ B) _ (by omega)]
       by_cases c4 : x < A.length + n + C.length + n
       · rw [h.two x (by omega) c4, elt_app1 U B _ (by omega), elt_app2 A _ _ (by omega), elt_app1 U _ _ (by omega)]; congr 1; omega
       · rw [h.out x (by omega) (by omega), elt_app2 U B _ (by omega), elt_app2 A _ _ (by omega), elt_app2 U _ _ (by omega), elt_app2 C _ _ (by omega), elt_app2 V _ _ (by omega)]; congr 1; omega
theorem Rot.left {A U V B Q : List α} {i j : Nat} (hu : U.length = i) (hv : V.length = j) (hij : j ≤ i) (h : Swr A.length (A.length + i) j (A ++ (U ++ (V ++ B))) Q) :
 ∃ U1 U2, U = U1 ++ U2 ∧ U1.length = j ∧ U2.length = i - j ∧ Q = (A ++ V) ++ (U2 ++ (U1 ++ B)) ∧ A ++ (V ++ (U ++ B)) = (A ++ V) ++ (U1 ++ (U2 ++ B)) := by
 have e : U = U.take j ++ U.drop j := (List.take_append_drop _ _).symm
 refine ⟨U.take j, U.drop j, e, by simp; omega, by simp; omega, ?_, ?_⟩
 · rw [e, List.append_assoc] at h
   have := Swr.blocks (A := A) (U := U.take j) (C := U.drop j) (V := V) (B := B) (n := j) (Q := Q) (by simp; omega) hv (by
    rw [show A.length + j + (U.drop j).length = A.length + i by simp; omega]; exact h)
   rw [this, List.append_assoc]
 · conv => lhs; rw [e]
   simp only [List.append_assoc]
theorem Rot.right {A U V B Q : List α} {i j : Nat} (hu : U.length = i) (hv : V.length = j) (hij : i ≤ j) (h : Swr A.length (A.length + j) i (A ++ (U ++ (V ++ B))) Q) :
 ∃ V1 V2, V = V1 ++ V2 ∧ V1.length = j - i ∧ V2.length = i ∧ Q = A ++ (V2 ++ (V1 ++ (U ++ B))) ∧ A ++ (V ++ (U ++ B)) = A ++ (V1 ++ (V2 ++ (U ++ B))) := by
 have e : V = V.take (j - i) ++ V.drop (j - i) := (List.take_append_drop _ _).symm
 refine ⟨V.take (j - i), V.drop (j - i), e, by simp; omega, by simp; omega, ?_, ?_⟩
 · rw [e, List.append_assoc] at h
   have := Swr.blocks (A := A) (U := U) (C := V.take (j - i)) (V := V.drop (j - i)) (B := B) (n := i) (Q := Q) hu (by simp; omega) (by
    rw [show A.length + i + (V.take (j - i)).length = A.length + j by simp; omega]; exact h)
   exact this
 · conv => lhs; rw [e]
   simp only [List.append_assoc]
end

end Go.Proofs.YtehbjhocgnfpmaaDoor
/- Rows of records: elements of s cells, each the encoding of something. -/
namespace Go.Proofs.YtehbjhocgnfpmaaDoor
set_option maxRecDepth 100000
open Go.RowKit
set_option linter.unusedVariables false
theorem flat_len {α : Type} (enc : α → List Value) (m : Nat) (he : ∀ x, (enc x).length = m) (l : List α) : (l.flatMap enc).length = l.length * m := by
 induction l with
 | nil => simp
 | cons x l ih => rw [List.flatMap_cons, List.length_append, ih, he, List.length_cons, Nat.add_mul, Nat.one_mul, Nat.add_comm]
theorem setCells_row (w : World) (g : Nat) (t : TypeId) (A B D : List Value) : ∀ (vs B A : List Value) (w : World) (cur : Array Value), w.heap[g]? = some (.cells cur t) → cur.toList = A ++ (B ++ D) → B.length = vs.length → ∃ cur' : Array Value, (w.setCells g A.length vs).heap[g]? = some (.cells cur' t) ∧ cur'.toList = A ++ (vs ++ D) ∧ Only [g] w (w.setCells g A.length vs)
 | [], [], A, w, cur, h, e, _ => ⟨cur, h, e, ⟨rfl, rfl, rfl, Nat.le_refl _, fun _ _ _ => rfl⟩⟩
 | [], _ :: _, A, w, cur, h, e, hl => by simp at hl
 | _ :: _, [], A, w, cur, h, e, hl => by simp at hl
 | v :: vs, b :: B, A, w, cur, h, e, hl => by
  have h1 := heap_setCell_same w g A.length cur t v h
  have e1 : (cur.setIfInBounds A.length v).toList = (A ++ [v]) ++ (B ++ D) := by
   rw [Array.toList_setIfInBounds, e]; simp
  obtain ⟨cur', h2, h3, h4⟩ := setCells_row w g t A B D vs B (A ++ [v]) _ _ h1 e1 (by simpa using hl)
  have e2 : w.setCells g A.length (v :: vs) = (w.setCell ⟨g, A.length, none⟩ v).setCells g (A ++ [v]).length vs := by
   rw [World.setCells, List.length_append]; rfl
  rw [e2]
  have h5 := Only.setCell w ⟨g, A.length, none⟩ v
  exact ⟨cur', h2, by rw [h3]; simp, ⟨h4.os.trans h5.os, h4.tape.trans h5.tape, h4.output.trans h5.output, Nat.le_trans h5.size h4.size, fun k hk hm => (h4.block k (Nat.lt_of_lt_of_le hk h5.size) hm).trans (h5.block k hk hm)⟩⟩
section
variable {α : Type} [Inhabited α]
theorem flat_at (enc : α → List Value) (m : Nat) (he : ∀ x, (enc x).length = m) : ∀ (l : List α) (j : Nat), j < l.length → ((l.flatMap enc).drop (j * m)).take m = enc (elt l j)
 | [], j, h => by simp at h
 | x :: l, 0, h => by rw [Nat.zero_mul, List.drop_zero, List.flatMap_cons, List.take_left' (he x)]; simp [elt]
 | x :: l, j + 1, h => by
  rw [List.flatMap_cons, Nat.add_mul, Nat.one_mul, Nat.add_comm, ← List.drop_drop, List.drop_left' (he x), flat_at enc m he l j (by simpa using h)]
  simp [elt]
theorem flat_set (enc : α → List Value) (m : Nat) (he : ∀ x, (enc x).length = m) (z : α) : ∀ (l : List α) (j : Nat), j < l.length → ∃ A B, l.flatMap enc = A ++ (enc (elt l j) ++ B) ∧ (l.set j z).flatMap enc = A ++ (enc z ++ B) ∧ A.length = j * m
 | [], j, h => by simp at h
 | x :: l, 0, h => ⟨[], l.flatMap enc, by simp [elt], by simp, by simp⟩
 | x :: l, j + 1, h => by
  obtain ⟨A, B, e1, e2, e3⟩ := flat_set enc m he z l j (by simpa using h)
  refine ⟨enc x ++ A, B, ?_, ?_, ?_⟩
  · rw [List.flatMap_cons, e1, List.append_assoc]; simp [elt]
  · rw [List.set_cons_succ, List.flatMap_cons, e2, List.append_assoc]
  · rw [List.length_append, he, e3, Nat.add_mul, Nat.one_mul, Nat.add_comm]
end
section
variable {α : Type} {P : Program} {W w : World} {rs rs' : List Res} {Q : Exit → Act → World → Prop} {K : Act → World → Prop} {o : Oper} {a : Act}
theorem own_recs {e : TypeId} {n c m : Nat} {ad : Option Addr} {enc : α → List Value} {l : List α} (hS : St W w rs) (hp : Pull (own e m ad n c (l.flatMap enc)) rs rs') (he : ∀ x, (enc x).length = m) (hm : 0 < m) : l.length = n := by
 have := (hS.own hp).1
 rw [flat_len enc m he] at this
 exact Nat.eq_of_mul_eq_mul_right hm this
theorem wp_loadE (hS : St W w rs) (ty : TypeId) (x : Operand) (ho : o.op = .load ty x) (g q : Nat) (hx : a.eval x = .pointer (some ⟨g, q, none⟩)) (m : Nat) (h1 : RowN P ty m) (e : TypeId) (n c : Nat) (l : List α) (enc : α → List Value) (hp : Pull (own e m (some ⟨g, 0, none⟩) n c (l.flatMap enc)) rs rs')
 (inst : Inhabited α) (he : ∀ x, (enc x).length = m) (j : Nat) (hq : q = j * m) (hj : j < n) (h : K (a.put o.dst (.agg (enc (elt l j)).toArray)) w) : o.wp P a w K Q := by
 subst hq
 have hl := (hS.own hp).1
 rw [flat_len enc m he] at hl
 refine wp_loadR ty x ho g _ hx m h1 (enc (elt l j)) (he _) ?_ h
 have := own_range (off := j * m) (m := m) hS hp
 rcases Nat.eq_zero_or_pos m with h0 | h0
 · have e0 : enc (elt l j) = [] := List.eq_nil_of_length_eq_zero (by rw [he, h0])
   rw [e0]; intro i v hv; simp at hv
 · have hln : l.length = n := Nat.eq_of_mul_eq_mul_right h0 hl
   rwa [flat_at enc m he l j (by omega)] at this
theorem wp_load1E (hS : St W w rs) (ty : TypeId) (x : Operand) (ho : o.op = .load ty x) (g q : Nat) (hx : a.eval x = .pointer (some ⟨g, q, none⟩)) (h1 : One P ty) (e : TypeId) (m n c : Nat) (l : List α) (enc : α → List Value) (hp : Pull (own e m (some ⟨g, 0, none⟩) n c (l.flatMap enc)) rs rs')
 (inst : Inhabited α) (he : ∀ x, (enc x).length = m) (j f : Nat) (hq : q = j * m + f) (hj : j < n) (v : Value) (hv : (enc (elt l j))[f]? = some v) (h : K (a.put o.dst v) w) : o.wp P a w K Q := by
 subst hq
 have hf : f < m := by rw [← he (elt l j)]; exact (List.getElem?_eq_some_iff.1 hv).1
 have hl := own_recs hS hp he (by omega)
 refine wp_load1O hS ty x ho g _ hx h1 e m n c _ hp v ?_ h
 have := flat_at enc m he l j (by omega)
 rw [← this, List.getElem?_take, if_pos hf, List.getElem?_drop] at hv
 exact hv
theorem wp_load1E0 (hS : St W w rs) (ty : TypeId) (x : Operand) (ho : o.op = .load ty x) (g q : Nat) (hx : a.eval x = .pointer (some ⟨g, q, none⟩)) (h1 : One P ty) (e : TypeId) (m n c : Nat) (l : List α) (enc : α → List Value) (hp : Pull (own e m (some ⟨g, 0, none⟩) n c (l.flatMap enc)) rs rs')
 (inst : Inhabited α) (he : ∀ x, (enc x).length = m) (j : Nat) (hq : q = j * m) (hj : j < n) (v : Value) (hv : (enc (elt l j))[0]? = some v) (h : K (a.put o.dst v) w) : o.wp P a w K Q :=
 wp_load1E hS ty x ho g q hx h1 e m n c l enc hp inst he j 0 hq hj v hv h
theorem wp_storeE (hS : St W w rs) (ty : TypeId) (x y : Operand) (ho : o.op = .store ty x y) (g q : Nat) (hx : a.eval x = .pointer (some ⟨g, q, none⟩)) (m : Nat) (h1 : RowN P ty m) (e : TypeId) (n c : Nat) (l : List α) (enc : α → List Value) (hp : Pull (own e m (some ⟨g, 0, none⟩) n c (l.flatMap enc)) rs rs')
 (inst : Inhabited α) (he : ∀ x, (enc x).length = m) (hone : ∀ x, (enc x).all (·.oneCell') = true) (j : Nat) (hq : q = j * m) (hj : j < n) (z : α) (hy : a.eval y = .agg (enc z).toArray) (hd : o.dst = none) (h : ∀ w', St W w' (own e m (some ⟨g, 0, none⟩) n c ((l.set j z).flatMap enc) :: rs') → K a w') : o.wp P a w K Q := by
 subst hq
 have hown := hS.own hp
 have hlen := hown.1
 rw [flat_len enc m he] at hlen
 rcases hown.2 with ⟨h2, _⟩ | ⟨g', cap, cur, h2, hb, hg, hn, hc, hsz, htake⟩
 · cases h2
 · cases h2
   have hln : m = 0 ∨ l.length = n := by
    rcases Nat.eq_zero_or_pos m with h0 | h0
    · exact .inl h0
    · exact .inr (Nat.eq_of_mul_eq_mul_right h0 hlen)
   have hjm : j * m + m ≤ n * m := by have := Nat.mul_le_mul_right m hj; rwa [Nat.succ_mul] at this
   have hcm : n * m ≤ c * m := Nat.mul_le_mul_right m hn
   refine wp_store_mid ty x y ho g (j * m) (enc z).toArray hx hy ?_ (by rw [h1.2]; simp [he]) (by simpa using hone z) ?_
   · intro i hi
     rw [List.size_toArray, he] at hi
     refine ⟨?_, frozen_of_row w g _ cur e hg⟩
     have := own_cell hS hp (k := j * m + i) (v := (l.flatMap enc)[j * m + i]'(by rw [flat_len enc m he]; omega)) (by rw [List.getElem?_eq_getElem])
     rw [this]; rfl
   · rw [show a.put o.dst undef = a by rw [hd]; rfl]
     refine h _ ?_
     refine St.change (rs1 := [own e m (some ⟨g, 0, none⟩) n c ((l.set j z).flatMap enc)]) (hS.pull hp) fun f1 k1 _ _ => ?_
     obtain ⟨rfl, _⟩ := k1
     rcases hln with h0 | hln
     · have e0 : ∀ y, enc y = [] := fun y => List.eq_nil_of_length_eq_zero (by rw [he, h0])
       have e1 : ∀ l : List α, l.flatMap enc = [] := fun l => List.eq_nil_of_length_eq_zero (by rw [flat_len enc m he, h0, Nat.mul_zero])
       rw [e0, e1]
       refine ⟨[g], ⟨[g], [], rfl, ⟨rfl, by simp [h0], .inr ⟨g, c, cur, rfl, hb, hg, hn, hc, hsz, by rw [h0]; simp⟩⟩, rfl⟩, by simp, fun b hb => .inl hb, ⟨rfl, rfl, rfl, Nat.le_refl _, fun _ _ _ => rfl⟩⟩
     · obtain ⟨A, B, e1, e2, e3⟩ := flat_set enc m he z l j (by omega)
       have ecur : cur.toList = A ++ (enc (elt l j) ++ (B ++ cur.toList.drop (n * m))) := by
        conv => lhs; rw [← List.take_append_drop (n * m) cur.toList, htake, e1]
        simp
       obtain ⟨cur', k2, k3, k4⟩ := setCells_row w g e [] [] (B ++ cur.toList.drop (n * m)) (enc z) (enc (elt l j)) A w cur hg ecur (by rw [he, he])
       rw [← e3]
       have hAB : (A ++ (enc z ++ B)).length = n * m := by rw [← e2, flat_len enc m he, List.length_set, hln]
       refine ⟨[g], ⟨[g], [], rfl, ⟨rfl, by rw [flat_len enc m he, List.length_set, hln], .inr ⟨g, c, cur', rfl, hb, k2, hn, hc, ?_, ?_⟩⟩, rfl⟩, by simp, fun b hb => .inl hb, k4⟩
       · have a1 := congrArg List.length k3
         have a2 := congrArg List.length ecur
         simp only [List.length_append, Array.length_toList, he] at a1 a2
         omega
       · have a3 : cur'.toList = (A ++ (enc z ++ B)) ++ cur.toList.drop (n * m) := by rw [k3]; simp
         rw [a3, List.take_left' hAB, e2]
end
structure PkV where
 w : Int
 ad : Option Addr
 n : Nat
 c : Nat
instance : Inhabited PkV := ⟨⟨0, none, 0, 0⟩⟩
def pkE (p : PkV) : List Value := [.int .i64 p.w, .slice p.ad p.n p.c]
theorem pkE_len : ∀ p, (pkE p).length = 2 := fun _ => rfl
theorem pkE_one : ∀ p, (pkE p).all (·.oneCell') = true := fun _ => rfl

set_option maxRecDepth 100000
open Go.RowKit
set_option linter.unusedVariables false
def cmpv (x y : Int) : Int := if x < y then -1 else if y < x then 1 else 0
theorem isNaN_any (w : World) (x : Int) : Calls Tryd.prog 102 #[.int .i64 x] w fun e w' => e = .returned (.bool false) ∧ Ext w w' := by
 have hS := St.start w
 go_enter Tryd.func102, Tryd.ntmps102
 repeat' (first
  | ((first | (with_reducible apply mv9) | (with_reducible apply as9)); (first | go_big_want | go_step); go_step) | ((with_reducible apply gt9 _ (.binOp .neq 3 _ _ _)); (refine wvv9 (V.neq rfl rfl) ?_; go_step)) | ((fail_if_success with_reducible apply ga9); go_step))
 all_goals go_ret
 all_goals exact ⟨by simp, hS.1⟩
theorem compare_any (w : World) (x y : Int) : Calls Tryd.prog 85 #[.int .i64 x, .int .i64 y] w fun e w' => e = .returned (.int .i64 (cmpv x y)) ∧ Ext w w' := by
 have hS := St.start w
 go_enter Tryd.func85, Tryd.ntmps85
 repeat' (first
  | ((with_reducible apply gt9 _ (.call ⟨.value (.func 102), _, _⟩)); refine wpl_call (f := 102) Tryd.call102 kr9 ?_; refine ⟨_, (isNaN_any _ _), ?_⟩; rintro e w ⟨rfl, hE2⟩; replace hS := hS.ext hE2; clear hE2; refine ⟨_, rfl, ?_⟩; refine put_move ?_; go_step) | ((first | (with_reducible apply mv9) | (with_reducible apply as9)); (first | go_big_want | go_step); go_step) | ((with_reducible apply gt9 _ (.binOp .lss _ _ _ _)); (refine wvv9 (V.lss rfl rfl) ?_; go_step)) | ((with_reducible apply gt9 _ (.binOp .gtr _ _ _ _)); (refine wvv9 (V.gtr rfl rfl) ?_; go_step)) | ((fail_if_success with_reducible apply ga9); go_step))
 all_goals go_ret
 all_goals (refine ⟨?_, hS.1⟩; unfold cmpv; first | (rw [if_pos (by omega)]; rfl) | (rw [if_neg (by omega), if_pos (by omega)]; rfl) | (rw [if_neg (by omega), if_neg (by omega)]; rfl))
theorem byWeight_any (w : World) (p q : PkV) : Calls Tryd.prog 67 #[.agg (pkE p).toArray, .agg (pkE q).toArray] w fun e w' => e = .returned (.int .i64 (cmpv p.w q.w)) ∧ Ext w w' := by
 have hS := St.start w
 obtain ⟨x, ap, np, cp⟩ := p
 obtain ⟨y, aq, nq, cq⟩ := q
 simp only [pkE]
 go_enter Tryd.func67, Tryd.ntmps67
 repeat' (first
  | ((with_reducible apply gt9 _ (.call ⟨.value (.func 85), _, _⟩)); refine wpl_call (f := 85) Tryd.call85 kr9 ?_; refine ⟨_, (compare_any _ _ _), ?_⟩; rintro e w ⟨rfl, hE2⟩; replace hS := hS.ext hE2; clear hE2; refine ⟨_, rfl, ?_⟩; refine put_move ?_; go_step) | ((with_reducible apply as9); (first | go_big_want | go_step); go_step) | ((with_reducible apply gt9 _ (.fieldAddr 133 _ 0)); (refine wvv9 (V.fieldAddr fo133_0 rfl nq9) ?_; go_step)) | ((with_reducible apply gs9 2); (refine wl9 ?_; apply wp_boxG (o := ⟨some 2, _, _, _, _, _⟩) hS 133 _ rfl _ rfl; clear hS; intro g2 w hS; refine put_move ?_; go_step)) | ((with_reducible apply gs9 3); (refine wl9 ?_; apply wp_boxG (o := ⟨some 3, _, _, _, _, _⟩) hS 133 _ rfl _ rfl; clear hS; intro g3 w hS; refine put_move ?_; go_step)) | ((with_reducible apply gt9 _ (.load 3 _)); (refine wl9 ?_; apply wp_load1 hS 3 _ rfl _ _ rfl (one_of rfl) _; (case hp => exact pl9); (case hc => rfl); refine put_move ?_; go_step)) | ((fail_if_success with_reducible apply ga9); go_step))
 all_goals go_ret
 all_goals exact ⟨rfl, hS.1⟩
abbrev pks (g n c : Nat) (P : List PkV) : Res := own 133 2 (some ⟨g, 0, none⟩) n c (P.flatMap pkE)
theorem swapRange_any (W w0 : World) (rs rs' : List Res) (g n c a b k : Nat) (P : List PkV) (hS : St W w0 rs) (hp : Pull (pks g n c P) rs rs') (hab : a + k ≤ b) (hb : b + k ≤ n) (hn : n ≤ 1000000) (K : Value) :
 Calls Tryd.prog 112 #[.slice (some ⟨g, 0, none⟩) n c, .int .i64 a, .int .i64 b, .int .i64 k, K] w0 fun e w => e = .returned (.tuple #[]) ∧ ∃ Q, Swr a b k P Q ∧ St W w (pks g n c Q :: rs') := by
 replace hS := hS.pull hp
 have he := pkE_len
 have h1e := pkE_one
 have hPl := own_recs hS Pull.head pkE_len (by decide)
 go_enter Tryd.func112, Tryd.ntmps112
 repeat' (first
  | ((with_reducible apply as9); (first | go_big_want | go_step); go_step) | ((fail_if_success with_reducible apply ga9); go_step))
 go_loopg [10] k (fun gk iv w => ∃ (i : Nat) (Q : List PkV), gk + i = k ∧ iv = .int .i64 i ∧ Swr a b i P Q ∧ St W w (pks g n c Q :: rs'))
 case atStart => exact ⟨0, P, by omega, rfl, Swr.refl a b P, hS⟩
 case round =>
  clear hS
  obtain ⟨i, Q, hi, rfl, hQ, hS⟩ := hrel
  by_cases hlt : i < k
  · have hQ2 := hQ.step (by omega) (by omega)
    have HQ := hid hQ2
    clear hQ hQ2
    repeat' (first
     | ((with_reducible apply mv9); (first | go_big_want | go_step); go_step) | ((with_reducible apply gs9 13); (refine wvv9 (V.lss rfl rfl) ?_; go_step)) | ((fail_if_success with_reducible apply ga9); go_step))
    refine drawn_lit [21, 23] (fun w => St W w (pks g n c Q :: rs')) kr9 ?_
    replace hS := hS.drew
    focus
     refine takeM 0 _ al9 kr9 kr9 kr9 hq9 rfl ?_
     go_step
     refine takeM 1 _ al9 kr9 kr9 kr9 hq9 rfl ?_
     go_step
     refine takeM 2 _ al9 kr9 kr9 kr9 hq9 rfl ?_
     go_step
     (refine takeV 3 (.int _ (((a + i : Nat) : Int))) al9 kr9 kr9 kr9 hq9 (V.as (V.addI rfl rfl (by omega)) (by omega)) rfl ?_)
     go_step
     refine takeM 4 _ al9 kr9 kr9 kr9 hq9 rfl ?_
     go_step
     refine takeM 5 _ al9 kr9 kr9 kr9 hq9 rfl ?_
     go_step
     refine takeM 6 _ al9 kr9 kr9 kr9 hq9 rfl ?_
     go_step
     (refine takeV 7 (.int _ (((b + i : Nat) : Int))) al9 kr9 kr9 kr9 hq9 (V.as (V.addI rfl rfl (by omega)) (by omega)) rfl ?_)
     go_step
     refine takeM 8 _ al9 kr9 kr9 kr9 hq9 rfl ?_
     go_step
     refine takeM 9 _ al9 kr9 kr9 kr9 hq9 rfl ?_
     go_step
     refine takeM 10 _ al9 kr9 kr9 kr9 hq9 rfl ?_
     go_step
     (refine takeV 11 (.int _ (((b + i : Nat) : Int))) al9 kr9 kr9 kr9 hq9 (V.as (V.addI rfl rfl (by omega)) (by omega)) rfl ?_)
     go_step
     (refine takeV 12 _ al9 kr9 kr9 kr9 hq9 (V.indexSl Tryd.underlying134 isz133 rfl rfl isn9 (by omega) rfl nq9) rfl ?_)
     go_step
     apply takeS 13 al9 kr9 kr9 kr9 hq9 [20, 21, 22, 23] kr9 (hS.sub sb9)
     case hfr => intro w hS; ((refine wl9 ?_; apply wp_loadE hS 133 _ rfl _ _ rfl 2 (row_of rfl) _ _ _ _ _; (case hp => exact pl9); (case inst => infer_instance); (case he => with_reducible assumption); (case hq => exact rfl); (case hj => omega); refine put_move ?_; go_step)); refine wpList_nil ?_; exact ⟨rfl, rfl⟩
     case hd => rfl
     refine takeM 14 _ al9 kr9 kr9 kr9 hq9 rfl ?_
     go_step
     refine takeM 15 _ al9 kr9 kr9 kr9 hq9 rfl ?_
     go_step
     refine takeM 16 _ al9 kr9 kr9 kr9 hq9 rfl ?_
     go_step
     (refine takeV 17 (.int _ (((a + i : Nat) : Int))) al9 kr9 kr9 kr9 hq9 (V.as (V.addI rfl rfl (by omega)) (by omega)) rfl ?_)
     go_step
     (refine takeV 18 _ al9 kr9 kr9 kr9 hq9 (V.indexSl Tryd.underlying134 isz133 rfl rfl isn9 (by omega) rfl nq9) rfl ?_)
     go_step
     apply takeS 19 al9 kr9 kr9 kr9 hq9 [20, 21, 22, 23] kr9 (hS.sub sb9)
     case hfr => intro w hS; ((refine wl9 ?_; apply wp_loadE hS 133 _ rfl _ _ rfl 2 (row_of rfl) _ _ _ _ _; (case hp => exact pl9); (case inst => infer_instance); (case he => with_reducible assumption); (case hq => exact rfl); (case hj => omega); refine put_move ?_; go_step)); refine wpList_nil ?_; exact ⟨rfl, rfl⟩
     case hd => rfl
     (refine takeV 20 _ al9 kr9 kr9 kr9 hq9 (V.indexSl Tryd.underlying134 isz133 rfl rfl isn9 (by omega) rfl nq9) rfl ?_)
     go_step
     refine branch1 21 al9 rfl kr9 ?_
     (apply wp_storeE hS 133 _ _ rfl _ _ rfl 2 (row_of rfl) _ _ _ _ _; (case hp => exact pl9); (case inst => infer_instance); (case he => with_reducible assumption); (case hone => with_reducible assumption); (case hq => exact rfl); (case hj => omega); (case hy => exact rfl); (case hd => exact rfl); clear hS; intro w hS)
     refine ⟨fun h => absurd (by decide) h, ?_⟩
     (refine takeV 22 _ al9 kr9 kr9 kr9 hq9 (V.indexSl Tryd.underlying134 isz133 rfl rfl isn9 (by omega) rfl nq9) rfl ?_)
     go_step
     refine branch1 23 al9 rfl kr9 ?_
     (apply wp_storeE hS 133 _ _ rfl _ _ rfl 2 (row_of rfl) _ _ _ _ _; (case hp => exact pl9); (case inst => infer_instance); (case he => with_reducible assumption); (case hone => with_reducible assumption); (case hq => exact rfl); (case hj => omega); (case hy => exact rfl); (case hd => exact rfl); clear hS; intro w hS)
     refine ⟨fun h => absurd (by decide) h, ?_⟩
     refine drawn_done kr9 ?_ _
    repeat' (first
     | ((first | (with_reducible apply mv9) | (with_reducible apply as9)); (first | go_big_want | go_step); go_step) | ((with_reducible apply gs9 15); (refine wvv9 (V.addI rfl rfl (by omega)) ?_; go_step)) | ((fail_if_success with_reducible apply ga9); go_step))
    go_roundg (gk - 1)
    case measure => omega
    case rel => exact ⟨i + 1, swp Q (a + i) (b + i), by omega, by go_num, HQ.out, hS⟩
  · obtain rfl : i = k := by omega
    repeat' (first
     | ((with_reducible apply mv9); (first | go_big_want | go_step); go_step) | ((with_reducible apply gs9 13); (refine wvv9 (V.lss rfl rfl) ?_; go_step)) | ((fail_if_success with_reducible apply ga9); go_step))
    go_end0
    exact ⟨rfl, Q, hQ, hS⟩
theorem rotate_any (W w0 : World) (rs rs' : List Res) (g n c a m b : Nat) (P : List PkV) (hS : St W w0 rs) (hp : Pull (pks g n c P) rs rs') (ham : a < m) (hmb : m < b) (hb : b ≤ n) (hn : n ≤ 1000000) (K : Value) :
 Calls Tryd.prog 109 #[.slice (some ⟨g, 0, none⟩) n c, .int .i64 a, .int .i64 m, .int .i64 b, K] w0 fun e w => e = .returned (.tuple #[]) ∧ ∃ Q, Rot a m b P Q ∧ St W w (pks g n c Q :: rs') := by
 replace hS := hS.pull hp
 have hPl := own_recs hS Pull.head pkE_len (by decide)
 obtain ⟨A0, U0, V0, B0, hP, hA0, hU0, hV0⟩ : ∃ A U Y B : List PkV, P = A ++ (U ++ (Y ++ B)) ∧ A.length = a ∧ U.length = m - a ∧ Y.length = b - m :=
  ⟨P.take a, (P.drop a).take (m - a), ((P.drop a).drop (m - a)).take (b - m), ((P.drop a).drop (m - a)).drop (b - m), by rw [List.take_append_drop, List.take_append_drop, List.take_append_drop], by simp; omega, by simp; omega, by simp; omega⟩
 have HG : Hid (∀ Q, Q = A0 ++ (V0 ++ (U0 ++ B0)) → Rot a m b P Q) := fun Q h => ⟨A0, U0, V0, B0, hP, h, hA0, hU0, hV0⟩
 obtain ⟨T, hT⟩ : ∃ T, A0 ++ (V0 ++ (U0 ++ B0)) = T := ⟨_, rfl⟩
 rw [hT] at HG
 rw [hP] at hS hPl
 clear hP hp
 go_enter Tryd.func109, Tryd.ntmps109
 repeat' (first
  | ((with_reducible apply gs9 14); (refine wplV (.int _ (((m - a : Nat) : Int))) (V.as (V.subI rfl rfl (by omega)) (by omega)) rfl ?_; go_step)) | ((with_reducible apply gs9 17); (refine wplV (.int _ (((b - m : Nat) : Int))) (V.as (V.subI rfl rfl (by omega)) (by omega)) rfl ?_; go_step)) | ((first | (with_reducible apply mv9) | (with_reducible apply as9)); (first | go_big_want | go_step); go_step) | ((fail_if_success with_reducible apply ga9); go_step))
 go_loopg [10, 11] (b - a) (fun gk iv jv w => ∃ (i j x : Nat) (A U Y B : List PkV), gk = i + j ∧ iv = .int .i64 i ∧ jv = .int .i64 j ∧ A.length = x ∧ U.length = i ∧ Y.length = j ∧ x + i = m ∧ m + j ≤ b ∧ 1 ≤ i ∧ 1 ≤ j ∧ A ++ (Y ++ (U ++ B)) = T ∧ St W w (pks g n c (A ++ (U ++ (Y ++ B))) :: rs'))
 case atStart => exact ⟨m - a, b - m, a, A0, U0, V0, B0, by omega, rfl, rfl, hA0, hU0, hV0, by omega, by omega, by omega, by omega, hT, hS⟩
 case round =>
  clear hS hT hU0 hV0 hA0 hPl
  obtain ⟨i, j, x, A, U, Y, B, hk, rfl, rfl, hA, hU, hV, hxm, hmj, hi1, hj1, hT, hS⟩ := hrel
  by_cases hij : i = j
  · skip
    repeat' (first
     | ((with_reducible apply mv9); (first | go_big_want | go_step); go_step) | ((with_reducible apply gs9 20); (refine wvv9 (V.neq rfl rfl) ?_; go_step)) | ((fail_if_success with_reducible apply ga9); go_step))
    repeat' (first
     | ((with_reducible apply gs9 53); (refine wplV (.int _ (((x : Nat) : Int))) (V.as (V.subI rfl rfl (by omega)) (by omega)) rfl ?_; go_step)) | ((with_reducible apply gt9 _ (.call ⟨.value (.func 112), _, _⟩)); refine wpl_call (f := 112) Tryd.call112 kr9 ?_; refine ⟨_, (swapRange_any W _ _ rs' g n c x m i _ hS Pull.head (by omega) (by omega) hn K), ?_⟩; rintro e w ⟨rfl, Q, hQ, hS2⟩; replace hS := hS2; clear hS2; refine ⟨_, rfl, ?_⟩; refine put_move ?_; go_step) | ((with_reducible apply mv9); (first | go_big_want | go_step); go_step) | ((fail_if_success with_reducible apply ga9); go_step))
    go_end0
    refine ⟨rfl, Q, HG.out Q ?_, hS⟩
    rw [← hxm, ← hA] at hQ
    rw [hij] at hQ
    obtain ⟨U1, U2, e1, e2, e3, e4, e5⟩ := Rot.left (hij ▸ hU) hV (Nat.le_refl _) hQ
    have : U2 = [] := List.eq_nil_of_length_eq_zero (by omega)
    subst this
    rw [e4, ← hT, e5]
    simp
  · by_cases hlt : j < i
    · skip
      repeat' (first
       | ((with_reducible apply mv9); (first | go_big_want | go_step); go_step) | ((with_reducible apply gs9 20); (refine wvv9 (V.neq rfl rfl) ?_; go_step)) | ((with_reducible apply gs9 23); (refine wvv9 (V.gtr rfl rfl) ?_; go_step)) | ((fail_if_success with_reducible apply ga9); go_step))
      repeat' (first
       | ((with_reducible apply gs9 27); (refine wplV (.int _ (((x : Nat) : Int))) (V.as (V.subI rfl rfl (by omega)) (by omega)) rfl ?_; go_step)) | ((with_reducible apply gs9 34); (refine wplV (.int _ (((i - j : Nat) : Int))) (V.as (V.subI rfl rfl (by omega)) (by omega)) rfl ?_; go_step)) | ((with_reducible apply gt9 _ (.call ⟨.value (.func 112), _, _⟩)); refine wpl_call (f := 112) Tryd.call112 kr9 ?_; refine ⟨_, (swapRange_any W _ _ rs' g n c x m j _ hS Pull.head (by omega) (by omega) hn K), ?_⟩; rintro e w ⟨rfl, Q, hQ, hS2⟩; replace hS := hS2; clear hS2; refine ⟨_, rfl, ?_⟩; refine put_move ?_; go_step) | ((first | (with_reducible apply mv9) | (with_reducible apply as9)); (first | go_big_want | go_step); go_step) | ((fail_if_success with_reducible apply ga9); go_step))
      rw [← hxm, ← hA] at hQ
      obtain ⟨U1, U2, e1, e2, e3, e4, e5⟩ := Rot.left hU hV (by omega) hQ
      rw [e4] at hS
      rw [e5] at hT
      clear hQ e1 e4 e5
      go_roundg (gk - j)
      case measure => omega
      case rel => exact ⟨i - j, j, x + j, A ++ Y, U2, U1, B, by omega, rfl, rfl, by simp; omega, e3, e2, by omega, by omega, by omega, by omega, hT, hS⟩
    · skip
      repeat' (first
       | ((with_reducible apply mv9); (first | go_big_want | go_step); go_step) | ((with_reducible apply gs9 20); (refine wvv9 (V.neq rfl rfl) ?_; go_step)) | ((with_reducible apply gs9 23); (refine wvv9 (V.gtr rfl rfl) ?_; go_step)) | ((fail_if_success with_reducible apply ga9); go_step))
      repeat' (first
       | ((with_reducible apply gs9 38); (refine wplV (.int _ (((x : Nat) : Int))) (V.as (V.subI rfl rfl (by omega)) (by omega)) rfl ?_; go_step)) | ((with_reducible apply gs9 43); (refine wplV (.int _ (((x + j : Nat) : Int))) (V.as (V.subI rfl rfl (by omega)) (by omega)) rfl ?_; go_step)) | ((with_reducible apply gs9 49); (refine wplV (.int _ (((j - i : Nat) : Int))) (V.as (V.subI rfl rfl (by omega)) (by omega)) rfl ?_; go_step)) | ((with_reducible apply gt9 _ (.call ⟨.value (.func 112), _, _⟩)); refine wpl_call (f := 112) Tryd.call112 kr9 ?_; refine ⟨_, (swapRange_any W _ _ rs' g n c x (x + j) i _ hS Pull.head (by omega) (by omega) hn K), ?_⟩; rintro e w ⟨rfl, Q, hQ, hS2⟩; replace hS := hS2; clear hS2; refine ⟨_, rfl, ?_⟩; refine put_move ?_; go_step) | ((first | (with_reducible apply mv9) | (with_reducible apply as9)); (first | go_big_want | go_step); go_step) | ((with_reducible apply gs9 41); (refine wvv9 (V.addI rfl rfl (by omega)) ?_; go_step)) | ((fail_if_success with_reducible apply ga9); go_step))
      rw [← hA] at hQ
      obtain ⟨V1, V2, e1, e2, e3, e4, e5⟩ := Rot.right hU hV (by omega) hQ
      rw [e4] at hS
      rw [e5] at hT
      clear hQ e1 e4 e5
      go_roundg (gk - i)
      case measure => omega
      case rel => exact ⟨i, j - i, x, A, V2, V1, U ++ B, by omega, rfl, rfl, hA, e3, e2, by omega, by omega, by omega, by omega, hT, hS⟩
abbrev byW : Value := .func (.func 67) #[] #[]
abbrev wk (P : List PkV) (i : Nat) : Int := (elt P i).w
theorem cmpv_lt (x y : Int) : cmpv x y < 0 ↔ x < y := by unfold cmpv; constructor <;> intro h <;> (repeat' split at h) <;> (repeat' split) <;> omega
theorem insSort_any (W w0 : World) (rs rs' : List Res) (g n c a b : Nat) (P : List PkV) (hS : St W w0 rs) (hp : Pull (pks g n c P) rs rs') (hab : a ≤ b) (hb : b ≤ n) (hn : n ≤ 1000000) :
 Calls Tryd.prog 100 #[.slice (some ⟨g, 0, none⟩) n c, .int .i64 a, .int .i64 b, byW] w0 fun e w => e = .returned (.tuple #[]) ∧ ∃ Q, Asc PkV.w a b Q ∧ Rg a b P Q ∧ St W w (pks g n c Q :: rs') := by
 replace hS := hS.pull hp
 have he := pkE_len
 have h1e := pkE_one
 have hPl := own_recs hS Pull.head pkE_len (by decide)
 go_enter Tryd.func100, Tryd.ntmps100
 repeat' (first
  | ((with_reducible apply gs9 11); (refine wplV (.int _ (((a + 1 : Nat) : Int))) (V.as (V.addI rfl rfl (by omega)) (by omega)) rfl ?_; go_step)) | ((first | (with_reducible apply mv9) | (with_reducible apply as9)); (first | go_big_want | go_step); go_step) | ((fail_if_success with_reducible apply ga9); go_step))
 go_loopg [8] (b - a) (fun gk iv w => ∃ (i : Nat) (Q : List PkV), gk + i = b + 1 ∧ a < i ∧ iv = .int .i64 i ∧ Asc PkV.w a i Q ∧ Rg a b P Q ∧ St W w (pks g n c Q :: rs'))
 case atStart => exact ⟨a + 1, P, by omega, by omega, rfl, fun x y h1 h2 h3 => by rw [show x = y by omega]; exact Int.le_refl _, Rg.refl a b P, hS⟩
 case round =>
  clear hS
  obtain ⟨i, Q, hi, hai, rfl, hA, hR, hS⟩ := hrel
  by_cases hlt : i < b
  · obtain ⟨gk1, hgk1⟩ : ∃ x, x = gk := ⟨_, rfl⟩
    subst hgk1
    have hQl := hR.len
    have HA := hid hA
    have HR := hid hR
    clear hA hR
    repeat' (first
     | ((first | (with_reducible apply mv9) | (with_reducible apply as9)); (first | go_big_want | go_step); go_step) | ((with_reducible apply gs9 14); (refine wvv9 (V.lss rfl rfl) ?_; go_step)) | ((fail_if_success with_reducible apply ga9); go_step))
    repeat' (first
     | ((fail_if_success with_reducible apply ga9); go_step))
    go_loopg [9] (i - a) (fun gk jv w => ∃ (j : Nat) (Z : List PkV), gk + a = j ∧ j ≤ i ∧ jv = .int .i64 j ∧ Dn i j Q Z ∧ (j < i → wk Q i ≤ wk Q j) ∧ Rg a b P Z ∧ St W w (pks g n c Z :: rs'))
    case atStart => exact ⟨i, Q, by omega, by omega, rfl, Dn.refl i Q, fun h => by omega, HR.out, hS⟩
    case round =>
     clear hS
     obtain ⟨j, Z, hj, hji, rfl, hD, hhi, hR, hS⟩ := hrel
     by_cases hja : a < j
     · obtain ⟨q, rfl⟩ : ∃ q, j = q + 1 := ⟨j - 1, by omega⟩
       obtain ⟨v, hv⟩ : ∃ v, cmpv (elt Z (q + 1)).w (elt Z q).w = v := ⟨_, rfl⟩
       have hv2 := cmpv_lt (elt Z (q + 1)).w (elt Z q).w
       rw [hv] at hv2
       rw [hD.eq, hD.lo q (by omega)] at hv2
       have HV := hid hv
       have HV2 := hid hv2
       have HD := hid hD
       have HR2 := hid hR
       have HH := hid hhi
       clear hv hv2 hD hR hhi
       repeat' (first
        | ((fail_if_success with_reducible apply ga9); go_step))
       refine drawn_lit [14] (fun w => St W w (pks g n c Z :: rs')) kr9 ?_
       replace hS := hS.drew
       focus
        refine takeM 0 _ al9 kr9 kr9 kr9 hq9 rfl ?_
        go_step
        refine takeM 1 _ al9 kr9 kr9 kr9 hq9 rfl ?_
        go_step
        (refine takeD 2 _ al9 kr9 kr9 kr9 hq9 (V.gtr rfl rfl) rfl (fun hB => ?_) (fun hB => ?_))
        rotate_left 1
        focus
         (try exact fo9)
         all_goals
          go_step
          refine takeM 3 _ al9 kr9 kr9 kr9 hq9 rfl ?_
          go_step
          refine takeN 4 al9 kr9 kr9 kr9 hq9 rfl ?_
          go_step
          refine takeN 5 al9 kr9 kr9 kr9 hq9 rfl ?_
          go_step
          refine takeN 6 al9 kr9 kr9 kr9 hq9 rfl ?_
          go_step
          refine takeN 7 al9 kr9 kr9 kr9 hq9 rfl ?_
          go_step
          refine takeN 8 al9 kr9 kr9 kr9 hq9 rfl ?_
          go_step
          refine takeN 9 al9 kr9 kr9 kr9 hq9 rfl ?_
          go_step
          refine takeN 10 al9 kr9 kr9 kr9 hq9 rfl ?_
          go_step
          refine takeN 11 al9 kr9 kr9 kr9 hq9 rfl ?_
          go_step
          refine takeN 12 al9 kr9 kr9 kr9 hq9 rfl ?_
          go_step
          refine takeN 13 al9 kr9 kr9 kr9 hq9 rfl ?_
          go_step
          refine takeN 14 al9 kr9 kr9 kr9 hq9 rfl ?_
          go_step
          refine takeN 15 al9 kr9 kr9 kr9 hq9 rfl ?_
          go_step
          refine takePickF 16 al9 kr9 kr9 kr9 hq9 rfl rfl ?_
          go_step
          refine drawn_done kr9 ?_ _
        rotate_right 1
        focus
         (try exact fo9)
         all_goals
          go_step
          refine takeM 3 _ al9 kr9 kr9 kr9 hq9 rfl ?_
          go_step
          refine takeM 4 _ al9 kr9 kr9 kr9 hq9 rfl ?_
          go_step
          refine takeM 5 _ al9 kr9 kr9 kr9 hq9 rfl ?_
          go_step
          refine takeM 6 _ al9 kr9 kr9 kr9 hq9 rfl ?_
          go_step
          (refine takeV 7 _ al9 kr9 kr9 kr9 hq9 (V.indexSl Tryd.underlying134 isz133 rfl rfl isn9 (by omega) rfl nq9) rfl ?_)
          go_step
          apply takeS 8 al9 kr9 kr9 kr9 hq9 [14, 15, 16] kr9 (hS.sub sb9)
          case hfr => intro w hS; ((refine wl9 ?_; apply wp_loadE hS 133 _ rfl _ _ rfl 2 (row_of rfl) _ _ _ _ _; (case hp => exact pl9); (case inst => infer_instance); (case he => with_reducible assumption); (case hq => exact rfl); (case hj => omega); refine put_move ?_; go_step)); refine wpList_nil ?_; exact ⟨rfl, rfl⟩
          case hd => rfl
          refine takeM 9 _ al9 kr9 kr9 kr9 hq9 rfl ?_
          go_step
          refine takeM 10 _ al9 kr9 kr9 kr9 hq9 rfl ?_
          go_step
          (refine takeV 11 (.int _ (((q : Nat) : Int))) al9 kr9 kr9 kr9 hq9 (V.as (V.subI rfl rfl (by omega)) (by omega)) rfl ?_)
          go_step
          (refine takeV 12 _ al9 kr9 kr9 kr9 hq9 (V.indexSl Tryd.underlying134 isz133 rfl rfl isn9 (by omega) rfl nq9) rfl ?_)
          go_step
          apply takeS 13 al9 kr9 kr9 kr9 hq9 [14, 15, 16] kr9 (hS.sub sb9)
          case hfr => intro w hS; ((refine wl9 ?_; apply wp_loadE hS 133 _ rfl _ _ rfl 2 (row_of rfl) _ _ _ _ _; (case hp => exact pl9); (case inst => infer_instance); (case he => with_reducible assumption); (case hq => exact rfl); (case hj => omega); refine put_move ?_; go_step)); refine wpList_nil ?_; exact ⟨rfl, rfl⟩
          case hd => rfl
          refine branch1 14 al9 rfl kr9 ?_
          refine wp_callV (f := 67) rfl rfl Tryd.call67 (byWeight_any _ (elt Z (q + 1)) (elt Z q)) ?_; rintro e w ⟨rfl, hE⟩; replace hS := hS.ext hE; clear hE; rw [HV.out]; refine ⟨_, rfl, ?_⟩
          refine ⟨fun h => absurd (by decide) h, ?_⟩
          refine drawn_move ?_
          go_step
          (refine takeV 15 _ al9 kr9 kr9 kr9 hq9 (V.lss rfl rfl) rfl ?_)
          go_step
          refine takePickT 16 al9 kr9 kr9 kr9 hq9 rfl rfl ?_
          go_step
          refine drawn_done kr9 ?_ _
       by_cases hc : v < 0
       · skip
         repeat' (first
          | ((fail_if_success with_reducible apply ga9); go_step))
         refine drawn_lit [15, 17] (fun w => St W w (pks g n c Z :: rs')) kr9 ?_
         replace hS := hS.drew
         focus
          refine takeM 0 _ al9 kr9 kr9 kr9 hq9 rfl ?_
          go_step
          refine takeM 1 _ al9 kr9 kr9 kr9 hq9 rfl ?_
          go_step
          refine takeM 2 _ al9 kr9 kr9 kr9 hq9 rfl ?_
          go_step
          refine takeM 3 _ al9 kr9 kr9 kr9 hq9 rfl ?_
          go_step
          (refine takeV 4 (.int _ (((q : Nat) : Int))) al9 kr9 kr9 kr9 hq9 (V.as (V.subI rfl rfl (by omega)) (by omega)) rfl ?_)
          go_step
          refine takeM 5 _ al9 kr9 kr9 kr9 hq9 rfl ?_
          go_step
          refine takeM 6 _ al9 kr9 kr9 kr9 hq9 rfl ?_
          go_step
          (refine takeV 7 (.int _ (((q : Nat) : Int))) al9 kr9 kr9 kr9 hq9 (V.as (V.subI rfl rfl (by omega)) (by omega)) rfl ?_)
          go_step
          (refine takeV 8 _ al9 kr9 kr9 kr9 hq9 (V.indexSl Tryd.underlying134 isz133 rfl rfl isn9 (by omega) rfl nq9) rfl ?_)
          go_step
          apply takeS 9 al9 kr9 kr9 kr9 hq9 [14, 15, 16, 17] kr9 (hS.sub sb9)
          case hfr => intro w hS; ((refine wl9 ?_; apply wp_loadE hS 133 _ rfl _ _ rfl 2 (row_of rfl) _ _ _ _ _; (case hp => exact pl9); (case inst => infer_instance); (case he => with_reducible assumption); (case hq => exact rfl); (case hj => omega); refine put_move ?_; go_step)); refine wpList_nil ?_; exact ⟨rfl, rfl⟩
          case hd => rfl
          refine takeM 10 _ al9 kr9 kr9 kr9 hq9 rfl ?_
          go_step
          refine takeM 11 _ al9 kr9 kr9 kr9 hq9 rfl ?_
          go_step
          (refine takeV 12 _ al9 kr9 kr9 kr9 hq9 (V.indexSl Tryd.underlying134 isz133 rfl rfl isn9 (by omega) rfl nq9) rfl ?_)
          go_step
          apply takeS 13 al9 kr9 kr9 kr9 hq9 [14, 15, 16, 17] kr9 (hS.sub sb9)
          case hfr => intro w hS; ((refine wl9 ?_; apply wp_loadE hS 133 _ rfl _ _ rfl 2 (row_of rfl) _ _ _ _ _; (case hp => exact pl9); (case inst => infer_instance); (case he => with_reducible assumption); (case hq => exact rfl); (case hj => omega); refine put_move ?_; go_step)); refine wpList_nil ?_; exact ⟨rfl, rfl⟩
          case hd => rfl
          (refine takeV 14 _ al9 kr9 kr9 kr9 hq9 (V.indexSl Tryd.underlying134 isz133 rfl rfl isn9 (by omega) rfl nq9) rfl ?_)
          go_step
          refine branch1 15 al9 rfl kr9 ?_
          (apply wp_storeE hS 133 _ _ rfl _ _ rfl 2 (row_of rfl) _ _ _ _ _; (case hp => exact pl9); (case inst => infer_instance); (case he => with_reducible assumption); (case hone => with_reducible assumption); (case hq => exact rfl); (case hj => omega); (case hy => exact rfl); (case hd => exact rfl); clear hS; intro w hS)
          refine ⟨fun h => absurd (by decide) h, ?_⟩
          (refine takeV 16 _ al9 kr9 kr9 kr9 hq9 (V.indexSl Tryd.underlying134 isz133 rfl rfl isn9 (by omega) rfl nq9) rfl ?_)
          go_step
          refine branch1 17 al9 rfl kr9 ?_
          (apply wp_storeE hS 133 _ _ rfl _ _ rfl 2 (row_of rfl) _ _ _ _ _; (case hp => exact pl9); (case inst => infer_instance); (case he => with_reducible assumption); (case hone => with_reducible assumption); (case hq => exact rfl); (case hj => omega); (case hy => exact rfl); (case hd => exact rfl); clear hS; intro w hS)
          refine ⟨fun h => absurd (by decide) h, ?_⟩
          refine drawn_done kr9 ?_ _
         repeat' (first
          | ((with_reducible apply gs9 36); (refine wplV (.int _ (((q : Nat) : Int))) (V.as (V.subI rfl rfl (by omega)) (by omega)) rfl ?_; go_step)) | ((first | (with_reducible apply mv9) | (with_reducible apply as9)); (first | go_big_want | go_step); go_step) | ((fail_if_success with_reducible apply ga9); go_step))
         go_roundg (gk - 1)
         case measure => omega
         case rel => exact ⟨q, swp Z (q + 1) q, by omega, by omega, by go_num, HD.out.step (by omega) (by omega) (by omega), fun _ => by have := HV2.out.1 hc; exact Int.le_of_lt this, HR2.out.trans (swp_mid _ _ _ _ _ (by omega) (by omega) (by omega) (by omega) (by rw [HR2.out.len]; omega)), hS⟩
       · skip
         repeat' (first
          | ((with_reducible apply gs9 16); (refine wplV (.int _ (((i + 1 : Nat) : Int))) (V.as (V.addI rfl rfl (by omega)) (by omega)) rfl ?_; go_step)) | ((first | (with_reducible apply mv9) | (with_reducible apply as9)); (first | go_big_want | go_step); go_step) | ((fail_if_success with_reducible apply ga9); go_step))
         go_roundg (gk1 - 1)
         case measure => omega
         case rel =>
          refine ⟨i + 1, Z, by omega, by omega, by go_num, HD.out.asc HA.out (by omega) (by omega) (fun _ => ?_) (fun _ => HH.out (by omega)), HR2.out, hS⟩
          have := HV2.out
          show (elt Q (q + 1 - 1)).w ≤ (elt Q i).w
          rw [Nat.add_sub_cancel]
          omega
     · obtain rfl : j = a := by omega
       repeat' (first
        | ((fail_if_success with_reducible apply ga9); go_step))
       refine drawn_lit [14] (fun w => St W w (pks g n c Z :: rs')) kr9 ?_
       replace hS := hS.drew
       focus
        refine takeM 0 _ al9 kr9 kr9 kr9 hq9 rfl ?_
        go_step
        refine takeM 1 _ al9 kr9 kr9 kr9 hq9 rfl ?_
        go_step
        (refine takeD 2 _ al9 kr9 kr9 kr9 hq9 (V.gtr rfl rfl) rfl (fun hB => ?_) (fun hB => ?_))
        rotate_left 1
        focus
         (try exact fo9)
         all_goals
          go_step
          refine takeM 3 _ al9 kr9 kr9 kr9 hq9 rfl ?_
          go_step
          refine takeN 4 al9 kr9 kr9 kr9 hq9 rfl ?_
          go_step
          refine takeN 5 al9 kr9 kr9 kr9 hq9 rfl ?_
          go_step
          refine takeN 6 al9 kr9 kr9 kr9 hq9 rfl ?_
          go_step
          refine takeN 7 al9 kr9 kr9 kr9 hq9 rfl ?_
          go_step
          refine takeN 8 al9 kr9 kr9 kr9 hq9 rfl ?_
          go_step
          refine takeN 9 al9 kr9 kr9 kr9 hq9 rfl ?_
          go_step
          refine takeN 10 al9 kr9 kr9 kr9 hq9 rfl ?_
          go_step
          refine takeN 11 al9 kr9 kr9 kr9 hq9 rfl ?_
          go_step
          refine takeN 12 al9 kr9 kr9 kr9 hq9 rfl ?_
          go_step
          refine takeN 13 al9 kr9 kr9 kr9 hq9 rfl ?_
          go_step
          refine takeN 14 al9 kr9 kr9 kr9 hq9 rfl ?_
          go_step
          refine takeN 15 al9 kr9 kr9 kr9 hq9 rfl ?_
          go_step
          refine takePickF 16 al9 kr9 kr9 kr9 hq9 rfl rfl ?_
          go_step
          refine drawn_done kr9 ?_ _
        rotate_right 1
        focus
         (try exact fo9)
         all_goals
          go_step
          refine takeM 3 _ al9 kr9 kr9 kr9 hq9 rfl ?_
          go_step
          refine takeM 4 _ al9 kr9 kr9 kr9 hq9 rfl ?_
          go_step
          refine takeM 5 _ al9 kr9 kr9 kr9 hq9 rfl ?_
          go_step
          refine takeM 6 _ al9 kr9 kr9 kr9 hq9 rfl ?_
          go_step
          first | (refine takeV 7 _ al9 kr9 kr9 kr9 hq9 (V.indexSl Tryd.underlying134 isz133 rfl rfl isn9 (by omega) rfl nq9) rfl ?_)
          go_step
          apply takeS 8 al9 kr9 kr9 kr9 hq9 [14, 15, 16] kr9 (hS.sub sb9)
          case hfr => intro w hS; (first | (refine wl9 ?_; apply wp_loadE hS 133 _ rfl _ _ rfl 2 (row_of rfl) _ _ _ _ _; (case hp => exact pl9); (case inst => infer_instance); (case he => with_reducible assumption); (case hq => exact rfl); (case hj => omega); refine put_move ?_; go_step) | (refine wl9 ?_; apply wp_loadA hS 133 _ rfl _ rfl 2 (row_of rfl) _; (case hp => exact pl9); refine put_move ?_; go_step) | (refine wl9 ?_; apply wp_loadG hS 133 _ rfl _ rfl 2 (row_of rfl) _; (case hp => exact pl9); (case hn => rfl); refine put_move ?_; go_step) | (refine wl9 ?_; apply wp_loadRW hS 133 _ rfl _ _ rfl 2 (row_of rfl) _; (case hc => with_reducible assumption); (case hn => rfl); refine put_move ?_; go_step)); refine wpList_nil ?_; exact ⟨rfl, rfl⟩
          case hd => rfl
          refine takeM 9 _ al9 kr9 kr9 kr9 hq9 rfl ?_
          go_step
          refine takeM 10 _ al9 kr9 kr9 kr9 hq9 rfl ?_
          go_step
          first | (refine takeV 11 _ al9 kr9 kr9 kr9 hq9 (V.subI rfl rfl (by omega)) rfl ?_) | (refine takeV 11 _ al9 kr9 kr9 kr9 hq9 (V.subR (by decide) rfl rfl) rfl ?_)
          go_step
          first | (refine takeV 12 _ al9 kr9 kr9 kr9 hq9 (V.indexSl Tryd.underlying134 isz133 rfl rfl isn9 (by omega) rfl nq9) rfl ?_)
          go_step
          apply takeS 13 al9 kr9 kr9 kr9 hq9 [14, 15, 16] kr9 (hS.sub sb9)
          case hfr => intro w hS; (first | (refine wl9 ?_; apply wp_loadE hS 133 _ rfl _ _ rfl 2 (row_of rfl) _ _ _ _ _; (case hp => exact pl9); (case inst => infer_instance); (case he => with_reducible assumption); (case hq => exact rfl); (case hj => omega); refine put_move ?_; go_step) | (refine wl9 ?_; apply wp_loadA hS 133 _ rfl _ rfl 2 (row_of rfl) _; (case hp => exact pl9); refine put_move ?_; go_step) | (refine wl9 ?_; apply wp_loadG hS 133 _ rfl _ rfl 2 (row_of rfl) _; (case hp => exact pl9); (case hn => rfl); refine put_move ?_; go_step) | (refine wl9 ?_; apply wp_loadRW hS 133 _ rfl _ _ rfl 2 (row_of rfl) _; (case hc => with_reducible assumption); (case hn => rfl); refine put_move ?_; go_step)); refine wpList_nil ?_; exact ⟨rfl, rfl⟩
          case hd => rfl
          refine branch1 14 al9 rfl kr9 ?_
          fail "no law: Op.call { callee := Callee.value (Operand.tmp 22), args := #"
          refine ⟨fun h => absurd (by decide) h, ?_⟩
          refine drawn_move ?_
          go_step
          first | (refine takeV 15 _ al9 kr9 kr9 kr9 hq9 (V.lss rfl rfl) rfl ?_)
          go_step
          refine takePickT 16 al9 kr9 kr9 kr9 hq9 rfl rfl ?_
          go_step
          refine drawn_done kr9 ?_ _
       repeat' (first
        | ((with_reducible apply gs9 16); (refine wplV (.int _ (((i + 1 : Nat) : Int))) (V.as (V.addI rfl rfl (by omega)) (by omega)) rfl ?_; go_step)) | ((first | (with_reducible apply mv9) | (with_reducible apply as9)); (first | go_big_want | go_step); go_step) | ((fail_if_success with_reducible apply ga9); go_step))
       go_roundg (gk1 - 1)
       case measure => omega
       case rel => exact ⟨i + 1, Z, by omega, by omega, by go_num, hD.asc HA.out (by omega) (by omega) (fun _ => by omega) (fun _ => hhi (by omega)), hR, hS⟩
  · skip
    repeat' (first
     | ((with_reducible apply mv9); (first | go_big_want | go_step); go_step) | ((with_reducible apply gs9 14); (refine wvv9 (V.lss rfl rfl) ?_; go_step)) | ((fail_if_success with_reducible apply ga9); go_step))
    go_end0
    exact ⟨rfl, Q, hA.sub (Nat.le_refl _) (by omega), hR, hS⟩

set_option maxRecDepth 100000
open Go.RowKit
set_option linter.unusedVariables false
set_option maxRecDepth 100000 in
set_option maxHeartbeats 8000000 in
theorem symMerge_any (N : Nat) : ∀ (W w0 : World) (rs rs' : List Res) (g n c a m b : Nat) (P : List PkV), b - a ≤ N → St W w0 rs → Pull (pks g n c P) rs rs' → a < m → m < b → b ≤ n → n ≤ 1000000 → Asc PkV.w a m P → Asc PkV.w m b P →
 Calls Tryd.prog 101 #[.slice (some ⟨g, 0, none⟩) n c, .int .i64 a, .int .i64 m, .int .i64 b, byW] w0 fun e w => e = .returned (.tuple #[]) ∧ ∃ Q, Asc PkV.w a b Q ∧ Rg a b P Q ∧ St W w (pks g n c Q :: rs') := by
 induction N with
 | zero => intro W w0 rs rs' g n c a m b P hN; omega
 | succ N ih =>
 intro W w0 rs rs' g n c a m b P hN hS hp ham hmb hb hn hA1 hA2
 replace hS := hS.pull hp
 have he := pkE_len
 have h1e := pkE_one
 have hPl := own_recs hS Pull.head pkE_len (by decide)
 have IH := hid ih
 have HA1 := hid hA1
 have HA2 := hid hA2
 clear ih hA1 hA2
 by_cases h1 : m - a = 1
 · obtain rfl : m = a + 1 := by omega
   go_enter Tryd.func101, Tryd.ntmps101
   repeat' (first
    | ((with_reducible apply gs9 27); (refine wplV (.int _ (1)) (V.as (V.subI rfl rfl (by omega)) (by omega)) rfl ?_; go_step)) | ((first | (with_reducible apply mv9) | (with_reducible apply as9)); (first | go_big_want | go_step); go_step) | ((with_reducible apply gs9 28); (refine wvv9 (V.eql rfl rfl) ?_; go_step)) | ((fail_if_success with_reducible apply ga9); go_step))
   go_loopg [10, 11] (b - (a + 1)) (fun gk iv jv w => ∃ (i j : Nat), gk + i = j ∧ a + 1 ≤ i ∧ j ≤ b ∧ iv = .int .i64 i ∧ jv = .int .i64 j ∧ (∀ x, a + 1 ≤ x → x < i → wk P x ≤ wk P a) ∧ (∀ x, j ≤ x → x < b → wk P a ≤ wk P x) ∧ St W w (pks g n c P :: rs'))
   case atStart => exact ⟨a + 1, b, by omega, by omega, by omega, rfl, rfl, fun x h1 h2 => by omega, fun x h1 h2 => by omega, hS⟩
   case round =>
    clear hS
    obtain ⟨i, j, hk, hi, hj, rfl, rfl, hlo, hhi, hS⟩ := hrel
    have HLO := hid hlo
    have HHI := hid hhi
    clear hlo hhi
    by_cases hlt : i < j
    · obtain ⟨h, hh⟩ : ∃ h, h = (i + j) / 2 := ⟨_, rfl⟩
      obtain ⟨v, hv⟩ : ∃ v, cmpv (elt P h).w (elt P a).w = v := ⟨_, rfl⟩
      have hv2 := cmpv_lt (elt P h).w (elt P a).w
      rw [hv] at hv2
      have HV := hid hv
      have HV2 := hid hv2
      clear hv hv2
      repeat' (first
       | ((with_reducible apply gs9 36); (refine wplV (.int _ (((i + j : Nat) : Int))) (V.as (V.addI rfl rfl (by omega)) (by omega)) rfl ?_; go_step)) | ((with_reducible apply gs9 38); (refine wplV (.int _ (((h : Nat) : Int))) (V.as (V.shr rfl rfl isn9 (by omega) rfl) (by omega)) rfl ?_; go_step)) | ((first | (with_reducible apply mv9) | (with_reducible apply as9)); (first | go_big_want | go_step); go_step) | ((with_reducible apply gs9 33); (refine wvv9 (V.lss rfl rfl) ?_; go_step)) | ((with_reducible apply gs9 37); (refine wvv9 (V.convI (by rw [Tryd.underlying3]; rfl) Tryd.underlying147 rfl (IntWalk.u64_in _ (by omega))) ?_; go_step)) | ((with_reducible apply gs9 39); (refine wvv9 (V.convI (by rw [Tryd.underlying147]; rfl) Tryd.underlying3 rfl (IntWalk.i64_in _ (by omega))) ?_; go_step)) | ((fail_if_success with_reducible apply ga9); go_step))
      refine drawn_lit [9] (fun w => St W w (pks g n c P :: rs')) kr9 ?_
      replace hS := hS.drew
      focus
       refine takeM 0 _ al9 kr9 kr9 kr9 hq9 rfl ?_
       go_step
       refine takeM 1 _ al9 kr9 kr9 kr9 hq9 rfl ?_
       go_step
       refine takeM 2 _ al9 kr9 kr9 kr9 hq9 rfl ?_
       go_step
       (refine takeV 3 _ al9 kr9 kr9 kr9 hq9 (V.indexSl Tryd.underlying134 isz133 rfl rfl isn9 (by omega) rfl nq9) rfl ?_)
       go_step
       apply takeS 4 al9 kr9 kr9 kr9 hq9 [9, 10] kr9 (hS.sub sb9)
       case hfr => intro w hS; ((refine wl9 ?_; apply wp_loadE hS 133 _ rfl _ _ rfl 2 (row_of rfl) _ _ _ _ _; (case hp => exact pl9); (case inst => infer_instance); (case he => with_reducible assumption); (case hq => exact rfl); (case hj => omega); refine put_move ?_; go_step)); refine wpList_nil ?_; exact ⟨rfl, rfl⟩
       case hd => rfl
       refine takeM 5 _ al9 kr9 kr9 kr9 hq9 rfl ?_
       go_step
       refine takeM 6 _ al9 kr9 kr9 kr9 hq9 rfl ?_
       go_step
       (refine takeV 7 _ al9 kr9 kr9 kr9 hq9 (V.indexSl Tryd.underlying134 isz133 rfl rfl isn9 (by omega) rfl nq9) rfl ?_)
       go_step
       apply takeS 8 al9 kr9 kr9 kr9 hq9 [9, 10] kr9 (hS.sub sb9)
       case hfr => intro w hS; ((refine wl9 ?_; apply wp_loadE hS 133 _ rfl _ _ rfl 2 (row_of rfl) _ _ _ _ _; (case hp => exact pl9); (case inst => infer_instance); (case he => with_reducible assumption); (case hq => exact rfl); (case hj => omega); refine put_move ?_; go_step)); refine wpList_nil ?_; exact ⟨rfl, rfl⟩
       case hd => rfl
       refine branch1 9 al9 rfl kr9 ?_
       refine wp_callV (f := 67) rfl rfl Tryd.call67 (byWeight_any _ (elt P h) (elt P a)) ?_; rintro e w ⟨rfl, hE⟩; replace hS := hS.ext hE; clear hE; rw [HV.out]; refine ⟨_, rfl, ?_⟩
       refine ⟨fun h => absurd (by decide) h, ?_⟩
       refine drawn_move ?_
       go_step
       (refine takeV 10 _ al9 kr9 kr9 kr9 hq9 (V.lss rfl rfl) rfl ?_)
       go_step
       refine drawn_done kr9 ?_ _
      by_cases hc : v < 0
      · skip
        repeat' (first
         | ((with_reducible apply gs9 52); (refine wplV (.int _ (((h + 1 : Nat) : Int))) (V.as (V.addI rfl rfl (by omega)) (by omega)) rfl ?_; go_step)) | ((first | (with_reducible apply mv9) | (with_reducible apply as9)); (first | go_big_want | go_step); go_step) | ((fail_if_success with_reducible apply ga9); go_step))
        go_roundg (j - (h + 1))
        case measure => omega
        case rel =>
         refine ⟨h + 1, j, by omega, by omega, by omega, by go_num, rfl, fun x k1 k2 => ?_, HHI.out, hS⟩
         have := HA2.out x h k1 (by omega) (by omega)
         have := HV2.out.1 hc
         show (elt P x).w ≤ (elt P a).w
         omega
      · skip
        repeat' (first
         | ((first | (with_reducible apply mv9) | (with_reducible apply as9)); (first | go_big_want | go_step); go_step) | ((fail_if_success with_reducible apply ga9); go_step))
        go_roundg (h - i)
        case measure => omega
        case rel =>
         refine ⟨i, h, by omega, by omega, by omega, rfl, by go_num, HLO.out, fun x k1 k2 => ?_, hS⟩
         have := HA2.out h x (by omega) k1 (by omega)
         have := HV2.out
         show (elt P a).w ≤ (elt P x).w
         omega
    · obtain rfl : i = j := by omega
      obtain ⟨p, rfl⟩ : ∃ p, i = p + 1 := ⟨i - 1, by omega⟩
      repeat' (first
       | ((first | (with_reducible apply mv9) | (with_reducible apply as9)); (first | go_big_want | go_step); go_step) | ((with_reducible apply gs9 33); (refine wvv9 (V.lss rfl rfl) ?_; go_step)) | ((fail_if_success with_reducible apply ga9); go_step))
      repeat' (first
       | ((fail_if_success with_reducible apply ga9); go_step))
      go_loopg [13] (p - a) (fun gk kv w => ∃ (k : Nat) (Q : List PkV), gk + k = p ∧ a ≤ k ∧ kv = .int .i64 k ∧ Upw a k P Q ∧ Rg a b P Q ∧ St W w (pks g n c Q :: rs'))
      case atStart => exact ⟨a, P, by omega, by omega, rfl, Upw.refl a P, Rg.refl a b P, hS⟩
      case round =>
       clear hS
       obtain ⟨k, Q, hk2, hak, rfl, hU, hR, hS⟩ := hrel
       have HU := hid hU
       have HR := hid hR
       clear hU hR
       by_cases hlt2 : k < p
       · skip
         repeat' (first
          | ((with_reducible apply gs9 57); (refine wplV (.int _ (((p : Nat) : Int))) (V.as (V.subI rfl rfl (by omega)) (by omega)) rfl ?_; go_step)) | ((with_reducible apply mv9); (first | go_big_want | go_step); go_step) | ((with_reducible apply gs9 58); (refine wvv9 (V.lss rfl rfl) ?_; go_step)) | ((fail_if_success with_reducible apply ga9); go_step))
         refine drawn_lit [15, 17] (fun w => St W w (pks g n c Q :: rs')) kr9 ?_
         replace hS := hS.drew
         focus
          refine takeM 0 _ al9 kr9 kr9 kr9 hq9 rfl ?_
          go_step
          refine takeM 1 _ al9 kr9 kr9 kr9 hq9 rfl ?_
          go_step
          refine takeM 2 _ al9 kr9 kr9 kr9 hq9 rfl ?_
          go_step
          refine takeM 3 _ al9 kr9 kr9 kr9 hq9 rfl ?_
          go_step
          (refine takeV 4 (.int _ (((k + 1 : Nat) : Int))) al9 kr9 kr9 kr9 hq9 (V.as (V.addI rfl rfl (by omega)) (by omega)) rfl ?_)
          go_step
          refine takeM 5 _ al9 kr9 kr9 kr9 hq9 rfl ?_
          go_step
          refine takeM 6 _ al9 kr9 kr9 kr9 hq9 rfl ?_
          go_step
          (refine takeV 7 (.int _ (((k + 1 : Nat) : Int))) al9 kr9 kr9 kr9 hq9 (V.as (V.addI rfl rfl (by omega)) (by omega)) rfl ?_)
          go_step
          (refine takeV 8 _ al9 kr9 kr9 kr9 hq9 (V.indexSl Tryd.underlying134 isz133 rfl rfl isn9 (by omega) rfl nq9) rfl ?_)
          go_step
          apply takeS 9 al9 kr9 kr9 kr9 hq9 [14, 15, 16, 17] kr9 (hS.sub sb9)
          case hfr => intro w hS; ((refine wl9 ?_; apply wp_loadE hS 133 _ rfl _ _ rfl 2 (row_of rfl) _ _ _ _ _; (case hp => exact pl9); (case inst => infer_instance); (case he => with_reducible assumption); (case hq => exact rfl); (case hj => omega); refine put_move ?_; go_step)); refine wpList_nil ?_; exact ⟨rfl, rfl⟩
          case hd => rfl
          refine takeM 10 _ al9 kr9 kr9 kr9 hq9 rfl ?_
          go_step
          refine takeM 11 _ al9 kr9 kr9 kr9 hq9 rfl ?_
          go_step
          (refine takeV 12 _ al9 kr9 kr9 kr9 hq9 (V.indexSl Tryd.underlying134 isz133 rfl rfl isn9 (by omega) rfl nq9) rfl ?_)
          go_step
          apply takeS 13 al9 kr9 kr9 kr9 hq9 [14, 15, 16, 17] kr9 (hS.sub sb9)
          case hfr => intro w hS; ((refine wl9 ?_; apply wp_loadE hS 133 _ rfl _ _ rfl 2 (row_of rfl) _ _ _ _ _; (case hp => exact pl9); (case inst => infer_instance); (case he => with_reducible assumption); (case hq => exact rfl); (case hj => omega); refine put_move ?_; go_step)); refine wpList_nil ?_; exact ⟨rfl, rfl⟩
          case hd => rfl
          (refine takeV 14 _ al9 kr9 kr9 kr9 hq9 (V.indexSl Tryd.underlying134 isz133 rfl rfl isn9 (by omega) rfl nq9) rfl ?_)
          go_step
          refine branch1 15 al9 rfl kr9 ?_
          (apply wp_storeE hS 133 _ _ rfl _ _ rfl 2 (row_of rfl) _ _ _ _ _; (case hp => exact pl9); (case inst => infer_instance); (case he => with_reducible assumption); (case hone => with_reducible assumption); (case hq => exact rfl); (case hj => omega); (case hy => exact rfl); (case hd => exact rfl); clear hS; intro w hS)
          refine ⟨fun h => absurd (by decide) h, ?_⟩
          (refine takeV 16 _ al9 kr9 kr9 kr9 hq9 (V.indexSl Tryd.underlying134 isz133 rfl rfl isn9 (by omega) rfl nq9) rfl ?_)
          go_step
          refine branch1 17 al9 rfl kr9 ?_
          (apply wp_storeE hS 133 _ _ rfl _ _ rfl 2 (row_of rfl) _ _ _ _ _; (case hp => exact pl9); (case inst => infer_instance); (case he => with_reducible assumption); (case hone => with_reducible assumption); (case hq => exact rfl); (case hj => omega); (case hy => exact rfl); (case hd => exact rfl); clear hS; intro w hS)
          refine ⟨fun h => absurd (by decide) h, ?_⟩
          refine drawn_done kr9 ?_ _
         repeat' (first
          | ((with_reducible apply gs9 60); (refine wplV (.int _ (((k + 1 : Nat) : Int))) (V.as (V.addI rfl rfl (by omega)) (by omega)) rfl ?_; go_step)) | ((first | (with_reducible apply mv9) | (with_reducible apply as9)); (first | go_big_want | go_step); go_step) | ((fail_if_success with_reducible apply ga9); go_step))
         go_roundg (gk - 1)
         case measure => omega
         case rel => exact ⟨k + 1, swp Q k (k + 1), by omega, by omega, by go_num, HU.out.step (by omega) (by omega), HR.out.trans (swp_mid _ _ _ _ _ (by omega) (by omega) (by omega) (by omega) (by rw [HR.out.len]; omega)), hS⟩
       · obtain rfl : k = p := by omega
         repeat' (first
          | ((with_reducible apply gs9 57); (refine wplV (.int _ (((k : Nat) : Int))) (V.as (V.subI rfl rfl (by omega)) (by omega)) rfl ?_; go_step)) | ((with_reducible apply mv9); (first | go_big_want | go_step); go_step) | ((with_reducible apply gs9 58); (refine wvv9 (V.lss rfl rfl) ?_; go_step)) | ((fail_if_success with_reducible apply ga9); go_step))
         refine bodyPost_ret (results_none rfl _ _ _) rfl ?_
         refine ⟨rfl, Q, HU.out.asc HA2.out hak (by omega) (fun h => HLO.out k (by omega) (by omega)) (fun h => HHI.out (k + 1) (Nat.le_refl _) h), HR.out, hS⟩
 · by_cases h2 : b - m = 1
   · obtain rfl : b = m + 1 := by omega
     go_enter Tryd.func101, Tryd.ntmps101
     repeat' (first
      | ((with_reducible apply gs9 27); (refine wplV (.int _ (((m - a : Nat) : Int))) (V.as (V.subI rfl rfl (by omega)) (by omega)) rfl ?_; go_step)) | ((with_reducible apply mv9); (first | go_big_want | go_step); go_step) | ((with_reducible apply gs9 28); (refine wvv9 (V.eql rfl rfl) ?_; go_step)) | ((fail_if_success with_reducible apply ga9); go_step))
     repeat' (first
      | ((with_reducible apply gs9 79); (refine wplV (.int _ (1)) (V.as (V.subI rfl rfl (by omega)) (by omega)) rfl ?_; go_step)) | ((first | (with_reducible apply mv9) | (with_reducible apply as9)); (first | go_big_want | go_step); go_step) | ((with_reducible apply gs9 80); (refine wvv9 (V.eql rfl rfl) ?_; go_step)) | ((fail_if_success with_reducible apply ga9); go_step))
     go_loopg [14, 15] (m - a) (fun gk iv jv w => ∃ (i j : Nat), gk + i = j ∧ a ≤ i ∧ j ≤ m ∧ iv = .int .i64 i ∧ jv = .int .i64 j ∧ (∀ x, a ≤ x → x < i → wk P x ≤ wk P m) ∧ (∀ x, j ≤ x → x < m → wk P m ≤ wk P x) ∧ St W w (pks g n c P :: rs'))
     case atStart => exact ⟨a, m, by omega, by omega, by omega, rfl, rfl, fun x h1 h2 => by omega, fun x h1 h2 => by omega, hS⟩
     case round =>
      clear hS
      obtain ⟨i, j, hk, hi, hj, rfl, rfl, hlo, hhi, hS⟩ := hrel
      have HLO := hid hlo
      have HHI := hid hhi
      clear hlo hhi
      by_cases hlt : i < j
      · obtain ⟨h, hh⟩ : ∃ h, h = (i + j) / 2 := ⟨_, rfl⟩
        obtain ⟨v, hv⟩ : ∃ v, cmpv (elt P m).w (elt P h).w = v := ⟨_, rfl⟩
        have hv2 := cmpv_lt (elt P m).w (elt P h).w
        rw [hv] at hv2
        have HV := hid hv
        have HV2 := hid hv2
        clear hv hv2
        repeat' (first
         | ((with_reducible apply gs9 88); (refine wplV (.int _ (((i + j : Nat) : Int))) (V.as (V.addI rfl rfl (by omega)) (by omega)) rfl ?_; go_step)) | ((with_reducible apply gs9 90); (refine wplV (.int _ (((h : Nat) : Int))) (V.as (V.shr rfl rfl isn9 (by omega) rfl) (by omega)) rfl ?_; go_step)) | ((first | (with_reducible apply mv9) | (with_reducible apply as9)); (first | go_big_want | go_step); go_step) | ((with_reducible apply gs9 85); (refine wvv9 (V.lss rfl rfl) ?_; go_step)) | ((with_reducible apply gs9 89); (refine wvv9 (V.convI (by rw [Tryd.underlying3]; rfl) Tryd.underlying147 rfl (IntWalk.u64_in _ (by omega))) ?_; go_step)) | ((with_reducible apply gs9 91); (refine wvv9 (V.convI (by rw [Tryd.underlying147]; rfl) Tryd.underlying3 rfl (IntWalk.i64_in _ (by omega))) ?_; go_step)) | ((fail_if_success with_reducible apply ga9); go_step))
        refine drawn_lit [9] (fun w => St W w (pks g n c P :: rs')) kr9 ?_
        replace hS := hS.drew
        focus
         refine takeM 0 _ al9 kr9 kr9 kr9 hq9 rfl ?_
         go_step
         refine takeM 1 _ al9 kr9 kr9 kr9 hq9 rfl ?_
         go_step
         refine takeM 2 _ al9 kr9 kr9 kr9 hq9 rfl ?_
         go_step
         (refine takeV 3 _ al9 kr9 kr9 kr9 hq9 (V.indexSl Tryd.underlying134 isz133 rfl rfl isn9 (by omega) rfl nq9) rfl ?_)
         go_step
         apply takeS 4 al9 kr9 kr9 kr9 hq9 [9, 10, 11] kr9 (hS.sub sb9)
         case hfr => intro w hS; ((refine wl9 ?_; apply wp_loadE hS 133 _ rfl _ _ rfl 2 (row_of rfl) _ _ _ _ _; (case hp => exact pl9); (case inst => infer_instance); (case he => with_reducible assumption); (case hq => exact rfl); (case hj => omega); refine put_move ?_; go_step)); refine wpList_nil ?_; exact ⟨rfl, rfl⟩
         case hd => rfl
         refine takeM 5 _ al9 kr9 kr9 kr9 hq9 rfl ?_
         go_step
         refine takeM 6 _ al9 kr9 kr9 kr9 hq9 rfl ?_
         go_step
         (refine takeV 7 _ al9 kr9 kr9 kr9 hq9 (V.indexSl Tryd.underlying134 isz133 rfl rfl isn9 (by omega) rfl nq9) rfl ?_)
         go_step
         apply takeS 8 al9 kr9 kr9 kr9 hq9 [9, 10, 11] kr9 (hS.sub sb9)
         case hfr => intro w hS; ((refine wl9 ?_; apply wp_loadE hS 133 _ rfl _ _ rfl 2 (row_of rfl) _ _ _ _ _; (case hp => exact pl9); (case inst => infer_instance); (case he => with_reducible assumption); (case hq => exact rfl); (case hj => omega); refine put_move ?_; go_step)); refine wpList_nil ?_; exact ⟨rfl, rfl⟩
         case hd => rfl
         refine branch1 9 al9 rfl kr9 ?_
         refine wp_callV (f := 67) rfl rfl Tryd.call67 (byWeight_any _ (elt P m) (elt P h)) ?_; rintro e w ⟨rfl, hE⟩; replace hS := hS.ext hE; clear hE; rw [HV.out]; refine ⟨_, rfl, ?_⟩
         refine ⟨fun h => absurd (by decide) h, ?_⟩
         refine drawn_move ?_
         go_step
         (refine takeV 10 _ al9 kr9 kr9 kr9 hq9 (V.lss rfl rfl) rfl ?_)
         go_step
         (refine takeV 11 _ al9 kr9 kr9 kr9 hq9 (V.notD rfl) rfl ?_)
         go_step
         refine drawn_done kr9 ?_ _
        by_cases hc : v < 0
        · skip
          repeat' (first
           | ((first | (with_reducible apply mv9) | (with_reducible apply as9)); (first | go_big_want | go_step); go_step) | ((fail_if_success with_reducible apply ga9); go_step))
          go_roundg (h - i)
          case measure => omega
          case rel =>
           refine ⟨i, h, by omega, by omega, by omega, rfl, by go_num, HLO.out, fun x k1 k2 => ?_, hS⟩
           have := HA1.out h x (by omega) k1 (by omega)
           have := HV2.out.1 hc
           show (elt P m).w ≤ (elt P x).w
           omega
        · skip
          repeat' (first
           | ((with_reducible apply gs9 105); (refine wplV (.int _ (((h + 1 : Nat) : Int))) (V.as (V.addI rfl rfl (by omega)) (by omega)) rfl ?_; go_step)) | ((first | (with_reducible apply mv9) | (with_reducible apply as9)); (first | go_big_want | go_step); go_step) | ((fail_if_success with_reducible apply ga9); go_step))
          go_roundg (j - (h + 1))
          case measure => omega
          case rel =>
           refine ⟨h + 1, j, by omega, by omega, by omega, by go_num, rfl, fun x k1 k2 => ?_, HHI.out, hS⟩
           have := HA1.out x h k1 (by omega) (by omega)
           have := HV2.out
           show (elt P x).w ≤ (elt P m).w
           omega
      · obtain rfl : i = j := by omega
        repeat' (first
         | ((first | (with_reducible apply mv9) | (with_reducible apply as9)); (first | go_big_want | go_step); go_step) | ((with_reducible apply gs9 85); (refine wvv9 (V.lss rfl rfl) ?_; go_step)) | ((fail_if_success with_reducible apply ga9); go_step))
        repeat' (first
         | ((fail_if_success with_reducible apply ga9); go_step))
        go_loopg [17] (m - i) (fun gk kv w => ∃ (k : Nat) (Q : List PkV), gk + i = k ∧ k ≤ m ∧ kv = .int .i64 k ∧ Dn m k P Q ∧ Rg a (m + 1) P Q ∧ St W w (pks g n c Q :: rs'))
        case atStart => exact ⟨m, P, by omega, by omega, rfl, Dn.refl m P, Rg.refl a _ P, hS⟩
        case round =>
         clear hS
         obtain ⟨k, Q, hk2, hkm, rfl, hU, hR, hS⟩ := hrel
         have HU := hid hU
         have HR := hid hR
         clear hU hR
         by_cases hlt2 : i < k
         · obtain ⟨q, rfl⟩ : ∃ q, k = q + 1 := ⟨k - 1, by omega⟩
           repeat' (first
            | ((with_reducible apply mv9); (first | go_big_want | go_step); go_step) | ((with_reducible apply gs9 110); (refine wvv9 (V.gtr rfl rfl) ?_; go_step)) | ((fail_if_success with_reducible apply ga9); go_step))
           refine drawn_lit [15, 17] (fun w => St W w (pks g n c Q :: rs')) kr9 ?_
           replace hS := hS.drew
           focus
            refine takeM 0 _ al9 kr9 kr9 kr9 hq9 rfl ?_
            go_step
            refine takeM 1 _ al9 kr9 kr9 kr9 hq9 rfl ?_
            go_step
            refine takeM 2 _ al9 kr9 kr9 kr9 hq9 rfl ?_
            go_step
            refine takeM 3 _ al9 kr9 kr9 kr9 hq9 rfl ?_
            go_step
            (refine takeV 4 (.int _ (((q : Nat) : Int))) al9 kr9 kr9 kr9 hq9 (V.as (V.subI rfl rfl (by omega)) (by omega)) rfl ?_)
            go_step
            refine takeM 5 _ al9 kr9 kr9 kr9 hq9 rfl ?_
            go_step
            refine takeM 6 _ al9 kr9 kr9 kr9 hq9 rfl ?_
            go_step
            (refine takeV 7 (.int _ (((q : Nat) : Int))) al9 kr9 kr9 kr9 hq9 (V.as (V.subI rfl rfl (by omega)) (by omega)) rfl ?_)
            go_step
            (refine takeV 8 _ al9 kr9 kr9 kr9 hq9 (V.indexSl Tryd.underlying134 isz133 rfl rfl isn9 (by omega) rfl nq9) rfl ?_)
            go_step
            apply takeS 9 al9 kr9 kr9 kr9 hq9 [14, 15, 16, 17] kr9 (hS.sub sb9)
            case hfr => intro w hS; ((refine wl9 ?_; apply wp_loadE hS 133 _ rfl _ _ rfl 2 (row_of rfl) _ _ _ _ _; (case hp => exact pl9); (case inst => infer_instance); (case he => with_reducible assumption); (case hq => exact rfl); (case hj => omega); refine put_move ?_; go_step)); refine wpList_nil ?_; exact ⟨rfl, rfl⟩
            case hd => rfl
            refine takeM 10 _ al9 kr9 kr9 kr9 hq9 rfl ?_
            go_step
            refine takeM 11 _ al9 kr9 kr9 kr9 hq9 rfl ?_
            go_step
            (refine takeV 12 _ al9 kr9 kr9 kr9 hq9 (V.indexSl Tryd.underlying134 isz133 rfl rfl isn9 (by omega) rfl nq9) rfl ?_)
            go_step
            apply takeS 13 al9 kr9 kr9 kr9 hq9 [14, 15, 16, 17] kr9 (hS.sub sb9)
            case hfr => intro w hS; ((refine wl9 ?_; apply wp_loadE hS 133 _ rfl _ _ rfl 2 (row_of rfl) _ _ _ _ _; (case hp => exact pl9); (case inst => infer_instance); (case he => with_reducible assumption); (case hq => exact rfl); (case hj => omega); refine put_move ?_; go_step)); refine wpList_nil ?_; exact ⟨rfl, rfl⟩
            case hd => rfl
            (refine takeV 14 _ al9 kr9 kr9 kr9 hq9 (V.indexSl Tryd.underlying134 isz133 rfl rfl isn9 (by omega) rfl nq9) rfl ?_)
            go_step
            refine branch1 15 al9 rfl kr9 ?_
            (apply wp_storeE hS 133 _ _ rfl _ _ rfl 2 (row_of rfl) _ _ _ _ _; (case hp => exact pl9); (case inst => infer_instance); (case he => with_reducible assumption); (case hone => with_reducible assumption); (case hq => exact rfl); (case hj => omega); (case hy => exact rfl); (case hd => exact rfl); clear hS; intro w hS)
            refine ⟨fun h => absurd (by decide) h, ?_⟩
            (refine takeV 16 _ al9 kr9 kr9 kr9 hq9 (V.indexSl Tryd.underlying134 isz133 rfl rfl isn9 (by omega) rfl nq9) rfl ?_)
            go_step
            refine branch1 17 al9 rfl kr9 ?_
            (apply wp_storeE hS 133 _ _ rfl _ _ rfl 2 (row_of rfl) _ _ _ _ _; (case hp => exact pl9); (case inst => infer_instance); (case he => with_reducible assumption); (case hone => with_reducible assumption); (case hq => exact rfl); (case hj => omega); (case hy => exact rfl); (case hd => exact rfl); clear hS; intro w hS)
            refine ⟨fun h => absurd (by decide) h, ?_⟩
            refine drawn_done kr9 ?_ _
           repeat' (first
            | ((with_reducible apply gs9 112); (refine wplV (.int _ (((q : Nat) : Int))) (V.as (V.subI rfl rfl (by omega)) (by omega)) rfl ?_; go_step)) | ((first | (with_reducible apply mv9) | (with_reducible apply as9)); (first | go_big_want | go_step); go_step) | ((fail_if_success with_reducible apply ga9); go_step))
           go_roundg (gk - 1)
           case measure => omega
           case rel => exact ⟨q, swp Q (q + 1) q, by omega, by omega, by go_num, HU.out.step (by omega) (by omega) (by omega), HR.out.trans (swp_mid _ _ _ _ _ (by omega) (by omega) (by omega) (by omega) (by rw [HR.out.len]; omega)), hS⟩
         · obtain rfl : k = i := by omega
           repeat' (first
            | ((with_reducible apply mv9); (first | go_big_want | go_step); go_step) | ((with_reducible apply gs9 110); (refine wvv9 (V.gtr rfl rfl) ?_; go_step)) | ((fail_if_success with_reducible apply ga9); go_step))
           refine bodyPost_ret (results_none rfl _ _ _) rfl ?_
           refine ⟨rfl, Q, HU.out.asc HA1.out hi (by omega) (fun h => HLO.out (k - 1) (by omega) (by omega)) (fun h => HHI.out k (Nat.le_refl _) h), HR.out, hS⟩
   · obtain ⟨mid, hmid⟩ : ∃ mid, mid = (a + b) / 2 := ⟨_, rfl⟩
     obtain ⟨T, hT⟩ : ∃ T, T = mid + m := ⟨_, rfl⟩
     obtain ⟨s0, hs0⟩ : ∃ s0, s0 = if mid < m then T - b else a := ⟨_, rfl⟩
     obtain ⟨r0, hr0⟩ : ∃ r0, r0 = if mid < m then mid else m := ⟨_, rfl⟩
     have hs0a : mid < m → s0 = T - b := fun h => by rw [hs0, if_pos h]
     have hs0b : ¬ mid < m → s0 = a := fun h => by rw [hs0, if_neg h]
     have hr0a : mid < m → r0 = mid := fun h => by rw [hr0, if_pos h]
     have hr0b : ¬ mid < m → r0 = m := fun h => by rw [hr0, if_neg h]
     clear hs0 hr0
     have hF : s0 ≤ r0 ∧ a ≤ s0 ∧ r0 ≤ mid ∧ r0 ≤ m ∧ (∀ st, s0 ≤ st → st ≤ r0 → m ≤ T - st ∧ T - st ≤ b ∧ st ≤ T) := by
      by_cases hc : mid < m
      · have := hs0a hc; have := hr0a hc
        exact ⟨by omega, by omega, by omega, by omega, fun st k1 k2 => by omega⟩
      · have := hs0b hc; have := hr0b hc
        exact ⟨by omega, by omega, by omega, by omega, fun st k1 k2 => by omega⟩
     obtain ⟨f1, f2, f3, f4, f5⟩ := hF
     have F5 := hid f5
     clear f5
     have HS0a := hid hs0a
     have HS0b := hid hs0b
     have HR0a := hid hr0a
     have HR0b := hid hr0b
     clear hs0a hs0b hr0a hr0b
     obtain ⟨d1, hd1⟩ : ∃ d, d = m - a := ⟨_, rfl⟩
     obtain ⟨d2, hd2⟩ : ∃ d, d = b - m := ⟨_, rfl⟩
     go_enter Tryd.func101, Tryd.ntmps101
     repeat' (first
      | ((with_reducible apply gs9 27); (refine wplV (.int _ (((d1 : Nat) : Int))) (V.as (V.subI rfl rfl (by omega)) (by omega)) rfl ?_; go_step)) | ((with_reducible apply mv9); (first | go_big_want | go_step); go_step) | ((with_reducible apply gs9 28); (refine wvv9 (V.eql rfl rfl) ?_; go_step)) | ((fail_if_success with_reducible apply ga9); go_step))
     repeat' (first
      | ((with_reducible apply gs9 79); (refine wplV (.int _ (((d2 : Nat) : Int))) (V.as (V.subI rfl rfl (by omega)) (by omega)) rfl ?_; go_step)) | ((with_reducible apply mv9); (first | go_big_want | go_step); go_step) | ((with_reducible apply gs9 80); (refine wvv9 (V.eql rfl rfl) ?_; go_step)) | ((fail_if_success with_reducible apply ga9); go_step))
     have h1' : a + 2 ≤ m := by omega
     have h2' : m + 2 ≤ b := by omega
     clear h1 h2 hd1 hd2
     by_cases hc : mid < m
     · have e1 := HS0a.out hc
       have e2 := HR0a.out hc
       repeat' (first
        | ((with_reducible apply gs9 131); (refine wplV (.int _ (((a + b : Nat) : Int))) (V.as (V.addI rfl rfl (by omega)) (by omega)) rfl ?_; go_step)) | ((with_reducible apply gs9 133); (refine wplV (.int _ (((mid : Nat) : Int))) (V.as (V.shr rfl rfl isn9 (by omega) rfl) (by omega)) rfl ?_; go_step)) | ((with_reducible apply gs9 137); (refine wplV (.int _ (((T : Nat) : Int))) (V.as (V.addI rfl rfl (by omega)) (by omega)) rfl ?_; go_step)) | ((with_reducible apply gs9 143); (refine wplV (.int _ (((s0 : Nat) : Int))) (V.as (V.subI rfl rfl (by omega)) (by omega)) rfl ?_; go_step)) | ((first | (with_reducible apply mv9) | (with_reducible apply as9)); (first | go_big_want | go_step); go_step) | ((with_reducible apply gs9 132); (refine wvv9 (V.convI (by rw [Tryd.underlying3]; rfl) Tryd.underlying147 rfl (IntWalk.u64_in _ (by omega))) ?_; go_step)) | ((with_reducible apply gs9 134); (refine wvv9 (V.convI (by rw [Tryd.underlying147]; rfl) Tryd.underlying3 rfl (IntWalk.i64_in _ (by omega))) ?_; go_step)) | ((with_reducible apply gs9 140); (refine wvv9 (V.gtr rfl rfl) ?_; go_step)) | ((fail_if_success with_reducible apply ga9); go_step))
       repeat' (first
        | ((with_reducible apply gs9 148); (refine wplV (.int _ (((T - 1 : Nat) : Int))) (V.as (V.subI rfl rfl (by omega)) (by omega)) rfl ?_; go_step)) | ((with_reducible apply as9); (first | go_big_want | go_step); go_step) | ((fail_if_success with_reducible apply ga9); go_step))
       go_loopg [20, 21] (r0 - s0) (fun gk iv jv w => ∃ (st r : Nat), gk + st = r ∧ s0 ≤ st ∧ r ≤ r0 ∧ iv = .int .i64 st ∧ jv = .int .i64 r ∧ (s0 < st → wk P (st - 1) ≤ wk P (T - st)) ∧ (r < r0 → wk P (T - 1 - r) ≤ wk P r) ∧ St W w (pks g n c P :: rs'))
       case atStart => exact ⟨s0, r0, by omega, by omega, by omega, by first | rfl | rw [e1], by first | rfl | rw [e2], fun h => by omega, fun h => by omega, hS⟩
       case round =>
        clear hS
        obtain ⟨st, r, hk, hst, hr, rfl, rfl, hlo, hhi, hS⟩ := hrel
        have HLO := hid hlo
        have HHI := hid hhi
        clear hlo hhi
        have f5 := F5.out st hst (by omega)
        by_cases hlt : st < r
        · obtain ⟨h, hh⟩ : ∃ h, h = (st + r) / 2 := ⟨_, rfl⟩
          obtain ⟨y, hy⟩ : ∃ y, y = T - 1 - h := ⟨_, rfl⟩
          have f6 := F5.out (h + 1) (by omega) (by omega)
          obtain ⟨v, hv⟩ : ∃ v, cmpv (elt P y).w (elt P h).w = v := ⟨_, rfl⟩
          have hv2 := cmpv_lt (elt P y).w (elt P h).w
          rw [hv] at hv2
          have HV := hid hv
          have HV2 := hid hv2
          clear hv hv2
          repeat' (first
           | ((with_reducible apply gs9 154); (refine wplV (.int _ (((st + r : Nat) : Int))) (V.as (V.addI rfl rfl (by omega)) (by omega)) rfl ?_; go_step)) | ((with_reducible apply gs9 156); (refine wplV (.int _ (((h : Nat) : Int))) (V.as (V.shr rfl rfl isn9 (by omega) rfl) (by omega)) rfl ?_; go_step)) | ((first | (with_reducible apply mv9) | (with_reducible apply as9)); (first | go_big_want | go_step); go_step) | ((with_reducible apply gs9 151); (refine wvv9 (V.lss rfl rfl) ?_; go_step)) | ((with_reducible apply gs9 155); (refine wvv9 (V.convI (by rw [Tryd.underlying3]; rfl) Tryd.underlying147 rfl (IntWalk.u64_in _ (by omega))) ?_; go_step)) | ((with_reducible apply gs9 157); (refine wvv9 (V.convI (by rw [Tryd.underlying147]; rfl) Tryd.underlying3 rfl (IntWalk.i64_in _ (by omega))) ?_; go_step)) | ((fail_if_success with_reducible apply ga9); go_step))
          refine drawn_lit [11] (fun w => St W w (pks g n c P :: rs')) kr9 ?_
          replace hS := hS.drew
          focus
           refine takeM 0 _ al9 kr9 kr9 kr9 hq9 rfl ?_
           go_step
           refine takeM 1 _ al9 kr9 kr9 kr9 hq9 rfl ?_
           go_step
           refine takeM 2 _ al9 kr9 kr9 kr9 hq9 rfl ?_
           go_step
           refine takeM 3 _ al9 kr9 kr9 kr9 hq9 rfl ?_
           go_step
           (refine takeV 4 (.int _ (((y : Nat) : Int))) al9 kr9 kr9 kr9 hq9 (V.as (V.subI rfl rfl (by omega)) (by omega)) rfl ?_)
           go_step
           (refine takeV 5 _ al9 kr9 kr9 kr9 hq9 (V.indexSl Tryd.underlying134 isz133 rfl rfl isn9 (by omega) rfl nq9) rfl ?_)
           go_step
           apply takeS 6 al9 kr9 kr9 kr9 hq9 [11, 12, 13] kr9 (hS.sub sb9)
           case hfr => intro w hS; ((refine wl9 ?_; apply wp_loadE hS 133 _ rfl _ _ rfl 2 (row_of rfl) _ _ _ _ _; (case hp => exact pl9); (case inst => infer_instance); (case he => with_reducible assumption); (case hq => exact rfl); (case hj => omega); refine put_move ?_; go_step)); refine wpList_nil ?_; exact ⟨rfl, rfl⟩
           case hd => rfl
           refine takeM 7 _ al9 kr9 kr9 kr9 hq9 rfl ?_
           go_step
           refine takeM 8 _ al9 kr9 kr9 kr9 hq9 rfl ?_
           go_step
           (refine takeV 9 _ al9 kr9 kr9 kr9 hq9 (V.indexSl Tryd.underlying134 isz133 rfl rfl isn9 (by omega) rfl nq9) rfl ?_)
           go_step
           apply takeS 10 al9 kr9 kr9 kr9 hq9 [11, 12, 13] kr9 (hS.sub sb9)
           case hfr => intro w hS; ((refine wl9 ?_; apply wp_loadE hS 133 _ rfl _ _ rfl 2 (row_of rfl) _ _ _ _ _; (case hp => exact pl9); (case inst => infer_instance); (case he => with_reducible assumption); (case hq => exact rfl); (case hj => omega); refine put_move ?_; go_step)); refine wpList_nil ?_; exact ⟨rfl, rfl⟩
           case hd => rfl
           refine branch1 11 al9 rfl kr9 ?_
           refine wp_callV (f := 67) rfl rfl Tryd.call67 (byWeight_any _ (elt P y) (elt P h)) ?_; rintro e w ⟨rfl, hE⟩; replace hS := hS.ext hE; clear hE; rw [HV.out]; refine ⟨_, rfl, ?_⟩
           refine ⟨fun h => absurd (by decide) h, ?_⟩
           refine drawn_move ?_
           go_step
           (refine takeV 12 _ al9 kr9 kr9 kr9 hq9 (V.lss rfl rfl) rfl ?_)
           go_step
           (refine takeV 13 _ al9 kr9 kr9 kr9 hq9 (V.notD rfl) rfl ?_)
           go_step
           refine drawn_done kr9 ?_ _
          by_cases hc2 : v < 0
          · skip
            repeat' (first
             | ((first | (with_reducible apply mv9) | (with_reducible apply as9)); (first | go_big_want | go_step); go_step) | ((fail_if_success with_reducible apply ga9); go_step))
            go_roundg (h - st)
            case measure => omega
            case rel =>
             refine ⟨st, h, by omega, by omega, by omega, rfl, by go_num, HLO.out, fun k1 => ?_, hS⟩
             have := HV2.out.1 hc2
             rw [← hy]
             exact Int.le_of_lt this
          · skip
            repeat' (first
             | ((with_reducible apply gs9 173); (refine wplV (.int _ (((h + 1 : Nat) : Int))) (V.as (V.addI rfl rfl (by omega)) (by omega)) rfl ?_; go_step)) | ((first | (with_reducible apply mv9) | (with_reducible apply as9)); (first | go_big_want | go_step); go_step) | ((fail_if_success with_reducible apply ga9); go_step))
            go_roundg (r - (h + 1))
            case measure => omega
            case rel =>
             refine ⟨h + 1, r, by omega, by omega, by omega, by go_num, rfl, fun k1 => ?_, HHI.out, hS⟩
             have := HV2.out
             rw [show T - (h + 1) = y by omega, Nat.add_sub_cancel]
             show (elt P h).w ≤ (elt P y).w
             omega
        · obtain rfl : st = r := by omega
          obtain ⟨en, hen⟩ : ∃ en, en = T - st := ⟨_, rfl⟩
          have HLO2 : Hid (a < st → m ≤ en → en < b → wk P (st - 1) ≤ wk P en) := fun k1 k2 k3 => by
           rw [hen]; exact HLO.out (by omega)
          have HHI2 : Hid (m < en → st < m → wk P (en - 1) ≤ wk P st) := fun k1 k2 => by
           rw [show en - 1 = T - 1 - st by omega]; exact HHI.out (by omega)
          clear HLO HHI
          repeat' (first
           | ((with_reducible apply mv9); (first | go_big_want | go_step); go_step) | ((with_reducible apply gs9 151); (refine wvv9 (V.lss rfl rfl) ?_; go_step)) | ((fail_if_success with_reducible apply ga9); go_step))
          by_cases hrot : st < m ∧ m < en
          · have hrot1 := hrot.1
            have hrot2 := hrot.2
            repeat' (first
             | ((with_reducible apply gs9 177); (refine wplV (.int _ (((en : Nat) : Int))) (V.as (V.subI rfl rfl (by omega)) (by omega)) rfl ?_; go_step)) | ((with_reducible apply gt9 _ (.call ⟨.value (.func 109), _, _⟩)); refine wpl_call (f := 109) Tryd.call109 kr9 ?_; refine ⟨_, (rotate_any W _ _ rs' g n c st m en P hS Pull.head hrot1 hrot2 (by omega) hn byW), ?_⟩; rintro e w ⟨rfl, Q, hQ, hS2⟩; replace hS := hS2; clear hS2; refine ⟨_, rfl, ?_⟩; refine put_move ?_; go_step) | ((first | (with_reducible apply mv9) | (with_reducible apply as9)); (first | go_big_want | go_step); go_step) | ((with_reducible apply gt9 _ (.pick _ _ _)); (refine wplPickT rfl kr9 ?_; go_step)) | ((with_reducible apply gs9 180); (refine wplD _ (V.lss rfl rfl) kr9 (fun hB => ?_) (fun hB => ?_) <;> (try exact fo9) <;> go_step)) | ((with_reducible apply gs9 184); (refine wvv9 (V.lss rfl rfl) ?_; go_step)) | ((fail_if_success with_reducible apply ga9); go_step))
            obtain ⟨s1, s2, s3, s4, hx⟩ := sym_parts HA1.out HA2.out ham hmb hmid (show en = mid + m - st by omega) (by omega) (by omega) (by omega) (by omega) (by omega) HLO2.out HHI2.out hQ
            have hQr := hQ.rg (show st ≤ m by omega) (show m ≤ en by omega)
            have hQl := hQr.len
            have HQR := hid (hQr.wide (show a ≤ st by omega) (show en ≤ b by omega) (by omega) (by omega))
            have HX := hid hx
            have S1 := hid s1
            have S2 := hid s2
            have S3 := hid s3
            have S4 := hid s4
            have g1 : a ≤ st := by omega
            have g2 : st ≤ mid := by omega
            have g3 : mid ≤ en := by omega
            have g4 : en ≤ b := by omega
            have g5 : mid - a ≤ N := by omega
            have g6 : b - mid ≤ N := by omega
            have g7 : a < mid := by omega
            have g8 : mid < b := by omega
            have hQn : Q.length = n := by omega
            clear hx s1 s2 s3 s4 hQ hQr HLO2 HHI2 HA1 HA2 F5 HS0a HS0b HR0a HR0b hen hlt hk hst hr f5 f1 f2 f3 f4 hT hmid e1 e2 hc h1' h2' hN hrot hQl hPl hp ham hmb
            by_cases hl : a < st ∧ st < mid
            · obtain ⟨hl1, hl2⟩ := hl
              have hb2 : mid ≤ n := by omega
              have HC := hid (fun (w : World) (hS : St W w (pks g n c Q :: rs')) => IH.out W w (pks g n c Q :: rs') rs' g n c a st mid Q g5 hS Pull.head hl1 hl2 hb2 hn S1.out S2.out)
              repeat' (first
               | ((with_reducible apply gt9 _ (.call ⟨.value (.func 101), _, _⟩)); refine wpl_call (f := 101) Tryd.call101 kr9 ?_; refine ⟨_, (HC.out _ hS), ?_⟩; rintro e w ⟨rfl, R, hR1, hR2, hS2⟩; replace hS := hS2; clear hS2; refine ⟨_, rfl, ?_⟩; refine put_move ?_; go_step) | ((with_reducible apply mv9); (first | go_big_want | go_step); go_step) | ((with_reducible apply gt9 _ (.pick _ _ _)); (refine wplPickT rfl kr9 ?_; go_step)) | ((with_reducible apply gs9 194); (refine wplD _ (V.lss rfl rfl) kr9 (fun hB => ?_) (fun hB => ?_) <;> (try exact fo9) <;> go_step)) | ((with_reducible apply gs9 198); (refine wvv9 (V.lss rfl rfl) ?_; go_step)) | ((fail_if_success with_reducible apply ga9); go_step))
              have S5 := hid (S3.out.same (Q := R) fun x k1 k2 => hR2.out x (by omega))
              have S6 := hid (S4.out.same (Q := R) fun x k1 k2 => hR2.out x (by omega))
              have R1 := hid hR1
              have R2 := hid hR2
              clear hR1 hR2
              by_cases hr : mid < en ∧ en < b
              · obtain ⟨hr1, hr2⟩ := hr
                have HC := hid (fun (w : World) (hS : St W w (pks g n c R :: rs')) => IH.out W w (pks g n c R :: rs') rs' g n c mid en b R g6 hS Pull.head hr1 hr2 hb hn S5.out S6.out)
                repeat' (first
                 | ((with_reducible apply gt9 _ (.call ⟨.value (.func 101), _, _⟩)); refine wpl_call (f := 101) Tryd.call101 kr9 ?_; refine ⟨_, (HC.out _ hS), ?_⟩; rintro e w ⟨rfl, Z, hZ1, hZ2, hS2⟩; replace hS := hS2; clear hS2; refine ⟨_, rfl, ?_⟩; refine put_move ?_; go_step) | ((with_reducible apply mv9); (first | go_big_want | go_step); go_step) | ((with_reducible apply gt9 _ (.pick _ _ _)); (refine wplPickT rfl kr9 ?_; go_step)) | ((with_reducible apply gs9 208); (refine wplD _ (V.lss rfl rfl) kr9 (fun hB => ?_) (fun hB => ?_) <;> (try exact fo9) <;> go_step)) | ((with_reducible apply gs9 212); (refine wvv9 (V.lss rfl rfl) ?_; go_step)) | ((fail_if_success with_reducible apply ga9); go_step))
                go_end0
                obtain ⟨j1, j2⟩ := sym_join (show a ≤ mid by omega) (show mid ≤ b by omega) (show b ≤ Q.length by rw [hQn]; exact hb) HX.out R2.out hZ2 R1.out hZ1
                exact ⟨rfl, Z, j1, HQR.out.trans j2, hS⟩
              · have hZ1 : Asc PkV.w mid b R := by
                 by_cases c1 : mid < en
                 · exact S5.out.sub (Nat.le_refl _) (by omega)
                 · exact S6.out.sub (by omega) (Nat.le_refl _)
                repeat' (first
                 | ((with_reducible apply mv9); (first | go_big_want | go_step); go_step) | ((with_reducible apply gt9 _ (.pick _ _ _)); (refine wplPickT rfl kr9 ?_; go_step)) | ((with_reducible apply gs9 208); (refine wplD _ (V.lss rfl rfl) kr9 (fun hB => ?_) (fun hB => ?_) <;> (try exact fo9) <;> go_step)) | ((with_reducible apply gs9 212); (refine wvv9 (V.lss rfl rfl) ?_; go_step)) | ((fail_if_success with_reducible apply ga9); go_step))
                all_goals
                 go_end0
                 obtain ⟨j1, j2⟩ := sym_join (show a ≤ mid by omega) (show mid ≤ b by omega) (show b ≤ Q.length by rw [hQn]; exact hb) HX.out R2.out (Rg.refl _ _ _) R1.out hZ1
                 exact ⟨rfl, R, j1, HQR.out.trans j2, hS⟩
            · obtain ⟨R, hRe⟩ : ∃ R, R = Q := ⟨Q, rfl⟩
              have hR2 : Rg a mid Q R := by rw [hRe]; exact Rg.refl _ _ _
              have hR1 : Asc PkV.w a mid R := by
               rw [hRe]
               by_cases c1 : a < st
               · exact S1.out.sub (Nat.le_refl _) (by omega)
               · exact S2.out.sub (by omega) (Nat.le_refl _)
              rw [← hRe] at hS
              repeat' (first
               | go_skip | ((with_reducible apply mv9); (first | go_big_want | go_step); go_step) | ((with_reducible apply gt9 _ (.pick _ _ _)); first | (refine wplPickT rfl kr9 ?_; go_step) | (refine wplPickF rfl kr9 ?_; go_step)) | ((with_reducible apply gs9 194); (refine wplD _ (V.lss rfl rfl) kr9 (fun hB => ?_) (fun hB => ?_) <;> (try exact fo9) <;> go_step)) | ((with_reducible apply gs9 198); (refine wvv9 (V.lss rfl rfl) ?_; go_step)) | ((fail_if_success with_reducible apply ga9); go_step))
              all_goals
               have S5 := hid (S3.out.same (Q := R) fun x k1 k2 => hR2.out x (by omega))
               have S6 := hid (S4.out.same (Q := R) fun x k1 k2 => hR2.out x (by omega))
               have R1 := hid hR1
               have R2 := hid hR2
               clear hR1 hR2
               by_cases hr : mid < en ∧ en < b
               · obtain ⟨hr1, hr2⟩ := hr
                 have HC := hid (fun (w : World) (hS : St W w (pks g n c R :: rs')) => IH.out W w (pks g n c R :: rs') rs' g n c mid en b R g6 hS Pull.head hr1 hr2 hb hn S5.out S6.out)
                 repeat' (first
                  | ((with_reducible apply gt9 _ (.call ⟨.value (.func 101), _, _⟩)); refine wpl_call (f := 101) Tryd.call101 kr9 ?_; refine ⟨_, (HC.out _ hS), ?_⟩; rintro e w ⟨rfl, Z, hZ1, hZ2, hS2⟩; replace hS := hS2; clear hS2; refine ⟨_, rfl, ?_⟩; refine put_move ?_; go_step) | ((with_reducible apply mv9); (first | go_big_want | go_step); go_step) | ((with_reducible apply gt9 _ (.pick _ _ _)); (refine wplPickT rfl kr9 ?_; go_step)) | ((with_reducible apply gs9 208); (refine wplD _ (V.lss rfl rfl) kr9 (fun hB => ?_) (fun hB => ?_) <;> (try exact fo9) <;> go_step)) | ((with_reducible apply gs9 212); (refine wvv9 (V.lss rfl rfl) ?_; go_step)) | ((fail_if_success with_reducible apply ga9); go_step))
                 go_end0
                 obtain ⟨j1, j2⟩ := sym_join (show a ≤ mid by omega) (show mid ≤ b by omega) (show b ≤ Q.length by rw [hQn]; exact hb) HX.out R2.out hZ2 R1.out hZ1
                 exact ⟨rfl, Z, j1, HQR.out.trans j2, hS⟩
               · have hZ1 : Asc PkV.w mid b R := by
                  by_cases c1 : mid < en
                  · exact S5.out.sub (Nat.le_refl _) (by omega)
                  · exact S6.out.sub (by omega) (Nat.le_refl _)
                 repeat' (first
                  | ((with_reducible apply mv9); (first | go_big_want | go_step); go_step) | ((with_reducible apply gt9 _ (.pick _ _ _)); (refine wplPickT rfl kr9 ?_; go_step)) | ((with_reducible apply gs9 208); (refine wplD _ (V.lss rfl rfl) kr9 (fun hB => ?_) (fun hB => ?_) <;> (try exact fo9) <;> go_step)) | ((with_reducible apply gs9 212); (refine wvv9 (V.lss rfl rfl) ?_; go_step)) | ((fail_if_success with_reducible apply ga9); go_step))
                 all_goals
                  go_end0
                  obtain ⟨j1, j2⟩ := sym_join (show a ≤ mid by omega) (show mid ≤ b by omega) (show b ≤ Q.length by rw [hQn]; exact hb) HX.out R2.out (Rg.refl _ _ _) R1.out hZ1
                  exact ⟨rfl, R, j1, HQR.out.trans j2, hS⟩
          · obtain ⟨Q, hQe, hQ⟩ : ∃ Q, Q = P ∧ Rot st m en P Q := ⟨P, rfl, Rot.triv (by omega) (by omega) (by omega) (by omega)⟩
            rw [← hQe] at hS
            repeat' (first
             | ((with_reducible apply gs9 177); (refine wplV (.int _ (((en : Nat) : Int))) (V.as (V.subI rfl rfl (by omega)) (by omega)) rfl ?_; go_step)) | ((first | (with_reducible apply mv9) | (with_reducible apply as9)); (first | go_big_want | go_step); go_step) | ((with_reducible apply gt9 _ (.pick _ _ _)); (refine wplPickT rfl kr9 ?_; go_step)) | ((with_reducible apply gs9 180); (refine wplD _ (V.lss rfl rfl) kr9 (fun hB => ?_) (fun hB => ?_) <;> (try exact fo9) <;> go_step)) | ((with_reducible apply gs9 184); (refine wvv9 (V.lss rfl rfl) ?_; go_step)) | ((fail_if_success with_reducible apply ga9); go_step))
            all_goals
             obtain ⟨s1, s2, s3, s4, hx⟩ := sym_parts HA1.out HA2.out ham hmb hmid (show en = mid + m - st by omega) (by omega) (by omega) (by omega) (by omega) (by omega) HLO2.out HHI2.out hQ
             have hQr := hQ.rg (show st ≤ m by omega) (show m ≤ en by omega)
             have hQl := hQr.len
             have HQR := hid (hQr.wide (show a ≤ st by omega) (show en ≤ b by omega) (by omega) (by omega))
             have HX := hid hx
             have S1 := hid s1
             have S2 := hid s2
             have S3 := hid s3
             have S4 := hid s4
             have g1 : a ≤ st := by omega
             have g2 : st ≤ mid := by omega
             have g3 : mid ≤ en := by omega
             have g4 : en ≤ b := by omega
             have g5 : mid - a ≤ N := by omega
             have g6 : b - mid ≤ N := by omega
             have g7 : a < mid := by omega
             have g8 : mid < b := by omega
             have hQn : Q.length = n := by omega
             clear hx s1 s2 s3 s4 hQ hQr HLO2 HHI2 HA1 HA2 F5 HS0a HS0b HR0a HR0b hen hlt hk hst hr f5 f1 f2 f3 f4 hT hmid e1 e2 hc h1' h2' hN hrot hQl hPl hp ham hmb
             by_cases hl : a < st ∧ st < mid
             · obtain ⟨hl1, hl2⟩ := hl
               have hb2 : mid ≤ n := by omega
               have HC := hid (fun (w : World) (hS : St W w (pks g n c Q :: rs')) => IH.out W w (pks g n c Q :: rs') rs' g n c a st mid Q g5 hS Pull.head hl1 hl2 hb2 hn S1.out S2.out)
               repeat' (first
                | ((with_reducible apply gt9 _ (.call ⟨.value (.func 101), _, _⟩)); refine wpl_call (f := 101) Tryd.call101 kr9 ?_; refine ⟨_, (HC.out _ hS), ?_⟩; rintro e w ⟨rfl, R, hR1, hR2, hS2⟩; replace hS := hS2; clear hS2; refine ⟨_, rfl, ?_⟩; refine put_move ?_; go_step) | ((with_reducible apply mv9); (first | go_big_want | go_step); go_step) | ((with_reducible apply gt9 _ (.pick _ _ _)); (refine wplPickT rfl kr9 ?_; go_step)) | ((with_reducible apply gs9 194); (refine wplD _ (V.lss rfl rfl) kr9 (fun hB => ?_) (fun hB => ?_) <;> (try exact fo9) <;> go_step)) | ((with_reducible apply gs9 198); (refine wvv9 (V.lss rfl rfl) ?_; go_step)) | ((fail_if_success with_reducible apply ga9); go_step))
               have S5 := hid (S3.out.same (Q := R) fun x k1 k2 => hR2.out x (by omega))
               have S6 := hid (S4.out.same (Q := R) fun x k1 k2 => hR2.out x (by omega))
               have R1 := hid hR1
               have R2 := hid hR2
               clear hR1 hR2
               by_cases hr : mid < en ∧ en < b
               · obtain ⟨hr1, hr2⟩ := hr
                 have HC := hid (fun (w : World) (hS : St W w (pks g n c R :: rs')) => IH.out W w (pks g n c R :: rs') rs' g n c mid en b R g6 hS Pull.head hr1 hr2 hb hn S5.out S6.out)
                 repeat' (first
                  | ((with_reducible apply gt9 _ (.call ⟨.value (.func 101), _, _⟩)); refine wpl_call (f := 101) Tryd.call101 kr9 ?_; refine ⟨_, (HC.out _ hS), ?_⟩; rintro e w ⟨rfl, Z, hZ1, hZ2, hS2⟩; replace hS := hS2; clear hS2; refine ⟨_, rfl, ?_⟩; refine put_move ?_; go_step) | ((with_reducible apply mv9); (first | go_big_want | go_step); go_step) | ((with_reducible apply gt9 _ (.pick _ _ _)); (refine wplPickT rfl kr9 ?_; go_step)) | ((with_reducible apply gs9 208); (refine wplD _ (V.lss rfl rfl) kr9 (fun hB => ?_) (fun hB => ?_) <;> (try exact fo9) <;> go_step)) | ((with_reducible apply gs9 212); (refine wvv9 (V.lss rfl rfl) ?_; go_step)) | ((fail_if_success with_reducible apply ga9); go_step))
                 go_end0
                 obtain ⟨j1, j2⟩ := sym_join (show a ≤ mid by omega) (show mid ≤ b by omega) (show b ≤ Q.length by rw [hQn]; exact hb) HX.out R2.out hZ2 R1.out hZ1
                 exact ⟨rfl, Z, j1, HQR.out.trans j2, hS⟩
               · have hZ1 : Asc PkV.w mid b R := by
                  by_cases c1 : mid < en
                  · exact S5.out.sub (Nat.le_refl _) (by omega)
                  · exact S6.out.sub (by omega) (Nat.le_refl _)
                 repeat' (first
                  | go_skip | ((with_reducible apply mv9); (first | go_big_want | go_step); go_step) | ((with_reducible apply gt9 _ (.pick _ _ _)); first | (refine wplPickT rfl kr9 ?_; go_step) | (refine wplPickF rfl kr9 ?_; go_step)) | ((with_reducible apply gs9 208); (refine wplD _ (V.lss rfl rfl) kr9 (fun hB => ?_) (fun hB => ?_) <;> (try exact fo9) <;> go_step)) | ((with_reducible apply gs9 212); (refine wvv9 (V.lss rfl rfl) ?_; go_step)) | ((fail_if_success with_reducible apply ga9); go_step))
                 all_goals
                  go_end0
                  obtain ⟨j1, j2⟩ := sym_join (show a ≤ mid by omega) (show mid ≤ b by omega) (show b ≤ Q.length by rw [hQn]; exact hb) HX.out R2.out (Rg.refl _ _ _) R1.out hZ1
                  exact ⟨rfl, R, j1, HQR.out.trans j2, hS⟩
             · obtain ⟨R, hRe⟩ : ∃ R, R = Q := ⟨Q, rfl⟩
               have hR2 : Rg a mid Q R := by rw [hRe]; exact Rg.refl _ _ _
               have hR1 : Asc PkV.w a mid R := by
                rw [hRe]
                by_cases c1 : a < st
                · exact S1.out.sub (Nat.le_refl _) (by omega)
                · exact S2.out.sub (by omega) (Nat.le_refl _)
               rw [← hRe] at hS
               repeat' (first
                | go_skip | ((with_reducible apply mv9); (first | go_big_want | go_step); go_step) | ((with_reducible apply gt9 _ (.pick _ _ _)); first | (refine wplPickT rfl kr9 ?_; go_step) | (refine wplPickF rfl kr9 ?_; go_step)) | ((with_reducible apply gs9 194); (refine wplD _ (V.lss rfl rfl) kr9 (fun hB => ?_) (fun hB => ?_) <;> (try exact fo9) <;> go_step)) | ((with_reducible apply gs9 198); (refine wvv9 (V.lss rfl rfl) ?_; go_step)) | ((fail_if_success with_reducible apply ga9); go_step))
               all_goals
                have S5 := hid (S3.out.same (Q := R) fun x k1 k2 => hR2.out x (by omega))
                have S6 := hid (S4.out.same (Q := R) fun x k1 k2 => hR2.out x (by omega))
                have R1 := hid hR1
                have R2 := hid hR2
                clear hR1 hR2
                by_cases hr : mid < en ∧ en < b
                · obtain ⟨hr1, hr2⟩ := hr
                  have HC := hid (fun (w : World) (hS : St W w (pks g n c R :: rs')) => IH.out W w (pks g n c R :: rs') rs' g n c mid en b R g6 hS Pull.head hr1 hr2 hb hn S5.out S6.out)
                  repeat' (first
                   | ((with_reducible apply gt9 _ (.call ⟨.value (.func 101), _, _⟩)); refine wpl_call (f := 101) Tryd.call101 kr9 ?_; refine ⟨_, (HC.out _ hS), ?_⟩; rintro e w ⟨rfl, Z, hZ1, hZ2, hS2⟩; replace hS := hS2; clear hS2; refine ⟨_, rfl, ?_⟩; refine put_move ?_; go_step) | ((with_reducible apply mv9); (first | go_big_want | go_step); go_step) | ((with_reducible apply gt9 _ (.pick _ _ _)); (refine wplPickT rfl kr9 ?_; go_step)) | ((with_reducible apply gs9 208); (refine wplD _ (V.lss rfl rfl) kr9 (fun hB => ?_) (fun hB => ?_) <;> (try exact fo9) <;> go_step)) | ((with_reducible apply gs9 212); (refine wvv9 (V.lss rfl rfl) ?_; go_step)) | ((fail_if_success with_reducible apply ga9); go_step))
                  go_end0
                  obtain ⟨j1, j2⟩ := sym_join (show a ≤ mid by omega) (show mid ≤ b by omega) (show b ≤ Q.length by rw [hQn]; exact hb) HX.out R2.out hZ2 R1.out hZ1
                  exact ⟨rfl, Z, j1, HQR.out.trans j2, hS⟩
                · have hZ1 : Asc PkV.w mid b R := by
                   by_cases c1 : mid < en
                   · exact S5.out.sub (Nat.le_refl _) (by omega)
                   · exact S6.out.sub (by omega) (Nat.le_refl _)
                  repeat' (first
                   | go_skip | ((with_reducible apply mv9); (first | go_big_want | go_step); go_step) | ((with_reducible apply gt9 _ (.pick _ _ _)); first | (refine wplPickT rfl kr9 ?_; go_step) | (refine wplPickF rfl kr9 ?_; go_step)) | ((with_reducible apply gs9 208); (refine wplD _ (V.lss rfl rfl) kr9 (fun hB => ?_) (fun hB => ?_) <;> (try exact fo9) <;> go_step)) | ((with_reducible apply gs9 212); (refine wvv9 (V.lss rfl rfl) ?_; go_step)) | ((fail_if_success with_reducible apply ga9); go_step))
                  all_goals
                   go_end0
                   obtain ⟨j1, j2⟩ := sym_join (show a ≤ mid by omega) (show mid ≤ b by omega) (show b ≤ Q.length by rw [hQn]; exact hb) HX.out R2.out (Rg.refl _ _ _) R1.out hZ1
                   exact ⟨rfl, R, j1, HQR.out.trans j2, hS⟩
     · have e1 := HS0b.out hc
       have e2 := HR0b.out hc
       repeat' (first
        | ((with_reducible apply gs9 131); (refine wplV (.int _ (((a + b : Nat) : Int))) (V.as (V.addI rfl rfl (by omega)) (by omega)) rfl ?_; go_step)) | ((with_reducible apply gs9 133); (refine wplV (.int _ (((mid : Nat) : Int))) (V.as (V.shr rfl rfl isn9 (by omega) rfl) (by omega)) rfl ?_; go_step)) | ((with_reducible apply gs9 137); (refine wplV (.int _ (((T : Nat) : Int))) (V.as (V.addI rfl rfl (by omega)) (by omega)) rfl ?_; go_step)) | ((first | (with_reducible apply mv9) | (with_reducible apply as9)); (first | go_big_want | go_step); go_step) | ((with_reducible apply gs9 132); (refine wvv9 (V.convI (by rw [Tryd.underlying3]; rfl) Tryd.underlying147 rfl (IntWalk.u64_in _ (by omega))) ?_; go_step)) | ((with_reducible apply gs9 134); (refine wvv9 (V.convI (by rw [Tryd.underlying147]; rfl) Tryd.underlying3 rfl (IntWalk.i64_in _ (by omega))) ?_; go_step)) | ((with_reducible apply gs9 140); (refine wvv9 (V.gtr rfl rfl) ?_; go_step)) | ((fail_if_success with_reducible apply ga9); go_step))
       repeat' (first
        | ((with_reducible apply gs9 148); (refine wplV (.int _ (((T - 1 : Nat) : Int))) (V.as (V.subI rfl rfl (by omega)) (by omega)) rfl ?_; go_step)) | ((with_reducible apply as9); (first | go_big_want | go_step); go_step) | ((fail_if_success with_reducible apply ga9); go_step))
       go_loopg [20, 21] (r0 - s0) (fun gk iv jv w => ∃ (st r : Nat), gk + st = r ∧ s0 ≤ st ∧ r ≤ r0 ∧ iv = .int .i64 st ∧ jv = .int .i64 r ∧ (s0 < st → wk P (st - 1) ≤ wk P (T - st)) ∧ (r < r0 → wk P (T - 1 - r) ≤ wk P r) ∧ St W w (pks g n c P :: rs'))
       case atStart => exact ⟨s0, r0, by omega, by omega, by omega, by first | rfl | rw [e1], by first | rfl | rw [e2], fun h => by omega, fun h => by omega, hS⟩
       case round =>
        clear hS
        obtain ⟨st, r, hk, hst, hr, rfl, rfl, hlo, hhi, hS⟩ := hrel
        have HLO := hid hlo
        have HHI := hid hhi
        clear hlo hhi
        have f5 := F5.out st hst (by omega)
        by_cases hlt : st < r
        · obtain ⟨h, hh⟩ : ∃ h, h = (st + r) / 2 := ⟨_, rfl⟩
          obtain ⟨y, hy⟩ : ∃ y, y = T - 1 - h := ⟨_, rfl⟩
          have f6 := F5.out (h + 1) (by omega) (by omega)
          obtain ⟨v, hv⟩ : ∃ v, cmpv (elt P y).w (elt P h).w = v := ⟨_, rfl⟩
          have hv2 := cmpv_lt (elt P y).w (elt P h).w
          rw [hv] at hv2
          have HV := hid hv
          have HV2 := hid hv2
          clear hv hv2
          repeat' (first
           | ((with_reducible apply gs9 154); (refine wplV (.int _ (((st + r : Nat) : Int))) (V.as (V.addI rfl rfl (by omega)) (by omega)) rfl ?_; go_step)) | ((with_reducible apply gs9 156); (refine wplV (.int _ (((h : Nat) : Int))) (V.as (V.shr rfl rfl isn9 (by omega) rfl) (by omega)) rfl ?_; go_step)) | ((first | (with_reducible apply mv9) | (with_reducible apply as9)); (first | go_big_want | go_step); go_step) | ((with_reducible apply gs9 151); (refine wvv9 (V.lss rfl rfl) ?_; go_step)) | ((with_reducible apply gs9 155); (refine wvv9 (V.convI (by rw [Tryd.underlying3]; rfl) Tryd.underlying147 rfl (IntWalk.u64_in _ (by omega))) ?_; go_step)) | ((with_reducible apply gs9 157); (refine wvv9 (V.convI (by rw [Tryd.underlying147]; rfl) Tryd.underlying3 rfl (IntWalk.i64_in _ (by omega))) ?_; go_step)) | ((fail_if_success with_reducible apply ga9); go_step))
          refine drawn_lit [11] (fun w => St W w (pks g n c P :: rs')) kr9 ?_
          replace hS := hS.drew
          focus
           refine takeM 0 _ al9 kr9 kr9 kr9 hq9 rfl ?_
           go_step
           refine takeM 1 _ al9 kr9 kr9 kr9 hq9 rfl ?_
           go_step
           refine takeM 2 _ al9 kr9 kr9 kr9 hq9 rfl ?_
           go_step
           refine takeM 3 _ al9 kr9 kr9 kr9 hq9 rfl ?_
           go_step
           (refine takeV 4 (.int _ (((y : Nat) : Int))) al9 kr9 kr9 kr9 hq9 (V.as (V.subI rfl rfl (by omega)) (by omega)) rfl ?_)
           go_step
           (refine takeV 5 _ al9 kr9 kr9 kr9 hq9 (V.indexSl Tryd.underlying134 isz133 rfl rfl isn9 (by omega) rfl nq9) rfl ?_)
           go_step
           apply takeS 6 al9 kr9 kr9 kr9 hq9 [11, 12, 13] kr9 (hS.sub sb9)
           case hfr => intro w hS; ((refine wl9 ?_; apply wp_loadE hS 133 _ rfl _ _ rfl 2 (row_of rfl) _ _ _ _ _; (case hp => exact pl9); (case inst => infer_instance); (case he => with_reducible assumption); (case hq => exact rfl); (case hj => omega); refine put_move ?_; go_step)); refine wpList_nil ?_; exact ⟨rfl, rfl⟩
           case hd => rfl
           refine takeM 7 _ al9 kr9 kr9 kr9 hq9 rfl ?_
           go_step
           refine takeM 8 _ al9 kr9 kr9 kr9 hq9 rfl ?_
           go_step
           (refine takeV 9 _ al9 kr9 kr9 kr9 hq9 (V.indexSl Tryd.underlying134 isz133 rfl rfl isn9 (by omega) rfl nq9) rfl ?_)
           go_step
           apply takeS 10 al9 kr9 kr9 kr9 hq9 [11, 12, 13] kr9 (hS.sub sb9)
           case hfr => intro w hS; ((refine wl9 ?_; apply wp_loadE hS 133 _ rfl _ _ rfl 2 (row_of rfl) _ _ _ _ _; (case hp => exact pl9); (case inst => infer_instance); (case he => with_reducible assumption); (case hq => exact rfl); (case hj => omega); refine put_move ?_; go_step)); refine wpList_nil ?_; exact ⟨rfl, rfl⟩
           case hd => rfl
           refine branch1 11 al9 rfl kr9 ?_
           refine wp_callV (f := 67) rfl rfl Tryd.call67 (byWeight_any _ (elt P y) (elt P h)) ?_; rintro e w ⟨rfl, hE⟩; replace hS := hS.ext hE; clear hE; rw [HV.out]; refine ⟨_, rfl, ?_⟩
           refine ⟨fun h => absurd (by decide) h, ?_⟩
           refine drawn_move ?_
           go_step
           (refine takeV 12 _ al9 kr9 kr9 kr9 hq9 (V.lss rfl rfl) rfl ?_)
           go_step
           (refine takeV 13 _ al9 kr9 kr9 kr9 hq9 (V.notD rfl) rfl ?_)
           go_step
           refine drawn_done kr9 ?_ _
          by_cases hc2 : v < 0
          · skip
            repeat' (first
             | ((first | (with_reducible apply mv9) | (with_reducible apply as9)); (first | go_big_want | go_step); go_step) | ((fail_if_success with_reducible apply ga9); go_step))
            go_roundg (h - st)
            case measure => omega
            case rel =>
             refine ⟨st, h, by omega, by omega, by omega, rfl, by go_num, HLO.out, fun k1 => ?_, hS⟩
             have := HV2.out.1 hc2
             rw [← hy]
             exact Int.le_of_lt this
          · skip
            repeat' (first
             | ((with_reducible apply gs9 173); (refine wplV (.int _ (((h + 1 : Nat) : Int))) (V.as (V.addI rfl rfl (by omega)) (by omega)) rfl ?_; go_step)) | ((first | (with_reducible apply mv9) | (with_reducible apply as9)); (first | go_big_want | go_step); go_step) | ((fail_if_success with_reducible apply ga9); go_step))
            go_roundg (r - (h + 1))
            case measure => omega
            case rel =>
             refine ⟨h + 1, r, by omega, by omega, by omega, by go_num, rfl, fun k1 => ?_, HHI.out, hS⟩
             have := HV2.out
             rw [show T - (h + 1) = y by omega, Nat.add_sub_cancel]
             show (elt P h).w ≤ (elt P y).w
             omega
        · obtain rfl : st = r := by omega
          obtain ⟨en, hen⟩ : ∃ en, en = T - st := ⟨_, rfl⟩
          have HLO2 : Hid (a < st → m ≤ en → en < b → wk P (st - 1) ≤ wk P en) := fun k1 k2 k3 => by
           rw [hen]; exact HLO.out (by omega)
          have HHI2 : Hid (m < en → st < m → wk P (en - 1) ≤ wk P st) := fun k1 k2 => by
           rw [show en - 1 = T - 1 - st by omega]; exact HHI.out (by omega)
          clear HLO HHI
          repeat' (first
           | ((with_reducible apply mv9); (first | go_big_want | go_step); go_step) | ((with_reducible apply gs9 151); (refine wvv9 (V.lss rfl rfl) ?_; go_step)) | ((fail_if_success with_reducible apply ga9); go_step))
          by_cases hrot : st < m ∧ m < en
          · have hrot1 := hrot.1
            have hrot2 := hrot.2
            repeat' (first
             | ((with_reducible apply gs9 177); (refine wplV (.int _ (((en : Nat) : Int))) (V.as (V.subI rfl rfl (by omega)) (by omega)) rfl ?_; go_step)) | ((with_reducible apply gt9 _ (.call ⟨.value (.func 109), _, _⟩)); refine wpl_call (f := 109) Tryd.call109 kr9 ?_; refine ⟨_, (rotate_any W _ _ rs' g n c st m en P hS Pull.head hrot1 hrot2 (by omega) hn byW), ?_⟩; rintro e w ⟨rfl, Q, hQ, hS2⟩; replace hS := hS2; clear hS2; refine ⟨_, rfl, ?_⟩; refine put_move ?_; go_step) | ((first | (with_reducible apply mv9) | (with_reducible apply as9)); (first | go_big_want | go_step); go_step) | ((with_reducible apply gt9 _ (.pick _ _ _)); (refine wplPickT rfl kr9 ?_; go_step)) | ((with_reducible apply gs9 180); (refine wplD _ (V.lss rfl rfl) kr9 (fun hB => ?_) (fun hB => ?_) <;> (try exact fo9) <;> go_step)) | ((with_reducible apply gs9 184); (refine wvv9 (V.lss rfl rfl) ?_; go_step)) | ((fail_if_success with_reducible apply ga9); go_step))
            obtain ⟨s1, s2, s3, s4, hx⟩ := sym_parts HA1.out HA2.out ham hmb hmid (show en = mid + m - st by omega) (by omega) (by omega) (by omega) (by omega) (by omega) HLO2.out HHI2.out hQ
            have hQr := hQ.rg (show st ≤ m by omega) (show m ≤ en by omega)
            have hQl := hQr.len
            have HQR := hid (hQr.wide (show a ≤ st by omega) (show en ≤ b by omega) (by omega) (by omega))
            have HX := hid hx
            have S1 := hid s1
            have S2 := hid s2
            have S3 := hid s3
            have S4 := hid s4
            have g1 : a ≤ st := by omega
            have g2 : st ≤ mid := by omega
            have g3 : mid ≤ en := by omega
            have g4 : en ≤ b := by omega
            have g5 : mid - a ≤ N := by omega
            have g6 : b - mid ≤ N := by omega
            have g7 : a < mid := by omega
            have g8 : mid < b := by omega
            have hQn : Q.length = n := by omega
            clear hx s1 s2 s3 s4 hQ hQr HLO2 HHI2 HA1 HA2 F5 HS0a HS0b HR0a HR0b hen hlt hk hst hr f5 f1 f2 f3 f4 hT hmid e1 e2 hc h1' h2' hN hrot hQl hPl hp ham hmb
            by_cases hl : a < st ∧ st < mid
            · obtain ⟨hl1, hl2⟩ := hl
              have hb2 : mid ≤ n := by omega
              have HC := hid (fun (w : World) (hS : St W w (pks g n c Q :: rs')) => IH.out W w (pks g n c Q :: rs') rs' g n c a st mid Q g5 hS Pull.head hl1 hl2 hb2 hn S1.out S2.out)
              repeat' (first
               | ((with_reducible apply gt9 _ (.call ⟨.value (.func 101), _, _⟩)); refine wpl_call (f := 101) Tryd.call101 kr9 ?_; refine ⟨_, (HC.out _ hS), ?_⟩; rintro e w ⟨rfl, R, hR1, hR2, hS2⟩; replace hS := hS2; clear hS2; refine ⟨_, rfl, ?_⟩; refine put_move ?_; go_step) | ((with_reducible apply mv9); (first | go_big_want | go_step); go_step) | ((with_reducible apply gt9 _ (.pick _ _ _)); (refine wplPickT rfl kr9 ?_; go_step)) | ((with_reducible apply gs9 194); (refine wplD _ (V.lss rfl rfl) kr9 (fun hB => ?_) (fun hB => ?_) <;> (try exact fo9) <;> go_step)) | ((with_reducible apply gs9 198); (refine wvv9 (V.lss rfl rfl) ?_; go_step)) | ((fail_if_success with_reducible apply ga9); go_step))
              have S5 := hid (S3.out.same (Q := R) fun x k1 k2 => hR2.out x (by omega))
              have S6 := hid (S4.out.same (Q := R) fun x k1 k2 => hR2.out x (by omega))
              have R1 := hid hR1
              have R2 := hid hR2
              clear hR1 hR2
              by_cases hr : mid < en ∧ en < b
              · obtain ⟨hr1, hr2⟩ := hr
                have HC := hid (fun (w : World) (hS : St W w (pks g n c R :: rs')) => IH.out W w (pks g n c R :: rs') rs' g n c mid en b R g6 hS Pull.head hr1 hr2 hb hn S5.out S6.out)
                repeat' (first
                 | ((with_reducible apply gt9 _ (.call ⟨.value (.func 101), _, _⟩)); refine wpl_call (f := 101) Tryd.call101 kr9 ?_; refine ⟨_, (HC.out _ hS), ?_⟩; rintro e w ⟨rfl, Z, hZ1, hZ2, hS2⟩; replace hS := hS2; clear hS2; refine ⟨_, rfl, ?_⟩; refine put_move ?_; go_step) | ((with_reducible apply mv9); (first | go_big_want | go_step); go_step) | ((with_reducible apply gt9 _ (.pick _ _ _)); (refine wplPickT rfl kr9 ?_; go_step)) | ((with_reducible apply gs9 208); (refine wplD _ (V.lss rfl rfl) kr9 (fun hB => ?_) (fun hB => ?_) <;> (try exact fo9) <;> go_step)) | ((with_reducible apply gs9 212); (refine wvv9 (V.lss rfl rfl) ?_; go_step)) | ((fail_if_success with_reducible apply ga9); go_step))
                go_end0
                obtain ⟨j1, j2⟩ := sym_join (show a ≤ mid by omega) (show mid ≤ b by omega) (show b ≤ Q.length by rw [hQn]; exact hb) HX.out R2.out hZ2 R1.out hZ1
                exact ⟨rfl, Z, j1, HQR.out.trans j2, hS⟩
              · have hZ1 : Asc PkV.w mid b R := by
                 by_cases c1 : mid < en
                 · exact S5.out.sub (Nat.le_refl _) (by omega)
                 · exact S6.out.sub (by omega) (Nat.le_refl _)
                repeat' (first
                 | go_skip | ((with_reducible apply mv9); (first | go_big_want | go_step); go_step) | ((with_reducible apply gt9 _ (.pick _ _ _)); first | (refine wplPickT rfl kr9 ?_; go_step) | (refine wplPickF rfl kr9 ?_; go_step)) | ((with_reducible apply gs9 208); (refine wplD _ (V.lss rfl rfl) kr9 (fun hB => ?_) (fun hB => ?_) <;> (try exact fo9) <;> go_step)) | ((with_reducible apply gs9 212); (refine wvv9 (V.lss rfl rfl) ?_; go_step)) | ((fail_if_success with_reducible apply ga9); go_step))
                all_goals
                 go_end0
                 obtain ⟨j1, j2⟩ := sym_join (show a ≤ mid by omega) (show mid ≤ b by omega) (show b ≤ Q.length by rw [hQn]; exact hb) HX.out R2.out (Rg.refl _ _ _) R1.out hZ1
                 exact ⟨rfl, R, j1, HQR.out.trans j2, hS⟩
            · obtain ⟨R, hRe⟩ : ∃ R, R = Q := ⟨Q, rfl⟩
              have hR2 : Rg a mid Q R := by rw [hRe]; exact Rg.refl _ _ _
              have hR1 : Asc PkV.w a mid R := by
               rw [hRe]
               by_cases c1 : a < st
               · exact S1.out.sub (Nat.le_refl _) (by omega)
               · exact S2.out.sub (by omega) (Nat.le_refl _)
              rw [← hRe] at hS
              repeat' (first
               | go_skip | ((with_reducible apply mv9); (first | go_big_want | go_step); go_step) | ((with_reducible apply gt9 _ (.pick _ _ _)); (refine wplPickF rfl kr9 ?_; go_step)) | ((with_reducible apply gs9 194); (refine wplD _ (V.lss rfl rfl) kr9 (fun hB => ?_) (fun hB => ?_) <;> (try exact fo9) <;> go_step)) | ((fail_if_success with_reducible apply ga9); go_step))
              all_goals
               have S5 := hid (S3.out.same (Q := R) fun x k1 k2 => hR2.out x (by omega))
               have S6 := hid (S4.out.same (Q := R) fun x k1 k2 => hR2.out x (by omega))
               have R1 := hid hR1
               have R2 := hid hR2
               clear hR1 hR2
               by_cases hr : mid < en ∧ en < b
               · obtain ⟨hr1, hr2⟩ := hr
                 have HC := hid (fun (w : World) (hS : St W w (pks g n c R :: rs')) => IH.out W w (pks g n c R :: rs') rs' g n c mid en b R g6 hS Pull.head hr1 hr2 hb hn S5.out S6.out)
                 repeat' (first
                  | ((with_reducible apply gt9 _ (.call ⟨.value (.func 101), _, _⟩)); refine wpl_call (f := 101) Tryd.call101 kr9 ?_; refine ⟨_, (HC.out _ hS), ?_⟩; rintro e w ⟨rfl, Z, hZ1, hZ2, hS2⟩; replace hS := hS2; clear hS2; refine ⟨_, rfl, ?_⟩; refine put_move ?_; go_step) | ((with_reducible apply mv9); (first | go_big_want | go_step); go_step) | ((with_reducible apply gt9 _ (.pick _ _ _)); (refine wplPickT rfl kr9 ?_; go_step)) | ((with_reducible apply gs9 208); (refine wplD _ (V.lss rfl rfl) kr9 (fun hB => ?_) (fun hB => ?_) <;> (try exact fo9) <;> go_step)) | ((with_reducible apply gs9 212); (refine wvv9 (V.lss rfl rfl) ?_; go_step)) | ((fail_if_success with_reducible apply ga9); go_step))
                 go_end0
                 obtain ⟨j1, j2⟩ := sym_join (show a ≤ mid by omega) (show mid ≤ b by omega) (show b ≤ Q.length by rw [hQn]; exact hb) HX.out R2.out hZ2 R1.out hZ1
                 exact ⟨rfl, Z, j1, HQR.out.trans j2, hS⟩
               · have hZ1 : Asc PkV.w mid b R := by
                  by_cases c1 : mid < en
                  · exact S5.out.sub (Nat.le_refl _) (by omega)
                  · exact S6.out.sub (by omega) (Nat.le_refl _)
                 repeat' (first
                  | go_skip | ((with_reducible apply mv9); (first | go_big_want | go_step); go_step) | ((with_reducible apply gt9 _ (.pick _ _ _)); first | (refine wplPickT rfl kr9 ?_; go_step) | (refine wplPickF rfl kr9 ?_; go_step)) | ((with_reducible apply gs9 208); (refine wplD _ (V.lss rfl rfl) kr9 (fun hB => ?_) (fun hB => ?_) <;> (try exact fo9) <;> go_step)) | ((with_reducible apply gs9 212); (refine wvv9 (V.lss rfl rfl) ?_; go_step)) | ((fail_if_success with_reducible apply ga9); go_step))
                 all_goals
                  go_end0
                  obtain ⟨j1, j2⟩ := sym_join (show a ≤ mid by omega) (show mid ≤ b by omega) (show b ≤ Q.length by rw [hQn]; exact hb) HX.out R2.out (Rg.refl _ _ _) R1.out hZ1
                  exact ⟨rfl, R, j1, HQR.out.trans j2, hS⟩
          · obtain ⟨Q, hQe, hQ⟩ : ∃ Q, Q = P ∧ Rot st m en P Q := ⟨P, rfl, Rot.triv (by omega) (by omega) (by omega) (by omega)⟩
            rw [← hQe] at hS
            repeat' (first
             | ((with_reducible apply gs9 177); (refine wplV (.int _ (((en : Nat) : Int))) (V.as (V.subI rfl rfl (by omega)) (by omega)) rfl ?_; go_step)) | go_skip | ((first | (with_reducible apply mv9) | (with_reducible apply as9)); (first | go_big_want | go_step); go_step) | ((with_reducible apply gt9 _ (.pick _ _ _)); (refine wplPickF rfl kr9 ?_; go_step)) | ((with_reducible apply gs9 180); (refine wplD _ (V.lss rfl rfl) kr9 (fun hB => ?_) (fun hB => ?_) <;> (try exact fo9) <;> go_step)) | ((fail_if_success with_reducible apply ga9); go_step))
            all_goals
             obtain ⟨s1, s2, s3, s4, hx⟩ := sym_parts HA1.out HA2.out ham hmb hmid (show en = mid + m - st by omega) (by omega) (by omega) (by omega) (by omega) (by omega) HLO2.out HHI2.out hQ
             have hQr := hQ.rg (show st ≤ m by omega) (show m ≤ en by omega)
             have hQl := hQr.len
             have HQR := hid (hQr.wide (show a ≤ st by omega) (show en ≤ b by omega) (by omega) (by omega))
             have HX := hid hx
             have S1 := hid s1
             have S2 := hid s2
             have S3 := hid s3
             have S4 := hid s4
             have g1 : a ≤ st := by omega
             have g2 : st ≤ mid := by omega
             have g3 : mid ≤ en := by omega
             have g4 : en ≤ b := by omega
             have g5 : mid - a ≤ N := by omega
             have g6 : b - mid ≤ N := by omega
             have g7 : a < mid := by omega
             have g8 : mid < b := by omega
             have hQn : Q.length = n := by omega
             clear hx s1 s2 s3 s4 hQ hQr HLO2 HHI2 HA1 HA2 F5 HS0a HS0b HR0a HR0b hen hlt hk hst hr f5 f1 f2 f3 f4 hT hmid e1 e2 hc h1' h2' hN hrot hQl hPl hp ham hmb
             by_cases hl : a < st ∧ st < mid
             · obtain ⟨hl1, hl2⟩ := hl
               have hb2 : mid ≤ n := by omega
               have HC := hid (fun (w : World) (hS : St W w (pks g n c Q :: rs')) => IH.out W w (pks g n c Q :: rs') rs' g n c a st mid Q g5 hS Pull.head hl1 hl2 hb2 hn S1.out S2.out)
               repeat' (first
                | ((with_reducible apply gt9 _ (.call ⟨.value (.func 101), _, _⟩)); refine wpl_call (f := 101) Tryd.call101 kr9 ?_; refine ⟨_, (HC.out _ hS), ?_⟩; rintro e w ⟨rfl, R, hR1, hR2, hS2⟩; replace hS := hS2; clear hS2; refine ⟨_, rfl, ?_⟩; refine put_move ?_; go_step) | ((with_reducible apply mv9); (first | go_big_want | go_step); go_step) | ((with_reducible apply gt9 _ (.pick _ _ _)); (refine wplPickT rfl kr9 ?_; go_step)) | ((with_reducible apply gs9 194); (refine wplD _ (V.lss rfl rfl) kr9 (fun hB => ?_) (fun hB => ?_) <;> (try exact fo9) <;> go_step)) | ((with_reducible apply gs9 198); (refine wvv9 (V.lss rfl rfl) ?_; go_step)) | ((fail_if_success with_reducible apply ga9); go_step))
               have S5 := hid (S3.out.same (Q := R) fun x k1 k2 => hR2.out x (by omega))
               have S6 := hid (S4.out.same (Q := R) fun x k1 k2 => hR2.out x (by omega))
               have R1 := hid hR1
               have R2 := hid hR2
               clear hR1 hR2
               by_cases hr : mid < en ∧ en < b
               · obtain ⟨hr1, hr2⟩ := hr
                 have HC := hid (fun (w : World) (hS : St W w (pks g n c R :: rs')) => IH.out W w (pks g n c R :: rs') rs' g n c mid en b R g6 hS Pull.head hr1 hr2 hb hn S5.out S6.out)
                 repeat' (first
                  | ((with_reducible apply gt9 _ (.call ⟨.value (.func 101), _, _⟩)); refine wpl_call (f := 101) Tryd.call101 kr9 ?_; refine ⟨_, (HC.out _ hS), ?_⟩; rintro e w ⟨rfl, Z, hZ1, hZ2, hS2⟩; replace hS := hS2; clear hS2; refine ⟨_, rfl, ?_⟩; refine put_move ?_; go_step) | ((with_reducible apply mv9); (first | go_big_want | go_step); go_step) | ((with_reducible apply gt9 _ (.pick _ _ _)); (refine wplPickT rfl kr9 ?_; go_step)) | ((with_reducible apply gs9 208); (refine wplD _ (V.lss rfl rfl) kr9 (fun hB => ?_) (fun hB => ?_) <;> (try exact fo9) <;> go_step)) | ((with_reducible apply gs9 212); (refine wvv9 (V.lss rfl rfl) ?_; go_step)) | ((fail_if_success with_reducible apply ga9); go_step))
                 go_end0
                 obtain ⟨j1, j2⟩ := sym_join (show a ≤ mid by omega) (show mid ≤ b by omega) (show b ≤ Q.length by rw [hQn]; exact hb) HX.out R2.out hZ2 R1.out hZ1
                 exact ⟨rfl, Z, j1, HQR.out.trans j2, hS⟩
               · have hZ1 : Asc PkV.w mid b R := by
                  by_cases c1 : mid < en
                  · exact S5.out.sub (Nat.le_refl _) (by omega)
                  · exact S6.out.sub (by omega) (Nat.le_refl _)
                 repeat' (first
                  | go_skip | ((with_reducible apply mv9); (first | go_big_want | go_step); go_step) | ((with_reducible apply gt9 _ (.pick _ _ _)); first | (refine wplPickT rfl kr9 ?_; go_step) | (refine wplPickF rfl kr9 ?_; go_step)) | ((with_reducible apply gs9 208); (refine wplD _ (V.lss rfl rfl) kr9 (fun hB => ?_) (fun hB => ?_) <;> (try exact fo9) <;> go_step)) | ((with_reducible apply gs9 212); (refine wvv9 (V.lss rfl rfl) ?_; go_step)) | ((fail_if_success with_reducible apply ga9); go_step))
                 all_goals
                  go_end0
                  obtain ⟨j1, j2⟩ := sym_join (show a ≤ mid by omega) (show mid ≤ b by omega) (show b ≤ Q.length by rw [hQn]; exact hb) HX.out R2.out (Rg.refl _ _ _) R1.out hZ1
                  exact ⟨rfl, R, j1, HQR.out.trans j2, hS⟩
             · obtain ⟨R, hRe⟩ : ∃ R, R = Q := ⟨Q, rfl⟩
               have hR2 : Rg a mid Q R := by rw [hRe]; exact Rg.refl _ _ _
               have hR1 : Asc PkV.w a mid R := by
                rw [hRe]
                by_cases c1 : a < st
                · exact S1.out.sub (Nat.le_refl _) (by omega)
                · exact S2.out.sub (by omega) (Nat.le_refl _)
               rw [← hRe] at hS
               repeat' (first
                | go_skip | ((with_reducible apply mv9); (first | go_big_want | go_step); go_step) | ((with_reducible apply gt9 _ (.pick _ _ _)); first | (refine wplPickT rfl kr9 ?_; go_step) | (refine wplPickF rfl kr9 ?_; go_step)) | ((with_reducible apply gs9 194); (refine wplD _ (V.lss rfl rfl) kr9 (fun hB => ?_) (fun hB => ?_) <;> (try exact fo9) <;> go_step)) | ((with_reducible apply gs9 198); (refine wvv9 (V.lss rfl rfl) ?_; go_step)) | ((fail_if_success with_reducible apply ga9); go_step))
               all_goals
                have S5 := hid (S3.out.same (Q := R) fun x k1 k2 => hR2.out x (by omega))
                have S6 := hid (S4.out.same (Q := R) fun x k1 k2 => hR2.out x (by omega))
                have R1 := hid hR1
                have R2 := hid hR2
                clear hR1 hR2
                by_cases hr : mid < en ∧ en < b
                · obtain ⟨hr1, hr2⟩ := hr
                  have HC := hid (fun (w : World) (hS : St W w (pks g n c R :: rs')) => IH.out W w (pks g n c R :: rs') rs' g n c mid en b R g6 hS Pull.head hr1 hr2 hb hn S5.out S6.out)
                  repeat' (first
                   | ((with_reducible apply gt9 _ (.call ⟨.value (.func 101), _, _⟩)); refine wpl_call (f := 101) Tryd.call101 kr9 ?_; refine ⟨_, (HC.out _ hS), ?_⟩; rintro e w ⟨rfl, Z, hZ1, hZ2, hS2⟩; replace hS := hS2; clear hS2; refine ⟨_, rfl, ?_⟩; refine put_move ?_; go_step) | ((with_reducible apply mv9); (first | go_big_want | go_step); go_step) | ((with_reducible apply gt9 _ (.pick _ _ _)); (refine wplPickT rfl kr9 ?_; go_step)) | ((with_reducible apply gs9 208); (refine wplD _ (V.lss rfl rfl) kr9 (fun hB => ?_) (fun hB => ?_) <;> (try exact fo9) <;> go_step)) | ((with_reducible apply gs9 212); (refine wvv9 (V.lss rfl rfl) ?_; go_step)) | ((fail_if_success with_reducible apply ga9); go_step))
                  go_end0
                  obtain ⟨j1, j2⟩ := sym_join (show a ≤ mid by omega) (show mid ≤ b by omega) (show b ≤ Q.length by rw [hQn]; exact hb) HX.out R2.out hZ2 R1.out hZ1
                  exact ⟨rfl, Z, j1, HQR.out.trans j2, hS⟩
                · have hZ1 : Asc PkV.w mid b R := by
                   by_cases c1 : mid < en
                   · exact S5.out.sub (Nat.le_refl _) (by omega)
                   · exact S6.out.sub (by omega) (Nat.le_refl _)
                  repeat' (first
                   | go_skip | ((with_reducible apply mv9); (first | go_big_want | go_step); go_step) | ((with_reducible apply gt9 _ (.pick _ _ _)); first | (refine wplPickT rfl kr9 ?_; go_step) | (refine wplPickF rfl kr9 ?_; go_step)) | ((with_reducible apply gs9 208); (refine wplD _ (V.lss rfl rfl) kr9 (fun hB => ?_) (fun hB => ?_) <;> (try exact fo9) <;> go_step)) | ((with_reducible apply gs9 212); (refine wvv9 (V.lss rfl rfl) ?_; go_step)) | ((fail_if_success with_reducible apply ga9); go_step))
                  all_goals
                   go_end0
                   obtain ⟨j1, j2⟩ := sym_join (show a ≤ mid by omega) (show mid ≤ b by omega) (show b ≤ Q.length by rw [hQn]; exact hb) HX.out R2.out (Rg.refl _ _ _) R1.out hZ1
                   exact ⟨rfl, R, j1, HQR.out.trans j2, hS⟩

set_option maxRecDepth 100000
open Go.RowKit
set_option linter.unusedVariables false
theorem asc_void {lo hi : Nat} {P : List PkV} (h : hi ≤ lo) : Asc PkV.w lo hi P := fun i j h1 h2 h3 => by omega
theorem asc_eq {lo hi lo' hi' : Nat} {P : List PkV} (h : Asc PkV.w lo hi P) (h1 : lo = lo') (h2 : hi' ≤ hi) : Asc PkV.w lo' hi' P := by subst h1; exact h.sub (Nat.le_refl _) h2
def Blks (s n : Nat) (P : List PkV) : Prop := ∀ k, Asc PkV.w (k * s) (min (k * s + s) n) P
set_option maxRecDepth 100000 in
set_option maxHeartbeats 8000000 in
theorem stable_any (W w0 : World) (rs rs' : List Res) (g n c : Nat) (P : List PkV) (hS : St W w0 rs) (hp : Pull (pks g n c P) rs rs') (hn : n ≤ 100000) :
 Calls Tryd.prog 84 #[.slice (some ⟨g, 0, none⟩) n c, .int .i64 n, byW] w0 fun e w => e = .returned (.tuple #[]) ∧ ∃ Q, Asc PkV.w 0 n Q ∧ Rg 0 n P Q ∧ St W w (pks g n c Q :: rs') := by
 replace hS := hS.pull hp
 have hPl := own_recs hS Pull.head pkE_len (by decide)
 clear hp
 go_enter Tryd.func84, Tryd.ntmps84
 repeat' (first
  | ((first | (with_reducible apply mv9) | (with_reducible apply as9)); (first | go_big_want | go_step); go_step) | ((fail_if_success with_reducible apply ga9); go_step))
 go_loopg [7, 8] n (fun gk av bv w => ∃ (k a : Nat) (Q : List PkV), gk + k = n ∧ a = k * 20 ∧ a ≤ n ∧ av = .int .i64 a ∧ bv = .int .i64 (a + 20 : Nat) ∧ (∀ j, j < k → Asc PkV.w (j * 20) (j * 20 + 20) Q) ∧ Rg 0 n P Q ∧ St W w (pks g n c Q :: rs'))
 case atStart => exact ⟨0, 0, P, by omega, rfl, by omega, rfl, rfl, fun j h => by omega, Rg.refl _ _ _, hS⟩
 case round =>
  clear hS
  obtain ⟨k, a, Q, hk, ha, han, rfl, rfl, hA, hR, hS⟩ := hrel
  have HA := hid hA
  have HR := hid hR
  have hQl := hR.len
  clear hA hR
  by_cases hlt : a + 20 ≤ n
  · have HC := hid (fun (w : World) (hS : St W w (pks g n c Q :: rs')) => insSort_any W w (pks g n c Q :: rs') rs' g n c a (a + 20) Q hS Pull.head (by omega) hlt (by omega))
    repeat' (first
     | ((with_reducible apply gs9 22); (refine wplV (.int _ (((a + 20 + 20 : Nat) : Int))) (V.as (V.addI rfl rfl (by omega)) (by omega)) rfl ?_; go_step)) | ((with_reducible apply gt9 _ (.call ⟨.value (.func 100), _, _⟩)); refine wpl_call (f := 100) Tryd.call100 kr9 ?_; refine ⟨_, (HC.out _ hS), ?_⟩; rintro e w ⟨rfl, Z, hZ1, hZ2, hS2⟩; replace hS := hS2; clear hS2; refine ⟨_, rfl, ?_⟩; refine put_move ?_; go_step) | ((first | (with_reducible apply mv9) | (with_reducible apply as9)); (first | go_big_want | go_step); go_step) | ((with_reducible apply gs9 13); (refine wvv9 (V.leq rfl rfl) ?_; go_step)) | ((fail_if_success with_reducible apply ga9); go_step))
    go_roundg (gk - 1)
    case measure => omega
    case rel =>
     refine ⟨k + 1, a + 20, Z, by omega, by omega, by omega, rfl, by go_num, fun j hj => ?_, HR.out.trans (hZ2.wide (by omega) (by omega) (by omega) (by omega)), hS⟩
     by_cases hjk : j = k
     · subst hjk; rw [← ha]; exact hZ1
     · exact (HA.out j (by omega)).same fun x k1 k2 => hZ2.out x (by omega)
  · have HC := hid (fun (w : World) (hS : St W w (pks g n c Q :: rs')) => insSort_any W w (pks g n c Q :: rs') rs' g n c a n Q hS Pull.head (by omega) (by omega) (by omega))
    repeat' (first
     | ((with_reducible apply mv9); (first | go_big_want | go_step); go_step) | ((with_reducible apply gs9 13); (refine wvv9 (V.leq rfl rfl) ?_; go_step)) | ((fail_if_success with_reducible apply ga9); go_step))
    repeat' (first
     | ((with_reducible apply gt9 _ (.call ⟨.value (.func 100), _, _⟩)); refine wpl_call (f := 100) Tryd.call100 kr9 ?_; refine ⟨_, (HC.out _ hS), ?_⟩; rintro e w ⟨rfl, Z, hZ1, hZ2, hS2⟩; replace hS := hS2; clear hS2; refine ⟨_, rfl, ?_⟩; refine put_move ?_; go_step) | ((fail_if_success with_reducible apply ga9); go_step))
    have hB : Blks 20 n Z := fun j => by
     by_cases h1 : j < k
     · exact ((HA.out j h1).same fun x k1 k2 => hZ2.out x (by omega)).sub (Nat.le_refl _) (Nat.min_le_left _ _)
     · by_cases h2 : j = k
       · subst h2; rw [← ha]; exact hZ1.sub (Nat.le_refl _) (Nat.min_le_right _ _)
       · exact asc_void (by omega)
    have hRZ : Rg 0 n P Z := HR.out.trans (hZ2.wide (by omega) (by omega) (by omega) (by omega))
    have HB := hid hB
    have HRZ := hid hRZ
    clear hB hRZ HR HA HC hZ1 hZ2
    go_loopg [6] (n - 20) (fun gk sv w => ∃ (s : Nat) (Q : List PkV), gk + s = max n s ∧ 1 ≤ s ∧ s ≤ 2 * n + 20 ∧ sv = .int .i64 s ∧ Blks s n Q ∧ Rg 0 n P Q ∧ St W w (pks g n c Q :: rs'))
    case atStart => exact ⟨20, Z, by omega, by omega, by omega, rfl, HB.out, HRZ.out, hS⟩
    case round =>
     clear hS HB HRZ
     obtain ⟨s, Q, hk, hs1, hs2, rfl, hB, hR, hS⟩ := hrel
     have HB := hid hB
     have HR := hid hR
     have hQl := hR.len
     clear hB hR
     by_cases hlt2 : s < n
     · obtain ⟨gk1, hgk1⟩ : ∃ x, x = gk := ⟨_, rfl⟩
       subst hgk1
       obtain ⟨t, ht⟩ : ∃ t, t = 2 * s := ⟨_, rfl⟩
       repeat' (first
        | ((with_reducible apply gs9 32); (refine wplV (.int _ (((t : Nat) : Int))) (V.as (V.mulI rfl rfl (by omega)) (by omega)) rfl ?_; go_step)) | ((first | (with_reducible apply mv9) | (with_reducible apply as9)); (first | go_big_want | go_step); go_step) | ((with_reducible apply gs9 30); (refine wvv9 (V.lss rfl rfl) ?_; go_step)) | ((fail_if_success with_reducible apply ga9); go_step))
       go_loopg [7, 8] n (fun gk av bv w => ∃ (k a : Nat) (Q : List PkV), gk + k = n ∧ a = k * t ∧ a ≤ n ∧ av = .int .i64 a ∧ bv = .int .i64 (a + t : Nat) ∧ (∀ j, j < k → Asc PkV.w (j * t) (j * t + t) Q) ∧ (∀ j, 2 * k ≤ j → Asc PkV.w (j * s) (min (j * s + s) n) Q) ∧ Rg 0 n P Q ∧ St W w (pks g n c Q :: rs'))
       case atStart => exact ⟨0, 0, Q, by omega, by omega, by omega, rfl, by rw [Nat.zero_add], fun j h => by omega, fun j _ => HB.out j, HR.out, hS⟩
       case round =>
        clear hS HB HR
        obtain ⟨k, a, Q, hk3, ha, han, rfl, rfl, hA, hA2, hR, hS⟩ := hrel
        have hQl := hR.len
        have m1 : 2 * k * s = a := by rw [ha, ht, Nat.mul_comm 2 k, Nat.mul_assoc]
        have m2 : (2 * k + 1) * s = a + s := by rw [Nat.add_mul, m1, Nat.one_mul]
        have m3 : (k + 1) * t = a + t := by rw [Nat.add_mul, Nat.one_mul, ← ha]
        have m4 : ∀ j, 2 * k + 2 ≤ j → a + t ≤ j * s := fun j hj => by
         have := Nat.mul_le_mul_right s hj
         rw [show (2 * k + 2) * s = a + t by rw [Nat.add_mul, m1, ht]] at this
         exact this
        have m5 : ∀ j, j < k → j * t + t ≤ a := fun j hj => by
         have := Nat.mul_le_mul_right t hj
         rw [Nat.succ_mul, ← ha] at this
         exact this
        have m6 : ∀ j, k < j → a + t ≤ j * t := fun j hj => by
         have := Nat.mul_le_mul_right t hj
         rw [show (k.succ) * t = a + t from m3] at this
         exact this
        have hkt : k ≤ k * t := Nat.le_mul_of_pos_right k (by omega)
        rw [← ha] at hkt
        have a1 := hA2 (2 * k) (Nat.le_refl _)
        have a2 := hA2 (2 * k + 1) (by omega)
        rw [m1] at a1
        rw [m2] at a2
        have HA := hid hA
        have HA2 := hid hA2
        have HR := hid hR
        have M3 := hid m3
        have M4 := hid m4
        have M5 := hid m5
        have M6 := hid m6
        have Ha := hid ha
        clear hA hA2 hR m1 m2 m3 m4 m5 m6 ha
        by_cases hlt : a + t ≤ n
        · have HC := hid (fun (w : World) (hS : St W w (pks g n c Q :: rs')) => symMerge_any n W w (pks g n c Q :: rs') rs' g n c a (a + s) (a + t) Q (by omega) hS Pull.head (by omega) (by omega) hlt (by omega) (asc_eq a1 rfl (by omega)) (asc_eq a2 rfl (by omega)))
          clear a1 a2
          repeat' (first
           | ((with_reducible apply gs9 40); (refine wplV (.int _ (((a + s : Nat) : Int))) (V.as (V.addI rfl rfl (by omega)) (by omega)) rfl ?_; go_step)) | ((with_reducible apply gs9 47); (refine wplV (.int _ (((t : Nat) : Int))) (V.as (V.mulI rfl rfl (by omega)) (by omega)) rfl ?_; go_step)) | ((with_reducible apply gs9 48); (refine wplV (.int _ (((a + t + t : Nat) : Int))) (V.as (V.addI rfl rfl (by omega)) (by omega)) rfl ?_; go_step)) | ((with_reducible apply gt9 _ (.call ⟨.value (.func 101), _, _⟩)); refine wpl_call (f := 101) Tryd.call101 kr9 ?_; refine ⟨_, (HC.out _ hS), ?_⟩; rintro e w ⟨rfl, Z, hZ1, hZ2, hS2⟩; replace hS := hS2; clear hS2; refine ⟨_, rfl, ?_⟩; refine put_move ?_; go_step) | ((first | (with_reducible apply mv9) | (with_reducible apply as9)); (first | go_big_want | go_step); go_step) | ((with_reducible apply gs9 35); (refine wvv9 (V.leq rfl rfl) ?_; go_step)) | ((fail_if_success with_reducible apply ga9); go_step))
          go_roundg (gk - 1)
          case measure => omega
          case rel =>
           refine ⟨k + 1, a + t, Z, by omega, M3.out.symm, by omega, rfl, by go_num, fun j hj => ?_, fun j hj => ?_, HR.out.trans (hZ2.wide (by omega) (by omega) (by omega) (by omega)), hS⟩
           · by_cases hjk : j = k
             · subst hjk; rw [← Ha.out]; exact hZ1
             · have := M5.out j (by omega)
               exact (HA.out j (by omega)).same fun x k1 k2 => hZ2.out x (by omega)
           · have := M4.out j (by omega)
             exact (HA2.out j (by omega)).same fun x k1 k2 => hZ2.out x (by omega)
        · have HF : Hid (∀ Z, Asc PkV.w a n Z → Rg a n Q Z → Blks t n Z ∧ Rg 0 n P Z) := fun Z hZ1 hZ2 => ⟨fun j => by
           by_cases h1 : j < k
           · have := M5.out j h1
             exact ((HA.out j h1).same fun x k1 k2 => hZ2.out x (by omega)).sub (Nat.le_refl _) (Nat.min_le_left _ _)
           · by_cases h2 : j = k
             · subst h2; rw [← Ha.out]; exact hZ1.sub (Nat.le_refl _) (Nat.min_le_right _ _)
             · have := M6.out j (by omega)
               exact asc_void (by omega), HR.out.trans (hZ2.wide (by omega) (by omega) (by omega) (by omega))⟩
          by_cases hm : a + s < n
          · have HC := hid (fun (w : World) (hS : St W w (pks g n c Q :: rs')) => symMerge_any n W w (pks g n c Q :: rs') rs' g n c a (a + s) n Q (by omega) hS Pull.head (by omega) hm (by omega) (by omega) (asc_eq a1 rfl (by omega)) (asc_eq a2 rfl (by omega)))
            clear a1 a2
            repeat' (first
             | ((with_reducible apply mv9); (first | go_big_want | go_step); go_step) | ((with_reducible apply gs9 35); (refine wvv9 (V.leq rfl rfl) ?_; go_step)) | ((fail_if_success with_reducible apply ga9); go_step))
            repeat' (first
             | ((with_reducible apply gs9 51); (refine wplV (.int _ (((a + s : Nat) : Int))) (V.as (V.addI rfl rfl (by omega)) (by omega)) rfl ?_; go_step)) | ((with_reducible apply gs9 62); (refine wplV (.int _ (((t : Nat) : Int))) (V.as (V.mulI rfl rfl (by omega)) (by omega)) rfl ?_; go_step)) | ((with_reducible apply gt9 _ (.call ⟨.value (.func 101), _, _⟩)); refine wpl_call (f := 101) Tryd.call101 kr9 ?_; refine ⟨_, (HC.out _ hS), ?_⟩; rintro e w ⟨rfl, Z, hZ1, hZ2, hS2⟩; replace hS := hS2; clear hS2; refine ⟨_, rfl, ?_⟩; refine put_move ?_; go_step) | ((first | (with_reducible apply mv9) | (with_reducible apply as9)); (first | go_big_want | go_step); go_step) | ((with_reducible apply gs9 54); (refine wvv9 (V.lss rfl rfl) ?_; go_step)) | ((fail_if_success with_reducible apply ga9); go_step))
            obtain ⟨b1, b2⟩ := HF.out Z hZ1 hZ2
            go_roundg (n - t)
            case measure => omega
            case rel => exact ⟨t, Z, by omega, by omega, by omega, by go_num, b1, b2, hS⟩
          · obtain ⟨b1, b2⟩ := HF.out Q (asc_eq a1 rfl (by omega)) (Rg.refl _ _ _)
            have B1 := hid b1
            have B2 := hid b2
            clear a1 a2 b1 b2
            repeat' (first
             | ((with_reducible apply mv9); (first | go_big_want | go_step); go_step) | ((with_reducible apply gs9 35); (refine wvv9 (V.leq rfl rfl) ?_; go_step)) | ((fail_if_success with_reducible apply ga9); go_step))
            repeat' (first
             | ((with_reducible apply gs9 51); (refine wplV (.int _ (((a + s : Nat) : Int))) (V.as (V.addI rfl rfl (by omega)) (by omega)) rfl ?_; go_step)) | ((first | (with_reducible apply mv9) | (with_reducible apply as9)); (first | go_big_want | go_step); go_step) | ((with_reducible apply gs9 54); (refine wvv9 (V.lss rfl rfl) ?_; go_step)) | ((fail_if_success with_reducible apply ga9); go_step))
            repeat' (first
             | ((with_reducible apply gs9 62); (refine wplV (.int _ (((t : Nat) : Int))) (V.as (V.mulI rfl rfl (by omega)) (by omega)) rfl ?_; go_step)) | ((with_reducible apply as9); (first | go_big_want | go_step); go_step) | ((fail_if_success with_reducible apply ga9); go_step))
            go_roundg (n - t)
            case measure => omega
            case rel => exact ⟨t, Q, by omega, by omega, by omega, by go_num, B1.out, B2.out, hS⟩
     · skip
       repeat' (first
        | ((with_reducible apply mv9); (first | go_big_want | go_step); go_step) | ((with_reducible apply gs9 30); (refine wvv9 (V.lss rfl rfl) ?_; go_step)) | ((fail_if_success with_reducible apply ga9); go_step))
       go_end0
       have := HB.out 0
       rw [Nat.zero_mul, Nat.zero_add] at this
       exact ⟨rfl, Q, this.sub (Nat.le_refl _) (by omega), HR.out, hS⟩
theorem sortStable_any (W w0 : World) (rs rs' : List Res) (g n c : Nat) (P : List PkV) (hS : St W w0 rs) (hp : Pull (pks g n c P) rs rs') (hn : n ≤ 100000) :
 Calls Tryd.prog 66 #[.slice (some ⟨g, 0, none⟩) n c, byW] w0 fun e w => e = .returned (.tuple #[]) ∧ ∃ Q, Q.Perm P ∧ Q.Pairwise (fun a b => a.w ≤ b.w) ∧ St W w (pks g n c Q :: rs') := by
 replace hS := hS.pull hp
 have hPl := own_recs hS Pull.head pkE_len (by decide)
 have HC := hid (fun (w : World) (hS : St W w (pks g n c P :: rs')) => stable_any W w (pks g n c P :: rs') rs' g n c P hS Pull.head hn)
 clear hp
 go_enter Tryd.func66, Tryd.ntmps66
 repeat' (first
  | ((with_reducible apply gt9 _ (.call ⟨.value (.func 84), _, _⟩)); refine wpl_call (f := 84) Tryd.call84 kr9 ?_; refine ⟨_, (HC.out _ hS), ?_⟩; rintro e w ⟨rfl, Z, hZ1, hZ2, hS2⟩; replace hS := hS2; clear hS2; refine ⟨_, rfl, ?_⟩; refine put_move ?_; go_step) | ((with_reducible apply mv9); (first | go_big_want | go_step); go_step) | ((with_reducible apply gt9 _ (.call ⟨.builtin .len, _, _⟩)); (refine wvv9 (V.len Tryd.underlying134 rfl) ?_; go_step)) | ((fail_if_success with_reducible apply ga9); go_step))
 go_end0
 rw [← hPl] at hZ1 hZ2
 have hl := hZ2.len
 exact ⟨rfl, Z, hZ2.all, Asc.pair (hl.symm ▸ hZ1), hS⟩

set_option maxRecDepth 100000
open Go.RowKit
set_option linter.unusedVariables false
theorem cutAt_zero (g c s : Nat) : cutAt (some ⟨g, 0, none⟩) c 0 s = some ⟨g, 0, none⟩ := by
 unfold cutAt
 split
 · rfl
 · rw [Option.map_some, Addr.add_mid, Nat.zero_mul]
section
variable {P : Program} {W w : World} {rs rs' : List Res} {Q : Exit → Act → World → Prop} {K : Act → World → Prop} {o : Oper} {a : Act}
theorem wp_appendZ (hS : St W w rs) (s x : Operand) (t tn : TypeId) (ho : o.op = .call { callee := .builtin .append, args := #[s, x], argTypes := #[t, tn] }) (e : TypeId) (b : Nat) (k : IntKind) (el : ElemZ P t e k 1 b) (kn : IntKind) (htn : P.underlying tn = some (.int kn))
 (hs : a.eval s = .slice none 0 0) (k2 : IntKind) (n : Nat) (hx : a.eval x = .int k2 n) (h0 : 0 < n) (h63 : n ≤ maxLen) (hb : n * b ≤ 281474976710656)
 (h : ∀ g c' w', n ≤ c' → c' ≤ maxLen → St W w' (own e 1 (some ⟨g, 0, none⟩) 0 c' [] :: rs) → K (a.put o.dst (.slice (some ⟨g, 0, none⟩) n c')) w') : o.wp P a w K Q := by
 obtain ⟨ht, ⟨i, z, hi, hz, hsz, hby, hzc⟩, _⟩ := el
 have hr := Lib.run_append_nil_zeros (P := P) w t tn o.type e i z k2 kn ht htn hi hz n h0 (by omega) (by unfold maxLen at h63; omega) (by rw [hby]; exact hb)
 have hg1 := grownCap_ge w n 0 e
 have hg2 := grownCap_le_maxLen w n 0 e h63
 obtain ⟨G, hG⟩ : ∃ G, grownCap w n 0 e = G := ⟨_, rfl⟩
 rw [hG] at hr hg1 hg2
 refine Lib.wp_append_run w s x t tn ho _ _ hs hx _ _ hr (h _ _ _ hg1 hg2 ?_)
 have hS2 := hS.drew
 obtain ⟨h1, f, h2, h3, h4⟩ := hS2
 refine ⟨h1.alloc _, w.heap.size :: f, List.nodup_cons.2 ⟨fun hm => by have := h4.lt _ hm; exact absurd this (Nat.lt_irrefl _), h2⟩, fun b hb => ?_, [w.heap.size], f, rfl, ⟨rfl, rfl, .inr ⟨w.heap.size, G, _, rfl, Nat.zero_le _, heap_alloc_new w.drew _, Nat.zero_le _, hg2, ?_, by simp⟩⟩, h4.loc fun b hb => ?_⟩
 · rcases List.mem_cons.1 hb with h | h
   · rw [h]; exact h1.sz
   · exact h3 b h
 · rw [Array.size_append, size_zeroCells, size_zeroCells, hzc, Array.size_replicate]; omega
 · exact heap_alloc_old w.drew _ (h4.lt b hb)
end
theorem V.cap {P : Program} {a : Act} {x : Operand} {t ty : TypeId} {ad : Option Addr} {n c : Nat} {e : TypeId} (ht : P.underlying t = some (.slice e)) (hx : a.eval x = .slice ad n c) : Val P (.call { callee := .builtin .cap, args := #[x], argTypes := #[t] }) ty a (.int .i64 c) := fun d pos af g w => by
 have e : P.elem t = e := by simp [Program.elem, ht]
 have e2 := run_cap_slice (P := P) w t ty ad n c (by rw [e]; exact ht)
 simp only [execOp, resolve, invoke, builtin, Sem.run_bind, Sem.run_pure, Result.andThen_ok, List.map_toArray, List.map_cons, List.map_nil, hx, e2]
 rfl
theorem grow_any (w0 : World) (n : Nat) (hn : n ≤ 1000000) : Calls Tryd.prog 86 #[.slice none 0 0, .int .i64 n] w0 fun e w => ∃ (ad : Option Addr) (c : Nat), e = .returned (.slice ad 0 c) ∧ St w0 w [own 3 1 ad 0 c []] := by
 have hS := St.start w0
 go_enter Tryd.func86, Tryd.ntmps86
 by_cases h0 : n = 0
 · subst h0
   repeat' (first
    | ((first | (with_reducible apply mv9) | (with_reducible apply as9)); (first | go_big_want | go_step); go_step) | ((with_reducible apply gs9 6); (refine wvv9 (V.lss rfl rfl) ?_; go_step)) | ((fail_if_success with_reducible apply ga9); go_step))
   repeat' (first
    | ((with_reducible apply gs9 13); (refine wplV (.int _ (0)) (V.as (V.subI rfl rfl (by omega)) (by omega)) rfl ?_; go_step)) | ((with_reducible apply gs9 14); (refine wplV (.int _ (0)) (V.as (V.subI rfl rfl (by omega)) (by omega)) rfl ?_; go_step)) | ((first | (with_reducible apply mv9) | (with_reducible apply as9)); (first | go_big_want | go_step); go_step) | ((with_reducible apply gs9 10); (refine wvv9 (V.cap Tryd.underlying24 rfl) ?_; go_step)) | ((with_reducible apply gs9 12); (refine wvv9 (V.len Tryd.underlying24 rfl) ?_; go_step)) | ((with_reducible apply gs9 16); (refine wvv9 (V.gtr rfl rfl) ?_; go_step)) | ((fail_if_success with_reducible apply ga9); go_step))
   repeat' (first
    | ((fail_if_success with_reducible apply ga9); go_step))
   go_ret
   exact ⟨none, 0, rfl, hS.nil 3 1⟩
 · skip
   repeat' (first
    | ((first | (with_reducible apply mv9) | (with_reducible apply as9)); (first | go_big_want | go_step); go_step) | ((with_reducible apply gs9 6); (refine wvv9 (V.lss rfl rfl) ?_; go_step)) | ((fail_if_success with_reducible apply ga9); go_step))
   repeat' (first
    | ((with_reducible apply gs9 13); (refine wplV (.int _ (0)) (V.as (V.subI rfl rfl (by omega)) (by omega)) rfl ?_; go_step)) | ((with_reducible apply gs9 14); (refine wplV (.int _ (((n : Nat) : Int))) (V.as (V.subI rfl rfl (by omega)) (by omega)) rfl ?_; go_step)) | ((first | (with_reducible apply mv9) | (with_reducible apply as9)); (first | go_big_want | go_step); go_step) | ((with_reducible apply gs9 10); (refine wvv9 (V.cap Tryd.underlying24 rfl) ?_; go_step)) | ((with_reducible apply gs9 12); (refine wvv9 (V.len Tryd.underlying24 rfl) ?_; go_step)) | ((with_reducible apply gs9 16); (refine wvv9 (V.gtr rfl rfl) ?_; go_step)) | ((fail_if_success with_reducible apply ga9); go_step))
   repeat' (first
    | ((with_reducible apply gs9 20); refine wplV (.slice none 0 0) (V.slice Tryd.underlying24 isz3 rfl .none (.some rfl (show IsN ((0 : Nat) : Int) 0 from rfl)) (Nat.le_refl _) (Nat.le_refl _)) kr9 ?_; go_step) | ((with_reducible apply gs9 22); refine wl9 ?_; refine wp_appendZ (o := ⟨some 22, _, _, _, _, _⟩) hS _ _ 24 3 rfl 3 8 .i64 elz24 .i64 Tryd.underlying3 rfl .i64 n rfl (by omega) (by unfold maxLen; omega) (by omega) ?_; clear hS; intro g22 c22 w hc1 hc2 hS; refine put_move ?_; go_step) | ((first | (with_reducible apply mv9) | (with_reducible apply as9)); (first | go_big_want | go_step); go_step) | ((with_reducible apply gs9 19); (refine wvv9 (V.cap Tryd.underlying24 rfl) ?_; go_step)) | ((with_reducible apply gs9 24); (refine wvv9 (V.len Tryd.underlying24 rfl) ?_; go_step)) | ((with_reducible apply gs9 25); (refine wvv9 (V.slice Tryd.underlying24 isz3 rfl (by (first | exact Lo.none | exact Lo.some rfl isn9)) (by (first | exact Up.none | exact Up.some rfl isn9)) (by omega) (by omega)) ?_; go_step)) | ((fail_if_success with_reducible apply ga9); go_step))
   go_ret
   refine ⟨some ⟨g22, 0, none⟩, c22, ?_, hS⟩
   show Ending.returned (.slice (cutAt (some ⟨g22, 0, none⟩) c22 0 1) (0 - 0) (c22 - 0)) = _
   rw [cutAt_zero]
   rfl
theorem Pull.mem2 : ∀ (ss rs : List Res) (r : Res), ∃ ss', Pull r (ss ++ r :: rs) ss'
 | [], rs, r => ⟨rs, .head⟩
 | x :: ss, rs, r => by obtain ⟨s, hs⟩ := Pull.mem2 ss rs r; exact ⟨x :: s, .tail hs⟩
theorem pkE_all (P : List PkV) : ∀ u ∈ P.flatMap pkE, u.oneCell' = true := fun u hu => by
 obtain ⟨p, _, h⟩ := List.mem_flatMap.1 hu
 simp only [pkE, List.mem_cons, List.mem_nil_iff, or_false] at h
 rcases h with rfl | rfl <;> rfl
theorem V.eqlNilS {P : Program} {a : Act} {x y : Operand} {t ty u e : TypeId} {ad : Option Addr} {n c : Nat} (ht : P.underlying t = some (.slice e)) (hg : P.eqGuardType P.depth t = false) (hx : a.eval x = .slice ad n c) (hy : a.eval y = .slice none 0 0) : Val P (.binOp .eql t x y u) ty a (.bool ad.isNone) := fun d pos af g w => by
 have e1 : (eqGuard .eql t x y (.slice ad n c) (.slice none 0 0)).run P w = .ok () w := by
  unfold eqGuard
  simp
 have e2 : (binOp .eql t (.slice ad n c) (.slice none 0 0)).run P w = .ok (.bool ad.isNone) w := by
  have : binOp .eql t (.slice ad n c) (.slice none 0 0) = (do pure (.bool (← Op.equal t (.slice ad n c) (.slice none 0 0)))) := rfl
  rw [this]
  simp only [Sem.run_bind, run_equal_slice_nil w t e ad n c ht, Result.andThen_ok, Sem.run_pure]
 simp only [execOp, hx, hy, Sem.run_bind, e1, Result.andThen_ok, e2, Sem.run_pure]
section
variable {P : Program} {W w : World} {rs rs' : List Res} {Q : Exit → Act → World → Prop} {K : Act → World → Prop} {o : Oper} {a : Act}
theorem wp_buildSlice0 (hS : St W w rs) (t : TypeId) (ho : o.op = .buildSlice t 0 #[]) (e : TypeId) (s b : Nat) (el : ElemT P t e s b)
 (h : ∀ g w', St W w' (own e s (some ⟨g, 0, none⟩) 0 0 [] :: rs) → K (a.put o.dst (.slice (some ⟨g, 0, none⟩) 0 0)) w') : o.wp P a w K Q := by
 obtain ⟨ht, ⟨i, z, hi, hz, hsz, hb, hzs⟩, hp⟩ := el
 have hr : (Instr.buildSlice t 0 #[]).run P w = .ok (.slice (some ⟨w.heap.size, 0, none⟩) 0 0) (w.alloc (.cells #[] e)) := by
  simp [Instr.buildSlice, run_underlying ht, sizeOf, typeInfo, hi, Instr.fill, newRow]
  rw [Array.eq_empty_of_size_eq_zero (xs := Array.map (fun x => default) (Array.range 0)) (by simp)]
 have hst := hS.allocOwn e s 0 [] (by simp) (Nat.zero_le _)
 unfold Oper.wp execOp
 simp only [ho, Sem.run_bind, Array.map_empty, hr, Result.andThen_ok, Sem.run_pure]
 exact h _ _ hst
end
theorem clone_any (W w0 : World) (rs rs' : List Res) (g n c : Nat) (P : List PkV) (hS : St W w0 rs) (hp : Pull (pks g n c P) rs rs') (hn : n ≤ 100000) (hn0 : 0 < n) :
 Calls Tryd.prog 68 #[.slice (some ⟨g, 0, none⟩) n c] w0 fun e w => ∃ (g' c' : Nat), e = .returned (.slice (some ⟨g', 0, none⟩) n c') ∧ St W w (pks g' n c' P :: pks g n c P :: rs') := by
 replace hS := hS.pull hp
 go_enter Tryd.func68, Tryd.ntmps68
 have he := pkE_len
 have hsl : ∀ w rs2, St W w (rs2 ++ pks g n c P :: rs') → Sl w 2 (.slice (some ⟨g, 0, none⟩) n c) n (P.flatMap pkE) := fun w rs2 h => by
  obtain ⟨ss', hp⟩ := Pull.mem2 rs2 rs' (pks g n c P)
  exact h.sl hp
 repeat' (first
  | ((with_reducible apply gs9 4); refine wplV (.bool false) (V.eqlNilS (ad := some ⟨g, 0, none⟩) (n := n) (c := c) Tryd.underlying134 kr9 rfl rfl) kr9 ?_; go_step) | ((first | (with_reducible apply mv9) | (with_reducible apply as9)); (first | go_big_want | go_step); go_step) | ((fail_if_success with_reducible apply ga9); go_step))
 repeat' (first
  | ((with_reducible apply gs9 5); refine wl9 ?_; refine wp_buildSlice0 (o := ⟨some 5, _, _, _, _, _⟩) hS 134 rfl 133 2 32 el134 ?_; clear hS; intro g5 w hS; refine put_move ?_; go_step) | ((with_reducible apply gs9 7); refine wl9 ?_; refine wp_append (o := ⟨some 7, _, _, _, _, _⟩) hS _ _ 134 rfl 133 2 32 el134 _ _ _ _ rfl .head _ rfl n _ (hsl _ [_] hS) (pkE_all P) (by unfold maxLen; omega) (by omega) ?_; clear hS; intro ad7 c7 w hS; refine put_move ?_; go_step) | ((first | (with_reducible apply mv9) | (with_reducible apply as9)); (first | go_big_want | go_step); go_step) | ((fail_if_success with_reducible apply ga9); go_step))
 go_ret
 rw [Nat.zero_add, List.nil_append] at hS
 obtain ⟨g', rfl⟩ := own_some hS .head hn0
 refine ⟨g', c7, ?_, hS⟩
 show Ending.returned (.slice (some ⟨g', 0, none⟩) (0 + n) c7) = _
 rw [Nat.zero_add]
structure Sr where
 ad : Option Addr
 c : Nat
 xs : List Int
def Sr.val (p : Sr) : Value := .slice p.ad p.xs.length p.c
def Sr.res (p : Sr) : Res := own 3 1 p.ad p.xs.length p.c (p.xs.map (Value.int .i64))
def flat (R : List Sr) (k : Nat) : List Int := (R.take k).flatMap (·.xs)
theorem flat_succ (R : List Sr) (k : Nat) (r : Sr) (h : R[k]? = some r) : flat R (k + 1) = flat R k ++ r.xs := by
 obtain ⟨hk, e⟩ := List.getElem?_eq_some_iff.1 h
 unfold flat
 rw [List.take_succ_eq_append_getElem hk, List.flatMap_append, e]
 simp
theorem flat_le (R : List Sr) (k : Nat) : (flat R k).length ≤ (R.flatMap (·.xs)).length := by
 have : R.flatMap (·.xs) = (R.take k).flatMap (·.xs) ++ (R.drop k).flatMap (·.xs) := by rw [← List.flatMap_append, List.take_append_drop]
 rw [this, List.length_append]
 unfold flat
 omega
set_option maxHeartbeats 4000000 in
theorem concat_any (w0 : World) (g m mc : Nat) (R : List Sr) (hv : Sl w0 1 (.slice (some ⟨g, 0, none⟩) m mc) m (R.map Sr.val)) (hr : ∀ r ∈ R, Sl w0 1 r.val r.xs.length (r.xs.map (Value.int .i64))) (hm : m ≤ 1000) (hb : (R.flatMap (·.xs)).length ≤ 1000000) :
 Calls Tryd.prog 69 #[.slice (some ⟨g, 0, none⟩) m mc] w0 fun e w => ∃ (ad : Option Addr) (c : Nat), e = .returned (.slice ad (R.flatMap (·.xs)).length c) ∧ St w0 w [own 3 1 ad (R.flatMap (·.xs)).length c ((R.flatMap (·.xs)).map (Value.int .i64))] := by
 have hS := St.start w0
 have hRl : R.length = m := by have := hv.1; simpa using this
 have HC : Hid (∀ k r, k < m → R[k]? = some r → w0.cell? ⟨g, k, none⟩ = some (.slice r.ad r.xs.length r.c)) := fun k r hk h => by
  obtain ⟨_, a1, c1, e1, _, _, hor⟩ := hv
  cases e1
  rcases hor with h0 | ⟨b0, o0, e2, hc⟩
  · omega
  · cases e2
    have := hc k (by omega)
    rw [Nat.zero_add, List.getElem?_map, h] at this
    exact this
 have HR := hid hr
 have HF : Hid (flat R m = R.flatMap (·.xs)) := by unfold Hid; unfold flat; rw [← hRl, List.take_length]
 have HL : Hid (∀ k, (flat R k).length ≤ 1000000) := fun k => Nat.le_trans (flat_le R k) hb
 rw [← HF.out]
 clear hv hr hb
 go_enter Tryd.func69, Tryd.ntmps69
 repeat' (first
  | ((first | (with_reducible apply mv9) | (with_reducible apply as9)); (first | go_big_want | go_step); go_step) | ((with_reducible apply gs9 10); (refine wvv9 (V.len Tryd.underlying160 rfl) ?_; go_step)) | ((fail_if_success with_reducible apply ga9); go_step))
 go_loopg [3, 11] m (fun gk sv iv w => ∃ (k L : Nat), gk + k = m ∧ L = (flat R k).length ∧ iv = .int .i64 k ∧ sv = .int .i64 L ∧ St w0 w [])
 case atStart => exact ⟨0, 0, by omega, rfl, rfl, rfl, hS⟩
 case round =>
  clear hS
  obtain ⟨k, L, hk, hL, rfl, rfl, hS⟩ := hrel
  have hL0 := HL.out k
  rw [← hL] at hL0
  by_cases hlt : k < m
  · obtain ⟨r, hr⟩ : ∃ r, R[k]? = some r := ⟨_, List.getElem?_eq_getElem (by omega)⟩
    have hc := HC.out k r hlt hr
    have hf := congrArg List.length (flat_succ R k r hr)
    rw [List.length_append, ← hL] at hf
    have hL1 := HL.out (k + 1)
    obtain ⟨N, hN⟩ : ∃ N, r.xs.length = N := ⟨_, rfl⟩
    rw [hN] at hf hc
    have HFk := hid hf
    rw [hf] at hL1
    clear hf hN hr
    repeat' (first
     | ((first | (with_reducible apply mv9) | (with_reducible apply as9)); (first | go_big_want | go_step); go_step) | ((with_reducible apply gs9 12); (refine wvv9 (V.lss rfl rfl) ?_; go_step)) | ((with_reducible apply gs9 13); (refine wvv9 (V.indexSl Tryd.underlying160 isz24 rfl rfl isn9 (by omega) (Nat.mul_one _) nq9) ?_; go_step)) | ((with_reducible apply gt9 _ (.load 24 _)); (refine wl9 ?_; apply wp_loadW hS 24 _ rfl _ rfl (one_of rfl) _; (case hc => with_reducible assumption); refine put_move ?_; go_step)) | ((fail_if_success with_reducible apply ga9); go_step))
    repeat' (first
     | ((with_reducible apply gs9 18); (refine wplV (.int _ (((L + N : Nat) : Int))) (V.as (V.addI rfl rfl (by omega)) (by omega)) rfl ?_; go_step)) | ((first | (with_reducible apply mv9) | (with_reducible apply as9)); (first | go_big_want | go_step); go_step) | ((with_reducible apply gs9 17); (refine wvv9 (V.len Tryd.underlying24 rfl) ?_; go_step)) | ((with_reducible apply gs9 20); (refine wvv9 (V.lss rfl rfl) ?_; go_step)) | ((fail_if_success with_reducible apply ga9); go_step))
    repeat' (first
     | ((with_reducible apply gs9 22); (refine wplV (.int _ (((k + 1 : Nat) : Int))) (V.as (V.addI rfl rfl (by omega)) (by omega)) rfl ?_; go_step)) | ((with_reducible apply mv9); (first | go_big_want | go_step); go_step) | ((fail_if_success with_reducible apply ga9); go_step))
    go_roundg (gk - 1)
    case measure => omega
    case rel => exact ⟨k + 1, L + N, by omega, HFk.out.symm, by go_num, rfl, hS⟩
  · obtain rfl : k = m := by omega
    repeat' (first
     | ((with_reducible apply mv9); (first | go_big_want | go_step); go_step) | ((with_reducible apply gs9 12); (refine wvv9 (V.lss rfl rfl) ?_; go_step)) | ((fail_if_success with_reducible apply ga9); go_step))
    repeat' (first
     | ((with_reducible apply gt9 _ (.call ⟨.value (.func 86), _, _⟩)); refine wpl_call (f := 86) Tryd.call86 kr9 ?_; refine ⟨_, (grow_any _ L (by omega)), ?_⟩; rintro e w ⟨ad, cc, rfl, hS2⟩; replace hS := hS.call1 hS2; clear hS2; refine ⟨_, rfl, ?_⟩; refine put_move ?_; go_step) | ((first | (with_reducible apply mv9) | (with_reducible apply as9)); (first | go_big_want | go_step); go_step) | ((with_reducible apply gs9 26); (refine wvv9 (V.len Tryd.underlying160 rfl) ?_; go_step)) | ((fail_if_success with_reducible apply ga9); go_step))
    go_loopg [6, 27] k (fun gk sv iv w => ∃ (j M : Nat) (aa : Option Addr) (ca : Nat), gk + j = k ∧ M = (flat R j).length ∧ iv = .int .i64 j ∧ sv = .slice aa M ca ∧ St w0 w [own 3 1 aa M ca ((flat R j).map (Value.int .i64))])
    case atStart => exact ⟨0, 0, ad, cc, by omega, rfl, rfl, rfl, hS⟩
    case round =>
     clear hS
     obtain ⟨j, M, aa, ca, hj, hM, rfl, rfl, hS⟩ := hrel
     have hM0 := HL.out j
     rw [← hM] at hM0
     by_cases hlt2 : j < k
     · obtain ⟨r, hr⟩ : ∃ r, R[j]? = some r := ⟨_, List.getElem?_eq_getElem (by omega)⟩
       have hc := HC.out j r hlt2 hr
       have hsl : Sl w0 1 (.slice r.ad r.xs.length r.c) r.xs.length (r.xs.map (Value.int .i64)) := HR.out r (List.mem_of_getElem? hr)
       have hfe := flat_succ R j r hr
       have hf := congrArg List.length hfe
       rw [List.length_append, ← hM] at hf
       have hM1 := HL.out (j + 1)
       obtain ⟨N, hN⟩ : ∃ N, r.xs.length = N := ⟨_, rfl⟩
       rw [hN] at hf hc hsl
       have HFk := hid hf
       have HFE := hid hfe
       rw [hf] at hM1
       clear hf hN hr hfe
       repeat' (first
        | ((with_reducible apply gs9 34); (refine wplV (.int _ (((j + 1 : Nat) : Int))) (V.as (V.addI rfl rfl (by omega)) (by omega)) rfl ?_; go_step)) | ((first | (with_reducible apply mv9) | (with_reducible apply as9)); (first | go_big_want | go_step); go_step) | ((with_reducible apply gs9 28); (refine wvv9 (V.lss rfl rfl) ?_; go_step)) | ((with_reducible apply gs9 29); (refine wvv9 (V.indexSl Tryd.underlying160 isz24 rfl rfl isn9 (by omega) (Nat.mul_one _) nq9) ?_; go_step)) | ((with_reducible apply gt9 _ (.load 24 _)); (refine wl9 ?_; apply wp_loadW hS 24 _ rfl _ rfl (one_of rfl) _; (case hc => with_reducible assumption); refine put_move ?_; go_step)) | ((with_reducible apply gs9 33); (refine wl9 ?_; apply wp_append (o := ⟨some 33, _, _, _, _, _⟩) hS _ _ 24 rfl 3 1 8 el24 _ _ _ _ rfl; (case hp => exact pl9); (case hx => exact rfl); (case hm => (first | exact hS.slBlk pl9 (by rfl) (by decide) | exact hS.sl pl9 | with_reducible assumption | exact Sl.ext (by with_reducible assumption) hS.1 | exact Sl.nil _ _ | exact Sl.ext (by assumption) hS.1 | assumption)); (case h1 => (first | exact oneAll rfl | exact oneMap _ _ | (intro u hu; cases hu))); (case h63 => unfold maxLen; omega); (case hb => omega); clear hS; intro ad33 c33 w hS; (first | simp only [mapk1] at hS | simp only [mapk2] at hS | simp only [mapk3] at hS | simp only [mapk4] at hS | simp only [mapkl] at hS | skip); refine put_move ?_; go_step)) | ((fail_if_success with_reducible apply ga9); go_step))
       go_roundg (gk - 1)
       case measure => omega
       case rel => exact ⟨j + 1, M + N, _, _, by omega, HFk.out.symm, by go_num, rfl, by rw [HFE.out]; exact hS.sub sb9⟩
     · obtain rfl : j = k := by omega
       repeat' (first
        | ((first | (with_reducible apply mv9) | (with_reducible apply as9)); (first | go_big_want | go_step); go_step) | ((with_reducible apply gs9 28); (refine wvv9 (V.lss rfl rfl) ?_; go_step)) | ((fail_if_success with_reducible apply ga9); go_step))
       repeat' (first
        | ((fail_if_success with_reducible apply ga9); go_step))
       go_ret
       rw [← hM]
       exact ⟨aa, ca, rfl, hS⟩

end Go.Proofs.YtehbjhocgnfpmaaDoor
/- Packages that are merged (best.Make): what their words' lengths are, in plain lists: KRAFT; no words of at most 16 bits cost less; what weighs more has no longer word. -/
namespace Go.Proofs.YtehbjhocgnfpmaaDoor
set_option linter.unusedVariables false
abbrev Pk := Int × List Int
def wsum (l : List Pk) : Int := (l.map (·.1)).sum
def syl (l : List Pk) : List Int := l.flatMap (·.2)
theorem wsum_nil : wsum [] = 0 := rfl
theorem wsum_cons (x : Pk) (l : List Pk) : wsum (x :: l) = x.1 + wsum l := by simp [wsum]
theorem wsum_append (a b : List Pk) : wsum (a ++ b) = wsum a + wsum b := by simp [wsum]
theorem wsum_perm {a b : List Pk} (h : a.Perm b) : wsum a = wsum b := by
 induction h with
 | nil => rfl
 | cons x _ ih => simp [wsum_cons, ih]
 | swap x y l => simp only [wsum_cons]; omega
 | trans _ _ h1 h2 => rw [h1, h2]
theorem syl_cons (x : Pk) (l : List Pk) : syl (x :: l) = x.2 ++ syl l := by simp [syl]
theorem syl_append (a b : List Pk) : syl (a ++ b) = syl a ++ syl b := by simp [syl]
theorem syl_perm {a b : List Pk} (h : a.Perm b) : (syl a).Perm (syl b) := h.flatMap_right _
def Srt (l : List Pk) : Prop := l.Pairwise (fun a b => a.1 ≤ b.1)
def pjoin (p : Pk × Pk) : Pk := (p.1.1 + p.2.1, p.1.2 ++ p.2.2)
def prs : List Pk → List (Pk × Pk)
 | a :: b :: l => (a, b) :: prs l
 | _ => []
def unp (l : List (Pk × Pk)) : List Pk := l.flatMap fun p => [p.1, p.2]
def pkgs (l : List Pk) : List Pk := (prs l).map pjoin
theorem prs_unp : ∀ (l : List Pk), ∃ z, unp (prs l) ++ z = l ∧ z.length ≤ 1
 | [] => ⟨[], rfl, by simp⟩
 | [a] => ⟨[a], rfl, by simp⟩
 | a :: b :: l => by
  obtain ⟨z, h, hz⟩ := prs_unp l
  exact ⟨z, by simp [prs, unp] at h ⊢; exact h, hz⟩
theorem unp_len (l : List (Pk × Pk)) : (unp l).length = 2 * l.length := by
 induction l with
 | nil => rfl
 | cons x l ih => simp [unp] at ih ⊢; omega
theorem prs_len (l : List Pk) : (prs l).length = l.length / 2 := by
 obtain ⟨z, h, hz⟩ := prs_unp l
 have := congrArg List.length h
 rw [List.length_append, unp_len] at this
 omega
theorem pairs_len (l : List Pk) : (pkgs l).length = l.length / 2 := by simp [pkgs, prs_len]
theorem wsum_join (l : List (Pk × Pk)) : wsum (l.map pjoin) = wsum (unp l) := by
 induction l with
 | nil => rfl
 | cons x l ih => simp only [List.map_cons, wsum_cons, ih, pjoin, unp, List.flatMap_cons, List.cons_append, List.nil_append]; simp only [unp] at *; omega
theorem syl_join (l : List (Pk × Pk)) : syl (l.map pjoin) = syl (unp l) := by
 induction l with
 | nil => rfl
 | cons x l ih => simp only [List.map_cons, syl_cons, ih, pjoin, unp, List.flatMap_cons, List.cons_append, List.nil_append, List.append_assoc]
theorem perm_lift {α β : Type} (f : α → β) {L L0 : List β} (h : L.Perm L0) : ∀ M : List α, M.map f = L0 → ∃ M' : List α, M'.Perm M ∧ M'.map f = L := by
 induction h with
 | nil => intro M e; exact ⟨[], (by cases M with | nil => exact List.Perm.refl _ | cons => cases e), rfl⟩
 | cons x _ ih =>
  intro M e
  cases M with
  | nil => cases e
  | cons m M =>
   simp only [List.map_cons, List.cons.injEq] at e
   obtain ⟨M', h1, h2⟩ := ih M e.2
   exact ⟨m :: M', h1.cons m, by simp [e.1, h2]⟩
 | swap x y l =>
  intro M e
  match M, e with
  | m1 :: m2 :: M, e =>
   simp only [List.map_cons, List.cons.injEq] at e
   exact ⟨m2 :: m1 :: M, List.Perm.swap _ _ _, by simp [e.1, e.2.1, e.2.2]⟩
 | trans _ _ h1 h2 =>
  intro M e
  obtain ⟨M1, p1, e1⟩ := h2 M e
  obtain ⟨M2, p2, e2⟩ := h1 M1 e1
  exact ⟨M2, p2.trans p1, e2⟩
def LiesIn (X R : List Pk) : Prop := ∃ Z, (X ++ Z).Perm R
theorem LiesIn.take (R : List Pk) (m : Nat) : LiesIn (R.take m) R := ⟨R.drop m, by rw [List.take_append_drop]⟩
theorem LiesIn.right {X R Q : List Pk} (h : LiesIn X R) (p : R.Perm Q) : LiesIn X Q := by
 obtain ⟨Z, hz⟩ := h; exact ⟨Z, hz.trans p⟩
theorem LiesIn.app {X Y R Q : List Pk} (h : LiesIn X R) (k : LiesIn Y Q) : LiesIn (X ++ Y) (R ++ Q) := by
 obtain ⟨Z, hz⟩ := h; obtain ⟨U, hu⟩ := k
 refine ⟨Z ++ U, List.Perm.trans ?_ (hz.append hu)⟩
 rw [List.append_assoc, List.append_assoc]
 refine List.Perm.append_left X ?_
 rw [← List.append_assoc, ← List.append_assoc]
 exact List.Perm.append_right U List.perm_append_comm
theorem LiesIn.mem {X R : List Pk} (h : LiesIn X R) {x : Pk} (hx : x ∈ X) : x ∈ R := by
 obtain ⟨Z, hz⟩ := h; exact hz.mem_iff.1 (List.mem_append_left _ hx)
theorem LiesIn.len {X R : List Pk} (h : LiesIn X R) : X.length ≤ R.length := by
 obtain ⟨Z, hz⟩ := h; have := hz.length_eq; rw [List.length_append] at this; omega
theorem LiesIn.unpair {B R : List Pk} (h : LiesIn B (pkgs R)) : ∃ Y, LiesIn Y R ∧ Y.length = 2 * B.length ∧ syl Y = syl B ∧ wsum Y = wsum B ∧ ∃ B', B'.map pjoin = B ∧ Y = unp B' := by
 obtain ⟨Z, hz⟩ := h
 obtain ⟨M, hp, hm⟩ := perm_lift pjoin hz (prs R) rfl
 obtain ⟨B', Z', e, hb, hz'⟩ := List.map_eq_append_iff.1 hm
 obtain ⟨z, hu, _⟩ := prs_unp R
 refine ⟨unp B', ⟨unp Z' ++ z, ?_⟩, by rw [unp_len, ← hb, List.length_map], by rw [← hb, syl_join], by rw [← hb, wsum_join], B', hb, rfl⟩
 have h1 : (unp M).Perm (unp (prs R)) := hp.flatMap_right _
 have h2 : unp M = unp B' ++ unp Z' := by rw [e]; simp [unp]
 rw [← List.append_assoc, ← h2]
 conv => rhs; rw [← hu]
 exact h1.append_right z
theorem take_least : ∀ (R : List Pk), Srt R → (∀ x ∈ R, 0 ≤ x.1) → ∀ (X : List Pk) (m : Nat), LiesIn X R → m ≤ X.length → wsum (R.take m) ≤ wsum X := by
 have nn : ∀ X : List Pk, (∀ x ∈ X, 0 ≤ x.1) → 0 ≤ wsum X := fun X h => by
  induction X with
  | nil => simp [wsum]
  | cons x X ih => rw [wsum_cons]; have := h x (by simp); have := ih fun y hy => h y (by simp [hy]); omega
 intro R
 induction R with
 | nil =>
  intro _ _ X m hX _
  have : X = [] := by have := hX.len; exact List.eq_nil_of_length_eq_zero (by simpa using this)
  subst this; simp [wsum]
 | cons r R ih =>
  intro hs h0 X m hX hm
  cases m with
  | zero => simp only [List.take_zero, wsum_nil]; exact nn X fun x hx => h0 x (hX.mem hx)
  | succ m =>
   obtain ⟨hr, hs'⟩ := List.pairwise_cons.1 hs
   rw [List.take_succ_cons, wsum_cons]
   obtain ⟨Z, hz⟩ := hX
   have hrm : r ∈ X ++ Z := hz.mem_iff.2 (by simp)
   rcases List.mem_append.1 hrm with hx | hx
   · have p := List.perm_cons_erase hx
     have hz2 : (X.erase r ++ Z).Perm R := by
      have : (r :: (X.erase r ++ Z)).Perm (r :: R) := (p.symm.append_right Z).trans hz
      exact this.cons_inv
     have hl := p.length_eq
     rw [List.length_cons] at hl
     have := ih hs' (fun x hx => h0 x (by simp [hx])) (X.erase r) m ⟨Z, hz2⟩ (by omega)
     rw [wsum_perm p, wsum_cons]; omega
   · cases X with
     | nil => simp at hm
     | cons x X =>
      have p := List.perm_cons_erase hx
      have hz2 : (X ++ (x :: Z.erase r)).Perm R := by
       have h1 : (r :: (X ++ (x :: Z.erase r))).Perm (r :: R) := by
        refine List.Perm.trans ?_ hz
        have a1 : (X ++ x :: Z.erase r).Perm (x :: (X ++ Z.erase r)) := List.perm_middle
        have a2 : (r :: (X ++ x :: Z.erase r)).Perm (r :: x :: (X ++ Z.erase r)) := a1.cons r
        refine a2.trans ((List.Perm.swap x r _).trans ?_)
        refine List.Perm.cons x ?_
        have a3 : (r :: (X ++ Z.erase r)).Perm (X ++ r :: Z.erase r) := List.perm_middle.symm
        exact a3.trans (List.Perm.append_left X p.symm)
       exact h1.cons_inv
      have hxr : r.1 ≤ x.1 := by
       have : x ∈ r :: R := hz.mem_iff.1 (by simp)
       rcases List.mem_cons.1 this with e | e
       · rw [e]; exact Int.le_refl _
       · exact hr x e
      have := ih hs' (fun x hx => h0 x (by simp [hx])) X m ⟨_, hz2⟩ (by simp at hm; omega)
      rw [wsum_cons]; omega
inductive RowK (S : List Pk) : Nat → List Pk → Prop
 | one (R : List Pk) (p : R.Perm S) (s : Srt R) : RowK S 1 R
 | more {k : Nat} {R Q : List Pk} (h : RowK S k R) (p : Q.Perm (pkgs R ++ S)) (s : Srt Q) : RowK S (k + 1) Q
theorem RowK.srt {S R : List Pk} {k : Nat} (h : RowK S k R) : Srt R := by cases h <;> assumption
theorem RowK.nonneg {S R : List Pk} {k : Nat} (h0 : ∀ x ∈ S, 0 ≤ x.1) (h : RowK S k R) : ∀ x ∈ R, 0 ≤ x.1 := by
 induction h with
 | one R p _ => exact fun x hx => h0 x (p.mem_iff.1 hx)
 | @more k R Q h p _ ih =>
  intro x hx
  rcases List.mem_append.1 (p.mem_iff.1 hx) with hx | hx
  · obtain ⟨q, hq, rfl⟩ := List.mem_map.1 hx
    obtain ⟨z, hu, _⟩ := prs_unp R
    have hm : ∀ y ∈ unp (prs R), y ∈ R := fun y hy => by rw [← hu]; exact List.mem_append_left _ hy
    have h1 := ih q.1 (hm _ (by simp only [unp, List.mem_flatMap]; exact ⟨q, hq, by simp⟩))
    have h2 := ih q.2 (hm _ (by simp only [unp, List.mem_flatMap]; exact ⟨q, hq, by simp⟩))
    simp only [pjoin]; omega
  · exact h0 x hx
theorem RowK.len {S R : List Pk} {k : Nat} (h : RowK S k R) : R.length ≤ 2 * S.length := by
 induction h with
 | one R p _ => have := p.length_eq; omega
 | more h p _ ih => have := p.length_eq; rw [List.length_append, pairs_len] at this; omega
theorem RowK.long {S R : List Pk} {k : Nat} (h : RowK S k R) (_h1 : 1 ≤ S.length) : 2 * S.length ≤ R.length + 1 + S.length / 2 ^ (k - 1) := by
 induction h with
 | one R p _ => have := p.length_eq; simp; omega
 | @more k R Q h p _ ih =>
  have := p.length_eq; rw [List.length_append, pairs_len] at this
  have hk : 1 ≤ k := by cases h <;> omega
  have e : S.length / 2 ^ (k + 1 - 1) = S.length / 2 ^ (k - 1) / 2 := by
   rw [Nat.div_div_eq_div_mul, ← Nat.pow_succ, show (k - 1).succ = k + 1 - 1 by omega]
  rw [e]; omega
def nsum {α : Type} (f : α → Nat) (l : List α) : Nat := (l.map f).sum
theorem nsum_cons {α : Type} (f : α → Nat) (x : α) (l : List α) : nsum f (x :: l) = f x + nsum f l := by simp [nsum]
theorem nsum_add {α : Type} (f g : α → Nat) (l : List α) : nsum (fun x => f x + g x) l = nsum f l + nsum g l := by
 induction l with
 | nil => rfl
 | cons x l ih => simp only [nsum_cons, ih]; omega
theorem nsum_le {α : Type} (f g : α → Nat) (l : List α) (h : ∀ x ∈ l, f x ≤ g x) : nsum f l ≤ nsum g l := by
 induction l with
 | nil => exact Nat.le_refl _
 | cons x l ih => have := h x (by simp); have := ih fun y hy => h y (by simp [hy]); simp only [nsum_cons]; omega
theorem nsum_congr {α : Type} (f g : α → Nat) (l : List α) (h : ∀ x ∈ l, f x = g x) : nsum f l = nsum g l := by
 induction l with
 | nil => rfl
 | cons x l ih => have := h x (by simp); have := ih fun y hy => h y (by simp [hy]); simp only [nsum_cons]; omega
theorem nsum_mul {α : Type} (f : α → Nat) (c : Nat) (l : List α) : nsum (fun x => f x * c) l = nsum f l * c := by
 induction l with
 | nil => simp [nsum]
 | cons x l ih => simp only [nsum_cons, ih, Nat.add_mul]
theorem nsum_one {α : Type} (p : α → Bool) (l : List α) : nsum (fun x => if p x then 1 else 0) l = (l.filter p).length := by
 induction l with
 | nil => rfl
 | cons x l ih => rw [nsum_cons, ih, List.filter_cons]; by_cases h : p x = true <;> simp [h]; omega
theorem nsum_zero {α : Type} (f : α → Nat) (l : List α) (h : ∀ x ∈ l, f x = 0) : nsum f l = 0 := by
 induction l with
 | nil => rfl
 | cons x l ih => have := h x (by simp); have := ih fun y hy => h y (by simp [hy]); simp only [nsum_cons]; omega
def lng (X : List Pk) (s : Int) : Nat := (syl X).count s
structure Sing (S : List Pk) (ss : List Int) : Prop where
 syms : S.map (·.2) = ss.map fun s => [s]
 nd : ss.Nodup
theorem Sing.len {S : List Pk} {ss : List Int} (h : Sing S ss) : S.length = ss.length := by
 have := congrArg List.length h.syms; simpa using this
theorem Sing.one {S : List Pk} {ss : List Int} (h : Sing S ss) : ∀ x ∈ S, ∃ s ∈ ss, x.2 = [s] := fun x hx => by
 have : x.2 ∈ S.map (·.2) := List.mem_map.2 ⟨x, hx, rfl⟩
 rw [h.syms] at this
 obtain ⟨s, hs, e⟩ := List.mem_map.1 this
 exact ⟨s, hs, e.symm⟩
theorem Sing.syls {S : List Pk} {ss : List Int} (h : Sing S ss) : syl S = ss := by
 have : syl S = (S.map (·.2)).flatten := by simp [syl, List.flatMap]
 rw [this, h.syms]
 clear h this
 induction ss with
 | nil => rfl
 | cons a l ih => rw [List.map_cons, List.flatten_cons, ih]; rfl
theorem RowK.pos {S R : List Pk} {k : Nat} {ss : List Int} (hS : Sing S ss) (h : RowK S k R) : ∀ x ∈ R, 1 ≤ x.2.length := by
 induction h with
 | one R p _ => intro x hx; obtain ⟨s, _, e⟩ := hS.one x (p.mem_iff.1 hx); rw [e]; simp
 | @more k R Q h p _ ih =>
  intro x hx
  rcases List.mem_append.1 (p.mem_iff.1 hx) with hx | hx
  · obtain ⟨q, hq, rfl⟩ := List.mem_map.1 hx
    obtain ⟨z, hu, _⟩ := prs_unp R
    have h1 := ih q.1 (by rw [← hu]; exact List.mem_append_left _ (by simp only [unp, List.mem_flatMap]; exact ⟨q, hq, by simp⟩))
    simp only [pjoin, List.length_append]; omega
  · obtain ⟨s, _, e⟩ := hS.one x hx; rw [e]; simp
theorem LiesIn.parts {S R Q X : List Pk} {k : Nat} {ss : List Int} (hS : Sing S ss) (h : RowK S k R) (p : Q.Perm (pkgs R ++ S)) (hX : LiesIn X Q) :
 ∃ B A, LiesIn B (pkgs R) ∧ LiesIn A S ∧ X.Perm (B ++ A) := by
 obtain ⟨Z, hz⟩ := hX
 have hz := hz.trans p
 have hpos := h.pos hS
 have h1 : ∀ x ∈ pkgs R, decide (2 ≤ x.2.length) = true := fun x hx => by
  obtain ⟨q, hq, rfl⟩ := List.mem_map.1 hx
  obtain ⟨z, hu, _⟩ := prs_unp R
  have e1 := hpos q.1 (by rw [← hu]; exact List.mem_append_left _ (by simp only [unp, List.mem_flatMap]; exact ⟨q, hq, by simp⟩))
  have e2 := hpos q.2 (by rw [← hu]; exact List.mem_append_left _ (by simp only [unp, List.mem_flatMap]; exact ⟨q, hq, by simp⟩))
  simp only [pjoin, List.length_append, decide_eq_true_eq]; omega
 have h2 : ∀ x ∈ S, decide (2 ≤ x.2.length) = false := fun x hx => by obtain ⟨s, _, e⟩ := hS.one x hx; rw [e]; simp
 have f1 := hz.filter (fun x => decide (2 ≤ x.2.length))
 have f2 := hz.filter (fun x => !decide (2 ≤ x.2.length))
 rw [List.filter_append, List.filter_append, List.filter_eq_self.2 h1, (List.filter_eq_nil_iff (l := S)).2 (fun x hx => by rw [h2 x hx]; simp), List.append_nil] at f1
 rw [List.filter_append, List.filter_append, (List.filter_eq_nil_iff (l := pkgs R)).2 (fun x hx => by rw [h1 x hx]; simp), (List.filter_eq_self (l := S)).2 (fun x hx => by rw [h2 x hx]; rfl), List.nil_append] at f2
 exact ⟨_, _, ⟨_, f1⟩, ⟨_, f2⟩, (List.filter_append_perm _ X).symm⟩
theorem lng_app (X Y : List Pk) (s : Int) : lng (X ++ Y) s = lng X s + lng Y s := by simp [lng, syl_append]
theorem lng_perm {X Y : List Pk} (h : X.Perm Y) (s : Int) : lng X s = lng Y s := (syl_perm h).count_eq s
theorem LiesIn.single {A S : List Pk} {ss : List Int} (hS : Sing S ss) (h : LiesIn A S) : (syl A).Nodup ∧ (syl A).length = A.length ∧ ∀ s ∈ syl A, s ∈ ss := by
 obtain ⟨Z, hz⟩ := h
 have hp : (syl A ++ syl Z).Perm ss := by rw [← syl_append, ← hS.syls]; exact syl_perm hz
 refine ⟨(List.nodup_append.1 (hp.nodup_iff.2 hS.nd)).1, ?_, fun s hs => hp.mem_iff.1 (List.mem_append_left _ hs)⟩
 have : ∀ x ∈ A, x.2.length = 1 := fun x hx => by
  obtain ⟨s, _, e⟩ := hS.one x (hz.mem_iff.1 (List.mem_append_left _ hx)); rw [e]; rfl
 clear hp hz
 induction A with
 | nil => rfl
 | cons x A ih => rw [syl_cons, List.length_append, this x (by simp), ih fun y hy => this y (by simp [hy]), List.length_cons]; omega
theorem two_pow_pred (k : Nat) (h : 1 ≤ k) : 2 ^ k = 2 * 2 ^ (k - 1) := by
 cases k with
 | zero => omega
 | succ k => rw [Nat.pow_succ, Nat.add_sub_cancel]; omega
theorem RowK.kraft {S R : List Pk} {k : Nat} {ss : List Int} (hS : Sing S ss) (h : RowK S k R) : ∀ X, LiesIn X R →
 (∀ s, lng X s ≤ k) ∧ X.length * 2 ^ (k - 1) ≤ nsum (fun s => 2 ^ k - 2 ^ (k - lng X s)) ss ∧ (∀ s ∈ syl X, s ∈ ss) := by
 have sums : ∀ (L : List Int), L.Nodup → (∀ s ∈ L, s ∈ ss) → nsum (fun s => L.count s) ss = L.length := by
  intro L
  induction L with
  | nil => intro _ _; exact nsum_zero _ _ fun s _ => rfl
  | cons x L ih =>
   intro hn hm
   obtain ⟨h1, h2⟩ := List.nodup_cons.1 hn
   have := ih h2 fun s hs => hm s (by simp [hs])
   have e : nsum (fun s => (x :: L).count s) ss = nsum (fun s => L.count s) ss + nsum (fun s => if s = x then 1 else 0) ss := by
    rw [← nsum_add]
    refine nsum_congr _ _ _ fun s _ => ?_
    rw [List.count_cons]; by_cases h : s = x
    · subst h; simp
    · have : (x == s) = false := by simp; exact fun e => h e.symm
      simp [h, this]
   have e2 : nsum (fun s => if s = x then 1 else 0) ss = 1 := by
    have hx := hm x (by simp)
    have e3 : nsum (fun s => if s = x then 1 else 0) ss = ss.count x := by
     clear e this ih h1 h2 hn hm hx h hS
     induction ss with
     | nil => rfl
     | cons a l ih => rw [nsum_cons, ih, List.count_cons]; by_cases h : a = x <;> simp [h]; omega
    rw [e3]
    have a1 := List.nodup_iff_count.1 hS.nd x
    have a2 := List.count_pos_iff.2 hx
    omega
   rw [e, e2, this, List.length_cons]
 induction h with
 | one R p _ =>
  intro X hX
  obtain ⟨h1, h2, h3⟩ := (hX.right p).single hS
  have hle : ∀ s, lng X s ≤ 1 := fun s => List.nodup_iff_count.1 h1 s
  refine ⟨hle, ?_, h3⟩
  have := sums _ h1 h3
  have e : nsum (fun s => 2 ^ 1 - 2 ^ (1 - lng X s)) ss = nsum (fun s => (syl X).count s) ss := nsum_congr _ _ _ fun s _ => by
   have := hle s
   have e : lng X s = (syl X).count s := rfl
   rcases Nat.lt_or_ge (lng X s) 1 with h | h
   · rw [← e, show lng X s = 0 by omega]
   · rw [← e, show lng X s = 1 by omega]
  rw [e, this, h2]; simp
 | @more k R Q h p _ ih =>
  intro X hX
  obtain ⟨B, A, hB, hA, hp⟩ := LiesIn.parts hS h p hX
  obtain ⟨Y, hY, hYl, hYs, _, _⟩ := hB.unpair
  obtain ⟨i1, i2, i3⟩ := ih Y hY
  obtain ⟨a1, a2, a3⟩ := hA.single hS
  have hk : 1 ≤ k := by cases h <;> omega
  have hlx : ∀ s, lng X s = lng Y s + (syl A).count s := fun s => by rw [lng_perm hp, lng_app]; simp only [lng, hYs]
  have ha : ∀ s, (syl A).count s ≤ 1 := fun s => List.nodup_iff_count.1 a1 s
  refine ⟨fun s => by rw [hlx]; have := i1 s; have := ha s; omega, ?_, fun s hs => ?_⟩
  · have hs := sums _ a1 a3
    rw [a2] at hs
    have key : nsum (fun s => (syl A).count s * 2 ^ k + (2 ^ k - 2 ^ (k - lng Y s))) ss ≤ nsum (fun s => 2 ^ (k + 1) - 2 ^ (k + 1 - lng X s)) ss := by
     refine nsum_le _ _ _ fun s _ => ?_
     rw [hlx]
     have h1 := i1 s
     have h2 := ha s
     have e1 : 2 ^ (k + 1) = 2 * 2 ^ k := by rw [Nat.pow_succ]; omega
     have e3 : 2 ^ (k - lng Y s) ≤ 2 ^ k := Nat.pow_le_pow_right (by omega) (by omega)
     rcases Nat.lt_or_ge ((syl A).count s) 1 with h | h
     · rw [show (syl A).count s = 0 by omega, Nat.zero_mul, Nat.zero_add, Nat.add_zero (lng Y s), e1]
       have e2 : 2 ^ (k + 1 - lng Y s) = 2 * 2 ^ (k - lng Y s) := by rw [show k + 1 - lng Y s = (k - lng Y s) + 1 by omega, Nat.pow_succ]; omega
       rw [e2]; omega
     · rw [show (syl A).count s = 1 by omega, Nat.one_mul, e1, show k + 1 - (lng Y s + 1) = k - lng Y s by omega]
       omega
    rw [nsum_add, nsum_mul, hs] at key
    have hl := hp.length_eq
    rw [List.length_append] at hl
    have e4 := two_pow_pred k hk
    rw [hl, Nat.add_sub_cancel, Nat.add_mul]
    rw [hYl] at i2
    have e5 : B.length * 2 ^ k = 2 * B.length * 2 ^ (k - 1) := by rw [e4, ← Nat.mul_assoc]; congr 1; omega
    omega
  · have := (syl_perm hp).mem_iff.1 hs
    rw [syl_append, List.mem_append] at this
    rcases this with h | h
    · exact i3 s (hYs ▸ h)
    · exact a3 s h
def isum {α : Type} (f : α → Int) (l : List α) : Int := (l.map f).sum
theorem isum_cons {α : Type} (f : α → Int) (x : α) (l : List α) : isum f (x :: l) = f x + isum f l := by simp [isum]
theorem isum_add {α : Type} (f g : α → Int) (l : List α) : isum (fun x => f x + g x) l = isum f l + isum g l := by
 induction l with
 | nil => rfl
 | cons x l ih => simp only [isum_cons, ih]; omega
theorem isum_congr {α : Type} (f g : α → Int) (l : List α) (h : ∀ x ∈ l, f x = g x) : isum f l = isum g l := by
 induction l with
 | nil => rfl
 | cons x l ih => have := h x (by simp); have := ih fun y hy => h y (by simp [hy]); simp only [isum_cons]; omega
theorem isum_zero {α : Type} (f : α → Int) (l : List α) (h : ∀ x ∈ l, f x = 0) : isum f l = 0 := by
 induction l with
 | nil => rfl
 | cons x l ih => have := h x (by simp); have := ih fun y hy => h y (by simp [hy]); simp only [isum_cons]; omega
theorem nsum_perm {α : Type} (f : α → Nat) {l m : List α} (h : l.Perm m) : nsum f l = nsum f m := by
 induction h with
 | nil => rfl
 | cons x _ ih => simp [nsum_cons, ih]
 | swap x y l => simp only [nsum_cons]; omega
 | trans _ _ h1 h2 => rw [h1, h2]
theorem isum_append {α : Type} (f : α → Int) (l m : List α) : isum f (l ++ m) = isum f l + isum f m := by simp [isum]
theorem nsum_append {α : Type} (f : α → Nat) (l m : List α) : nsum f (l ++ m) = nsum f l + nsum f m := by simp [nsum]
theorem RowK.weigh {S R : List Pk} {k : Nat} (w : Int → Int) (hw : ∀ x ∈ S, x.1 = isum w x.2) (h : RowK S k R) : ∀ x ∈ R, x.1 = isum w x.2 := by
 induction h with
 | one R p _ => exact fun x hx => hw x (p.mem_iff.1 hx)
 | @more k R Q h p _ ih =>
  intro x hx
  rcases List.mem_append.1 (p.mem_iff.1 hx) with hx | hx
  · obtain ⟨q, hq, rfl⟩ := List.mem_map.1 hx
    obtain ⟨z, hu, _⟩ := prs_unp R
    have h1 := ih q.1 (by rw [← hu]; exact List.mem_append_left _ (by simp only [unp, List.mem_flatMap]; exact ⟨q, hq, by simp⟩))
    have h2 := ih q.2 (by rw [← hu]; exact List.mem_append_left _ (by simp only [unp, List.mem_flatMap]; exact ⟨q, hq, by simp⟩))
    simp only [pjoin, isum_append]; omega
  · exact hw x hx
theorem wsum_syl (w : Int → Int) : ∀ (X : List Pk), (∀ x ∈ X, x.1 = isum w x.2) → wsum X = isum w (syl X)
 | [], _ => rfl
 | x :: X, h => by rw [wsum_cons, syl_cons, isum_append, h x (by simp), wsum_syl w X fun y hy => h y (by simp [hy])]
theorem isum_count (w : Int → Int) (ss : List Int) (hn : ss.Nodup) : ∀ (L : List Int), (∀ s ∈ L, s ∈ ss) → isum w L = isum (fun s => w s * (L.count s : Nat)) ss
 | [], _ => (isum_zero _ _ fun s _ => by simp).symm
 | x :: L, h => by
  rw [isum_cons, isum_count w ss hn L fun s hs => h s (by simp [hs])]
  have e : isum (fun s => w s * ((x :: L).count s : Nat)) ss = isum (fun s => w s * (L.count s : Nat)) ss + isum (fun s => if s = x then w s else 0) ss := by
   rw [← isum_add]
   refine isum_congr _ _ _ fun s _ => ?_
   rw [List.count_cons]; by_cases h : s = x
   · subst h; simp [Int.mul_add]
   · have : (x == s) = false := by simp; exact fun e => h e.symm
     simp [h, this]
  have hx := h x (by simp)
  have e2 : isum (fun s => if s = x then w s else 0) ss = w x := by
   clear e h
   induction ss with
   | nil => cases hx
   | cons a l ih =>
    obtain ⟨h1, h2⟩ := List.nodup_cons.1 hn
    rw [isum_cons]
    by_cases ha : a = x
    · subst ha
      rw [if_pos rfl, isum_zero _ l fun s hs => by rw [if_neg]; intro e; exact h1 (e ▸ hs)]; omega
    · rw [if_neg ha, ih h2 ((List.mem_cons.1 hx).resolve_left (fun e => ha e.symm))]; omega
  rw [e, e2]; omega
def fN (K l : Nat) : Nat → Nat
 | 0 => 0
 | k + 1 => fN K l k + (if K ≤ l + k then 2 ^ k else 0)
def fC (K l : Nat) : Nat → Nat
 | 0 => 0
 | k + 1 => fC K l k + (if K ≤ l + k then 1 else 0)
theorem fN_16 (l : Nat) (h : l ≤ 16) : fN 16 l 16 + 2 ^ (16 - l) = 2 ^ 16 := by
 have : ∀ l, l < 17 → fN 16 l 16 + 2 ^ (16 - l) = 2 ^ 16 := by decide
 exact this l (by omega)
theorem fC_16 (l : Nat) (h : l ≤ 16) : fC 16 l 16 = l := by
 have : ∀ l, l < 17 → fC 16 l 16 = l := by decide
 exact this l (by omega)
theorem pairs_take : ∀ (R : List Pk) (t : Nat), 2 * t ≤ R.length → wsum ((pkgs R).take t) = wsum (R.take (2 * t))
 | _, 0, _ => by simp
 | a :: b :: l, t + 1, h => by
  have ih := pairs_take l t (by simp at h; omega)
  rw [show 2 * (t + 1) = 2 * t + 1 + 1 by omega, List.take_succ_cons, List.take_succ_cons, wsum_cons, wsum_cons, ← ih]
  simp only [pkgs, prs, List.map_cons, List.take_succ_cons, wsum_cons, pjoin]; omega
 | [a], t + 1, h => by simp at h; omega
 | [], t + 1, h => by simp at h
theorem RowK.lower {S R : List Pk} {k : Nat} (K : Nat) (len : Pk → Nat) (h0 : ∀ x ∈ S, 0 ≤ x.1) (h : RowK S k R) :
 ∃ X, LiesIn X R ∧ X.length = nsum (fun x => fN K (len x) k) S / 2 ^ (k - 1) ∧ wsum X ≤ isum (fun x => x.1 * (fC K (len x) k : Nat)) S := by
 have sel : ∀ k, nsum (fun x => fN K (len x) (k + 1)) S = nsum (fun x => fN K (len x) k) S + (S.filter fun x => decide (K ≤ len x + k)).length * 2 ^ k ∧
  isum (fun x => x.1 * (fC K (len x) (k + 1) : Nat)) S = isum (fun x => x.1 * (fC K (len x) k : Nat)) S + wsum (S.filter fun x => decide (K ≤ len x + k)) := fun k => by
  clear h h0
  induction S with
  | nil => exact ⟨by simp [nsum], by simp [isum, wsum]⟩
  | cons x S ih =>
   simp only [nsum_cons, isum_cons, List.filter_cons]
   rw [ih.1, ih.2]
   by_cases hx : K ≤ len x + k
   · simp only [fN, fC, hx, if_true, decide_true, List.length_cons, wsum_cons, Nat.add_mul, Nat.one_mul]
     refine ⟨by omega, ?_⟩
     push_cast; rw [Int.mul_add]; omega
   · simp only [fN, fC, hx, if_false, decide_false, Bool.false_eq_true]
     exact ⟨by omega, by simp; omega⟩
 have filt : ∀ k, LiesIn (S.filter fun x => decide (K ≤ len x + k)) S := fun k => ⟨_, List.filter_append_perm _ S⟩
 induction h with
 | one R p _ =>
  refine ⟨_, (filt 0).right p.symm, ?_, ?_⟩
  · rw [(sel 0).1, nsum_zero (fun x => fN K (len x) 0) S fun _ _ => rfl]; simp
  · rw [(sel 0).2, isum_zero (fun x => x.1 * (fC K (len x) 0 : Nat)) S fun _ _ => by simp [fC]]; omega
 | @more k R Q h p _ ih =>
  obtain ⟨X, hX, hl, hw⟩ := ih
  have hk : 1 ≤ k := by cases h <;> omega
  have ht := hX.len
  refine ⟨_, ((LiesIn.take (pkgs R) (X.length / 2)).app (filt k)).right p.symm, ?_, ?_⟩
  · rw [(sel k).1, List.length_append, List.length_take, pairs_len, Nat.min_eq_left (by omega), Nat.add_sub_cancel, Nat.add_mul_div_right _ _ (Nat.two_pow_pos k), hl, Nat.div_div_eq_div_mul, ← Nat.pow_succ, show (k - 1).succ = k by omega]
  · rw [(sel k).2, wsum_append, pairs_take R _ (by omega)]
    have := take_least R h.srt (h.nonneg h0) X (2 * (X.length / 2)) hX (by omega)
    omega
theorem prs_mem {R : List Pk} {q : Pk × Pk} (h : q ∈ prs R) : q.1 ∈ R ∧ q.2 ∈ R := by
 obtain ⟨z, hu, _⟩ := prs_unp R
 exact ⟨by rw [← hu]; exact List.mem_append_left _ (by simp only [unp, List.mem_flatMap]; exact ⟨q, h, by simp⟩), by rw [← hu]; exact List.mem_append_left _ (by simp only [unp, List.mem_flatMap]; exact ⟨q, h, by simp⟩)⟩
theorem prs_srt : ∀ (R : List Pk), Srt R → (prs R).Pairwise (fun q p => q.2.1 ≤ p.1.1) ∧ ∀ q ∈ prs R, q.1.1 ≤ q.2.1
 | [], _ => ⟨List.Pairwise.nil, fun q h => by cases h⟩
 | [a], _ => ⟨List.Pairwise.nil, fun q h => by cases h⟩
 | a :: b :: l, h => by
  obtain ⟨h1, h2⟩ := List.pairwise_cons.1 h
  obtain ⟨h3, h4⟩ := List.pairwise_cons.1 h2
  obtain ⟨i1, i2⟩ := prs_srt l h4
  refine ⟨List.pairwise_cons.2 ⟨fun q hq => h3 _ (prs_mem hq).1, i1⟩, fun q hq => ?_⟩
  rcases List.mem_cons.1 hq with rfl | hq
  · exact h1 _ (by simp)
  · exact i2 q hq
def Low (C Z R : List Pk) : Prop := (C ++ Z).Perm R ∧ ∀ p ∈ C, ∀ q ∈ Z, p.1 ≤ q.1
theorem Low.take {R : List Pk} (h : Srt R) (m : Nat) : Low (R.take m) (R.drop m) R :=
 ⟨by rw [List.take_append_drop], fun p hp q hq => by
  have : (R.take m ++ R.drop m).Pairwise (fun a b => a.1 ≤ b.1) := by rw [List.take_append_drop]; exact h
  exact (List.pairwise_append.1 this).2.2 p hp q hq⟩
theorem prs_last : ∀ (R : List Pk), Srt R → ∀ z, unp (prs R) ++ z = R → ∀ y ∈ z, ∀ x ∈ unp (prs R), x.1 ≤ y.1 := fun R h z e y hy x hx => by
 have : (unp (prs R) ++ z).Pairwise (fun a b => a.1 ≤ b.1) := by rw [e]; exact h
 exact (List.pairwise_append.1 this).2.2 x hx y hy
theorem RowK.order {S R : List Pk} {k : Nat} {ss : List Int} (hS : Sing S ss) (w : Int → Int) (hw : ∀ x ∈ S, x.1 = isum w x.2) (h : RowK S k R) {a b : Int} (hb : b ∈ ss) (hab : w b < w a) :
 ∀ C Z, Low C Z R → lng C a ≤ lng C b := by
 have single : ∀ C Z, (C ++ Z).Perm S → (∀ p ∈ C, ∀ q ∈ Z, p.1 ≤ q.1) → (syl C).count a ≤ (syl C).count b := by
  intro C Z hp hl
  have hsp : (syl C ++ syl Z).Perm ss := by rw [← syl_append, ← hS.syls]; exact syl_perm hp
  have hn := hsp.nodup_iff.2 hS.nd
  have h1 : (syl C).count a ≤ 1 := List.nodup_iff_count.1 (List.nodup_append.1 hn).1 a
  by_cases ha : a ∈ syl C
  · have hbm := hsp.mem_iff.2 hb
    rcases List.mem_append.1 hbm with hbC | hbZ
    · have := List.count_pos_iff.2 hbC; omega
    · exfalso
      obtain ⟨x, hx, hax⟩ := List.mem_flatMap.1 ha
      obtain ⟨y, hy, hby⟩ := List.mem_flatMap.1 hbZ
      have hxS := hp.mem_iff.1 (List.mem_append_left _ hx)
      have hyS := hp.mem_iff.1 (List.mem_append_right _ hy)
      obtain ⟨s, _, es⟩ := hS.one x hxS
      obtain ⟨t, _, et⟩ := hS.one y hyS
      rw [es] at hax; rw [et] at hby
      simp at hax hby
      subst hax; subst hby
      have w1 := hw x hxS
      have w2 := hw y hyS
      rw [es] at w1; rw [et] at w2
      simp [isum] at w1 w2
      have := hl x hx y hy
      omega
  · rw [List.count_eq_zero.2 ha]; omega
 induction h with
 | one R p _ => exact fun C Z hL => single C Z (hL.1.trans p) hL.2
 | @more k R Q h p _ ih =>
  intro C Z hL
  obtain ⟨hp, hl⟩ := hL
  have hz := hp.trans p
  have hpos := h.pos hS
  have h1 : ∀ x ∈ pkgs R, decide (2 ≤ x.2.length) = true := fun x hx => by
   obtain ⟨q, hq, rfl⟩ := List.mem_map.1 hx
   have e1 := hpos q.1 (prs_mem hq).1
   have e2 := hpos q.2 (prs_mem hq).2
   simp only [pjoin, List.length_append, decide_eq_true_eq]; omega
  have h2 : ∀ x ∈ S, decide (2 ≤ x.2.length) = false := fun x hx => by obtain ⟨s, _, e⟩ := hS.one x hx; rw [e]; simp
  have f1 := hz.filter (fun x => decide (2 ≤ x.2.length))
  have f2 := hz.filter (fun x => !decide (2 ≤ x.2.length))
  rw [List.filter_append, List.filter_append, List.filter_eq_self.2 h1, (List.filter_eq_nil_iff (l := S)).2 (fun x hx => by rw [h2 x hx]; simp), List.append_nil] at f1
  rw [List.filter_append, List.filter_append, (List.filter_eq_nil_iff (l := pkgs R)).2 (fun x hx => by rw [h1 x hx]; simp), (List.filter_eq_self (l := S)).2 (fun x hx => by rw [h2 x hx]; rfl), List.nil_append] at f2
  have hC := (List.filter_append_perm (fun x : Pk => decide (2 ≤ x.2.length)) C).symm
  obtain ⟨M, hM, hm⟩ := perm_lift pjoin f1 (prs R) rfl
  obtain ⟨B, B', e, hb1, hb2⟩ := List.map_eq_append_iff.1 hm
  obtain ⟨z, hu, _⟩ := prs_unp R
  obtain ⟨s1, s2⟩ := prs_srt R h.srt
  have hpw : (B ++ B').Pairwise (fun q p => q.2.1 ≤ p.1.1 ∨ p.2.1 ≤ q.1.1) := by
   rw [← e]
   exact (List.Perm.pairwise_iff (R := fun (q p : Pk × Pk) => q.2.1 ≤ p.1.1 ∨ p.2.1 ≤ q.1.1) (fun hh => hh.symm) hM).2 (s1.imp Or.inl)
  have hcross := (List.pairwise_append.1 hpw).2.2
  have hmem : ∀ q, q ∈ B ++ B' → q ∈ prs R := fun q hq => hM.mem_iff.1 (e ▸ hq)
  have hlow : Low (unp B) (unp B' ++ z) R := by
   refine ⟨?_, ?_⟩
   · rw [← List.append_assoc]
     have h3 : (unp M).Perm (unp (prs R)) := hM.flatMap_right _
     have h4 : unp M = unp B ++ unp B' := by rw [e]; simp [unp]
     rw [← h4]
     conv => rhs; rw [← hu]
     exact h3.append_right z
   · intro y hy y' hy'
     simp only [unp, List.mem_flatMap] at hy
     obtain ⟨q, hq, hyq⟩ := hy
     have hqR := hmem q (List.mem_append_left _ hq)
     rcases List.mem_append.1 hy' with hy' | hy'
     · simp only [unp, List.mem_flatMap] at hy'
       obtain ⟨q', hq', hyq'⟩ := hy'
       have hqR' := hmem q' (List.mem_append_right _ hq')
       have c1 := s2 q hqR
       have c2 := s2 q' hqR'
       have c3 := hcross q hq q' hq'
       have c4 : (pjoin q).1 ≤ (pjoin q').1 := by
        refine hl _ ?_ _ ?_
        · exact (List.mem_filter.1 (hb1 ▸ List.mem_map.2 ⟨q, hq, rfl⟩)).1
        · exact (List.mem_filter.1 (hb2 ▸ List.mem_map.2 ⟨q', hq', rfl⟩)).1
       simp only [pjoin] at c4
       simp at hyq hyq'
       rcases hyq with rfl | rfl <;> rcases hyq' with rfl | rfl <;> rcases c3 with c3 | c3 <;> omega
     · exact prs_last R h.srt z hu y' hy' y (by simp only [unp, List.mem_flatMap]; exact ⟨q, hqR, hyq⟩)
  have i1 := ih _ _ hlow
  have e1 : ∀ s, lng C s = lng (unp B) s + (syl (C.filter fun x => !decide (2 ≤ x.2.length))).count s := fun s => by
   rw [lng_perm hC, lng_app]; simp only [lng]; rw [← hb1, syl_join]
  rw [e1, e1]
  have := single _ _ f2 fun p hp q hq => hl p (List.mem_filter.1 hp).1 q (List.mem_filter.1 hq).1
  omega
theorem nsum_const {α : Type} (l : List α) : nsum (fun _ => 1) l = l.length := by
 induction l with
 | nil => rfl
 | cons a l ih => rw [nsum_cons, ih, List.length_cons]; omega
theorem best_spec {S R : List Pk} {ss : List Int} (hS : Sing S ss) (w : Int → Int) (hw : ∀ x ∈ S, x.1 = isum w x.2) (h0 : ∀ s ∈ ss, 0 ≤ w s) (h1 : 1 ≤ ss.length) (h2 : ss.length < 32768) (hR : RowK S 16 R) :
 2 * ss.length - 2 ≤ R.length ∧
 (∀ s, lng (R.take (2 * ss.length - 2)) s ≤ 16) ∧ (∀ s, s ∉ ss → lng (R.take (2 * ss.length - 2)) s = 0) ∧
 nsum (fun s => 2 ^ (16 - lng (R.take (2 * ss.length - 2)) s)) ss ≤ 2 ^ 16 ∧
 (∀ len : Int → Nat, (∀ s ∈ ss, len s ≤ 16) → nsum (fun s => 2 ^ (16 - len s)) ss ≤ 2 ^ 16 → isum (fun s => w s * (lng (R.take (2 * ss.length - 2)) s : Nat)) ss ≤ isum (fun s => w s * (len s : Nat)) ss) ∧
 (∀ a b, b ∈ ss → w b < w a → lng (R.take (2 * ss.length - 2)) a ≤ lng (R.take (2 * ss.length - 2)) b) := by
 have hSl := hS.len
 have hlong := hR.long (by omega)
 have hd : S.length / 2 ^ (16 - 1) = 0 := Nat.div_eq_of_lt (by omega)
 rw [hd] at hlong
 have hlen : 2 * ss.length - 2 ≤ R.length := by omega
 obtain ⟨k1, k2, k3⟩ := hR.kraft hS _ (LiesIn.take R (2 * ss.length - 2))
 have h0S : ∀ x ∈ S, 0 ≤ x.1 := fun x hx => by
  obtain ⟨s, hs, e⟩ := hS.one x hx
  have := hw x hx; rw [e] at this; simp [isum] at this
  have := h0 s hs; omega
 refine ⟨hlen, k1, fun s hs => List.count_eq_zero.2 fun hm => hs (k3 s hm), ?_, ?_, fun a b hb hab => hR.order hS w hw hb hab _ _ (Low.take hR.srt _)⟩
 · rw [List.length_take, Nat.min_eq_left hlen] at k2
   have e : nsum (fun s => 2 ^ 16 - 2 ^ (16 - lng (R.take (2 * ss.length - 2)) s)) ss + nsum (fun s => 2 ^ (16 - lng (R.take (2 * ss.length - 2)) s)) ss = ss.length * 2 ^ 16 := by
    rw [← nsum_add, nsum_congr _ (fun _ => 1 * 2 ^ 16) ss fun s _ => ?_, nsum_mul, nsum_const]
    · have : 2 ^ (16 - lng (R.take (2 * ss.length - 2)) s) ≤ 2 ^ 16 := Nat.pow_le_pow_right (by omega) (by omega)
      omega
   omega
 · intro len hl hk
   obtain ⟨X, hX, hXl, hXw⟩ := hR.lower 16 (fun x => len (x.2.headD 0)) h0S
   have conv1 : nsum (fun x : Pk => fN 16 (len (x.2.headD 0)) 16) S = nsum (fun s => fN 16 (len s) 16) ss := by
    have : S.map (fun x : Pk => fN 16 (len (x.2.headD 0)) 16) = (S.map (·.2)).map fun l => fN 16 (len (l.headD 0)) 16 := by rw [List.map_map]; rfl
    simp only [nsum]; rw [this, hS.syms, List.map_map]; rfl
   have conv2 : isum (fun x : Pk => x.1 * (fC 16 (len (x.2.headD 0)) 16 : Nat)) S = isum (fun s => w s * (len s : Nat)) ss := by
    have e1 : S.map (fun x : Pk => x.1 * (fC 16 (len (x.2.headD 0)) 16 : Nat)) = (S.map (·.2)).map fun l => isum w l * (fC 16 (len (l.headD 0)) 16 : Nat) := by
     rw [List.map_map]; exact List.map_congr_left fun x hx => by simp only [Function.comp]; rw [hw x hx]
    simp only [isum] at e1 ⊢; rw [e1, hS.syms, List.map_map]
    have := isum_congr (fun s => (List.map w [s]).sum * (fC 16 (len s) 16 : Nat)) (fun s => w s * (len s : Nat)) ss fun s hs => by rw [fC_16 _ (hl s hs)]; simp
    simp only [isum] at this
    exact this
   rw [conv1] at hXl
   rw [conv2] at hXw
   have e : nsum (fun s => fN 16 (len s) 16) ss + nsum (fun s => 2 ^ (16 - len s)) ss = ss.length * 2 ^ 16 := by
    rw [← nsum_add, nsum_congr _ (fun _ => 1 * 2 ^ 16) ss fun s hs => by rw [fN_16 _ (hl s hs), Nat.one_mul], nsum_mul, nsum_const]
   have hm : 2 * ss.length - 2 ≤ X.length := by
    rw [hXl, Nat.le_div_iff_mul_le (Nat.two_pow_pos _)]
    rw [show (2 : Nat) ^ 16 = 65536 from rfl] at e hk
    rw [show (16 : Nat) - 1 = 15 from rfl, show (2 : Nat) ^ 15 = 32768 from rfl]
    generalize nsum (fun s => fN 16 (len s) 16) ss = A at e ⊢
    generalize nsum (fun s => 2 ^ (16 - len s)) ss = B at e hk
    clear hXl hXw hX conv1 conv2 hd hlong hlen k1 k2 k3 hl
    omega
   have := take_least R hR.srt (hR.nonneg h0S) X _ hX hm
   have wt : wsum (R.take (2 * ss.length - 2)) = isum (fun s => w s * (lng (R.take (2 * ss.length - 2)) s : Nat)) ss := by
    rw [wsum_syl w _ fun x hx => hR.weigh w hw x (List.mem_of_mem_take hx), isum_count w ss hS.nd _ k3]; rfl
   omega
theorem nsum_mem_le {α : Type} (f : α → Nat) {l : List α} {x : α} (h : x ∈ l) : f x ≤ nsum f l := by
 induction l with
 | nil => cases h
 | cons a l ih => rw [nsum_cons]; rcases List.mem_cons.1 h with rfl | h; omega; have := ih h; omega
theorem nsum_two {α : Type} (f : α → Nat) {l : List α} {x y : α} (hx : x ∈ l) (hy : y ∈ l) (hn : x ≠ y) : f x + f y ≤ nsum f l := by
 induction l with
 | nil => cases hx
 | cons a l ih =>
  rw [nsum_cons]
  rcases List.mem_cons.1 hx with e1 | hx <;> rcases List.mem_cons.1 hy with e2 | hy
  · exact absurd (e1.trans e2.symm) hn
  · have := nsum_mem_le f hy; rw [e1]; omega
  · have := nsum_mem_le f hx; rw [e2]; omega
  · have := ih hx hy; omega
theorem kraft_pos {ss : List Int} {f : Int → Nat} (hk : nsum (fun s => 2 ^ (16 - f s)) ss ≤ 2 ^ 16) {a b : Int} (ha : a ∈ ss) (hb : b ∈ ss) (hab : a ≠ b) : 1 ≤ f a := by
 have h1 : 2 ^ (16 - f a) + 2 ^ (16 - f b) ≤ nsum (fun s => 2 ^ (16 - f s)) ss := nsum_two (fun s => 2 ^ (16 - f s)) ha hb hab
 rcases Nat.lt_or_ge (f a) 1 with h | h
 · have : f a = 0 := by omega
   rw [this] at h1
   have : 1 ≤ 2 ^ (16 - f b) := Nat.one_le_two_pow
   omega
 · exact h

end Go.Proofs.YtehbjhocgnfpmaaDoor
/- The walk of best.Make: packages merged. -/
namespace Go.Proofs.YtehbjhocgnfpmaaDoor
set_option maxRecDepth 100000
open Go.RowKit
set_option linter.unusedVariables false
theorem bcheckC_any (w : World) (n : Int) : Calls Tryd.prog 63 #[.int .i64 n] w fun e w' => e = .returned (.bool (decide (n < 0) || decide (9999 < n))) ∧ w = w' := by
 by_cases h : n < 0
 · have h2 : decide (n < 0) = true := by simpa using h
   rw [h2]
   go_enter Tryd.func63, Tryd.ntmps63
   go_wp2_with fail
   go_ret
   exact ⟨rfl, rfl⟩
 · have h2 : decide (n < 0) = false := by simpa using h
   rw [h2, Bool.false_or]
   have h3 : 0 ≤ n := by omega
   clear h
   go_enter Tryd.func63, Tryd.ntmps63
   go_wp2_with fail
   go_ret
   exact ⟨rfl, rfl⟩
def bE (c : List Int) : Int := if 256 < c.length then 2 else if allIn c 0 9999 then 0 else 1
theorem bcheck_any (w0 : World) (c : List Int) (ad : Option Addr) (n cap : Nat) (hv : Sl w0 1 (.slice ad n cap) n (c.map (Value.int .i64))) (hn : n ≤ 9223372036854775807) :
 Calls Tryd.prog 45 #[.slice ad n cap] w0 fun e w => e = .returned (.int .i64 (bE c)) ∧ Ext w0 w := by
 have hl : c.length = n := by have := hv.1; simpa using this
 have hS := St.start w0
 have HC := hid (fun (w : World) (hE : Ext w0 w) => containsFunc_any w (.slice ad n cap) c (by unfold ISl; rw [hl]; exact hv.ext hE) 63 #[] (fun n => decide (n < 0) || decide (9999 < n)) Tryd.call63 (fun m => bcheckC_any w m))
 obtain ⟨B, hB⟩ : ∃ B, c.any (fun n => decide (n < 0) || decide (9999 < n)) = B := ⟨_, rfl⟩
 have hE : bE c = if 256 < n then 2 else if B then 1 else 0 := by
  unfold bE allIn; rw [hl, hB]
  cases B <;> rfl
 rw [hB] at HC
 rw [hE]
 clear hE hB hv
 by_cases h256 : 256 < n
 · rw [if_pos h256]
   go_enter Tryd.func45, Tryd.ntmps45
   repeat' (first
    | ((first | (with_reducible apply mv9) | (with_reducible apply as9)); (first | go_big_want | go_step); go_step) | ((with_reducible apply gs9 5); (refine wvv9 (V.len Tryd.underlying24 rfl) ?_; go_step)) | ((with_reducible apply gs9 6); (refine wvv9 (V.gtr rfl rfl) ?_; go_step)) | ((fail_if_success with_reducible apply ga9); go_step))
   go_ret
   exact ⟨rfl, hS.1⟩
 · rw [if_neg h256]
   cases B with
   | true =>
    rw [if_pos rfl]
    go_enter Tryd.func45, Tryd.ntmps45
    repeat' (first
     | ((first | (with_reducible apply mv9) | (with_reducible apply as9)); (first | go_big_want | go_step); go_step) | ((with_reducible apply gs9 5); (refine wvv9 (V.len Tryd.underlying24 rfl) ?_; go_step)) | ((with_reducible apply gs9 6); (refine wvv9 (V.gtr rfl rfl) ?_; go_step)) | ((fail_if_success with_reducible apply ga9); go_step))
    repeat' (first
     | ((with_reducible apply gt9 _ (.call ⟨.value (.func 62), _, _⟩)); refine wpl_call (f := 62) Tryd.call62 kr9 ?_; refine ⟨_, (HC.out _ hS.1), ?_⟩; rintro e w ⟨rfl, rfl⟩; refine ⟨_, rfl, ?_⟩; refine put_move ?_; go_step) | ((with_reducible apply as9); (first | go_big_want | go_step); go_step) | ((fail_if_success with_reducible apply ga9); go_step))
    all_goals go_ret
    all_goals exact ⟨rfl, hS.1⟩
   | false =>
    rw [if_neg (by decide)]
    go_enter Tryd.func45, Tryd.ntmps45
    repeat' (first
     | ((first | (with_reducible apply mv9) | (with_reducible apply as9)); (first | go_big_want | go_step); go_step) | ((with_reducible apply gs9 5); (refine wvv9 (V.len Tryd.underlying24 rfl) ?_; go_step)) | ((with_reducible apply gs9 6); (refine wvv9 (V.gtr rfl rfl) ?_; go_step)) | ((fail_if_success with_reducible apply ga9); go_step))
    repeat' (first
     | ((with_reducible apply gt9 _ (.call ⟨.value (.func 62), _, _⟩)); refine wpl_call (f := 62) Tryd.call62 kr9 ?_; refine ⟨_, (HC.out _ hS.1), ?_⟩; rintro e w ⟨rfl, rfl⟩; refine ⟨_, rfl, ?_⟩; refine put_move ?_; go_step) | ((with_reducible apply as9); (first | go_big_want | go_step); go_step) | ((fail_if_success with_reducible apply ga9); go_step))
    all_goals go_ret
    all_goals exact ⟨rfl, hS.1⟩
structure GP where
 w : Int
 r : Sr
def gpV (p : GP) : PkV := ⟨p.w, p.r.ad, p.r.xs.length, p.r.c⟩
def gpM (p : GP) : Pk := (p.w, p.r.xs)
theorem gp_snoc (G : List GP) (p : GP) : ((G ++ [p]).map gpV).flatMap pkE = (G.map gpV).flatMap pkE ++ [.int .i64 p.w, .slice p.r.ad p.r.xs.length p.r.c] := by
 rw [List.map_append, List.flatMap_append]; rfl
theorem gp_app (G H : List GP) : ((G ++ H).map gpV).flatMap pkE = (G.map gpV).flatMap pkE ++ (H.map gpV).flatMap pkE := by
 rw [List.map_append, List.flatMap_append]
def sgs (c : List Int) (k : Nat) : List Pk := (0, [-1]) :: ((List.range k).filter fun s => decide (0 < nth c s)).map fun s => (nth c s, [(s : Int)])
theorem sgs_succ (c : List Int) (k : Nat) : sgs c (k + 1) = if 0 < nth c k then sgs c k ++ [(nth c k, [(k : Int)])] else sgs c k := by
 unfold sgs
 rw [List.range_succ, List.filter_append]
 by_cases h : 0 < nth c k
 · rw [if_pos h, List.filter_cons_of_pos (by simpa using h)]; simp
 · rw [if_neg h, List.filter_cons_of_neg (by simpa using h)]; simp
theorem sgs_len (c : List Int) (k : Nat) : (sgs c k).length ≤ k + 1 := by
 unfold sgs
 have := List.length_filter_le (fun s => decide (0 < nth c s)) (List.range k)
 simp at this ⊢
 exact this
theorem RowK.syll {S R : List Pk} {k : Nat} (h : RowK S k R) : (syl R).length ≤ k * (syl S).length := by
 induction h with
 | one R p _ => have := (syl_perm p).length_eq; omega
 | @more k R Q h p _ ih =>
  have h1 := (syl_perm p).length_eq
  rw [syl_append, List.length_append] at h1
  obtain ⟨z, hu, _⟩ := prs_unp R
  have h2 : syl (pkgs R) = syl (unp (prs R)) := syl_join (prs R)
  have h3 := congrArg (fun l => (syl l).length) hu
  simp only [syl_append, List.length_append] at h3
  rw [h2] at h1
  rw [Nat.add_mul, Nat.one_mul]
  omega
theorem syl_mem {R : List Pk} {x : Pk} (h : x ∈ R) : x.2.length ≤ (syl R).length := by
 induction R with
 | nil => cases h
 | cons a R ih =>
  rw [syl_cons, List.length_append]
  rcases List.mem_cons.1 h with rfl | h
  · omega
  · have := ih h; omega
theorem pkgs_take (R : List Pk) (q : Nat) (h : 2 * q + 1 < R.length) : (pkgs R).take (q + 1) = (pkgs R).take q ++ [pjoin (elt R (2 * q), elt R (2 * q + 1))] := by
 induction q generalizing R with
 | zero =>
  match R, h with
  | a :: b :: l, _ => simp [pkgs, prs, elt]
 | succ q ih =>
  match R, h with
  | a :: b :: l, h =>
   have e := ih l (by simp at h; omega)
   have e1 : pkgs (a :: b :: l) = pjoin (a, b) :: pkgs l := by simp [pkgs, prs]
   rw [e1, List.take_succ_cons, e, List.take_succ_cons, List.cons_append]
   congr 3
theorem elt_get {α : Type} [Inhabited α] (l : List α) (i : Nat) (h : i < l.length) : l[i] = elt l i := by simp [elt, h]
theorem gp_at (G : List GP) (k : Nat) (h : k < G.length) : ∃ p, p ∈ G ∧ elt (G.map gpV) k = gpV p ∧ elt (G.map gpM) k = gpM p := by
 refine ⟨G[k], List.getElem_mem h, ?_, ?_⟩
 · simp [elt, h]
 · simp [elt, h]
theorem RowK.wbd {S R : List Pk} {k : Nat} (h0 : ∀ x ∈ S, 0 ≤ x.1 ∧ x.1 ≤ 9999 * x.2.length) (h : RowK S k R) : ∀ x ∈ R, 0 ≤ x.1 ∧ x.1 ≤ 9999 * x.2.length := by
 induction h with
 | one R p _ => exact fun x hx => h0 x (p.mem_iff.1 hx)
 | @more k R Q h p _ ih =>
  intro x hx
  rcases List.mem_append.1 (p.mem_iff.1 hx) with hx | hx
  · obtain ⟨q, hq, rfl⟩ := List.mem_map.1 hx
    have h1 := ih q.1 (prs_mem hq).1
    have h2 := ih q.2 (prs_mem hq).2
    simp only [pjoin, List.length_append]
    push_cast
    omega
  · exact h0 x hx
theorem sgs_bd (c : List Int) (n k : Nat) (h : ∀ i, i < n → 0 ≤ nth c i ∧ nth c i ≤ 9999) (hk : k ≤ n) : ∀ x ∈ sgs c k, 0 ≤ x.1 ∧ x.1 ≤ 9999 * x.2.length := by
 intro x hx
 rcases List.mem_cons.1 hx with rfl | hx
 · simp
 · obtain ⟨s, hs, rfl⟩ := List.mem_map.1 hx
   have h1 := (List.mem_filter.1 hs).1
   have := h s (by simp at h1; omega)
   simp; omega
theorem sgs_syl (c : List Int) (k : Nat) : (syl (sgs c k)).length = (sgs c k).length := by
 have : ∀ l : List Nat, (syl (l.map fun s => (nth c s, [(s : Int)]))).length = l.length := fun l => by
  induction l with
  | nil => rfl
  | cons a l ih => rw [List.map_cons, syl_cons, List.length_append, ih]; simp; omega
 unfold sgs
 rw [syl_cons, List.length_append, this]
 simp; omega
theorem row_bd {c : List Int} {n j : Nat} {R : List Pk} (h : ∀ i, i < n → 0 ≤ nth c i ∧ nth c i ≤ 9999) (hn : n ≤ 256) (hj : j ≤ 16) (hR : RowK (sgs c n) j R) : ∀ x ∈ R, 0 ≤ x.1 ∧ x.1 ≤ 50000000 ∧ x.2.length ≤ 5000 := by
 intro x hx
 have h1 := hR.wbd (sgs_bd c n n h (Nat.le_refl _)) x hx
 have h2 := hR.syll
 have h3 := syl_mem hx
 have h4 := sgs_len c n
 rw [sgs_syl] at h2
 have h5 : j * (sgs c n).length ≤ 16 * 257 := Nat.mul_le_mul hj (by omega)
 omega
def cntF (l : List Int) (s : Int) : Option Value := if l.count s = 0 then none else some (.int .i64 (l.count s : Nat))
theorem cntF_snoc (l : List Int) (s : Int) : (fun j => if j = s then some (Value.int .i64 ((l.count s + 1 : Nat) : Int)) else cntF l j) = cntF (l ++ [s]) := by
 funext j
 unfold cntF
 rw [List.count_append]
 by_cases h : j = s
 · subst h; simp
 · have : List.count j [s] = 0 := by rw [List.count_eq_zero]; simp [h]
   rw [if_neg h, this, Nat.add_zero]
theorem cntF_nil : cntF [] = fun _ => none := by funext j; simp [cntF]
def symsK (f : Int → Nat) (n k : Nat) : List Int := ((List.range n).filter fun (s : Nat) => decide (f (s : Int) = k)).map fun (s : Nat) => (s : Int)
theorem symsK_succ (f : Int → Nat) (n k : Nat) : symsK f (n + 1) k = if f (n : Int) = k then symsK f n k ++ [(n : Int)] else symsK f n k := by
 unfold symsK
 rw [List.range_succ, List.filter_append]
 by_cases h : f (n : Int) = k
 · rw [if_pos h, List.filter_cons_of_pos (by simpa using h)]; simp
 · rw [if_neg h, List.filter_cons_of_neg (by simpa using h)]; simp
def symsTo (f : Int → Nat) (n k : Nat) : List Int := (List.range k).flatMap fun i => symsK f n (i + 1)
theorem symsTo_succ (f : Int → Nat) (n k : Nat) : symsTo f n (k + 1) = symsTo f n k ++ symsK f n (k + 1) := by
 unfold symsTo; rw [List.range_succ, List.flatMap_append]; simp
theorem symsK_len (f : Int → Nat) (n k : Nat) : (symsK f n k).length ≤ n := by
 have := List.length_filter_le (fun s : Nat => decide (f (s : Int) = k)) (List.range n)
 simp [symsK] at this ⊢; exact this
theorem symsTo_len (f : Int → Nat) (n k : Nat) : (symsTo f n k).length ≤ k * n := by
 induction k with
 | zero => simp [symsTo]
 | succ k ih => rw [symsTo_succ, List.length_append, Nat.add_mul, Nat.one_mul]; have := symsK_len f n (k + 1); omega
def cntTo (f : Int → Nat) (n k s i : Nat) : Int := if i < k then ((symsK f n (i + 1)).length : Nat) else if i = k then ((symsK f s (i + 1)).length : Nat) else 0

end Go.Proofs.YtehbjhocgnfpmaaDoor