/- Files, in plain lists: what is packed is read back. -/
import Derived.Test.YthkdckmhmiebfaaParse
namespace Go.Proofs.Ythkdckmhmiebfaa
open Go.ChangeShapes Go.WideShapes Go.ChangeAt Go.RowKit Go.Deep
set_option linter.unusedVariables false
theorem nth_l (a b : List Int) (i : Nat) (h : i < a.length) : nth (a ++ b) i = nth a i := by
  simp only [nth, List.getD_eq_getElem?_getD, List.getElem?_append_left h]
theorem nth_r (a b : List Int) (i j : Nat) (h : i = a.length + j) : nth (a ++ b) i = nth b j := by
  subst h
  simp only [nth, List.getD_eq_getElem?_getD]
  rw [List.getElem?_append_right (by omega), Nat.add_sub_cancel_left]
theorem cb_nth (C : List Int) : ∀ (K k : Nat), k < K → nth (cb C K) (2 * k) = nth C k / 256 ∧ nth (cb C K) (2 * k + 1) = nth C k % 256
  | 0, k, h => by omega
  | K + 1, k, h => by
    have hl := cbl C K
    by_cases hk : k < K
    · rw [cb, nth_l _ _ _ (by omega), nth_l _ _ _ (by omega)]
      exact cb_nth C K k hk
    · obtain rfl : k = K := by omega
      rw [cb, nth_r _ _ _ 0 (by omega), nth_r _ _ _ 1 (by omega)]
      exact ⟨rfl, rfl⟩
theorem rC_of (P C R : List Int) (p k : Nat) (hp : P.length = p) (hk : k < 16) : rC (P ++ (cb C 16 ++ R)) p k = nth C k := by
  have hl := cbl C 16
  obtain ⟨h1, h2⟩ := cb_nth C 16 k hk
  unfold rC
  rw [nth_r P _ _ (2 * k) (by omega), nth_r P _ _ (2 * k + 1) (by omega), nth_l _ _ _ (by omega), nth_l _ _ _ (by omega), h1, h2]
  omega
theorem rCl_of (P C R : List Int) (p : Nat) (hp : P.length = p) (hC : C.length = 16) : rCl (P ++ (cb C 16 ++ R)) p 16 = C := by
  have hl : (rCl (P ++ (cb C 16 ++ R)) p 16).length = 16 := by simp [rCl]
  refine list_ext (by rw [hl, hC]) fun i hi => ?_
  rw [hl] at hi
  rw [← rC_of P C R p i hp hi]
  simp [rCl, nth, List.getD, hi]
theorem rA_of (P C R : List Int) (p : Nat) (hp : P.length = p) (h0 : ∀ k, k < 16 → 0 ≤ nth C k) : ∀ k, k ≤ 16 → rA (P ++ (cb C 16 ++ R)) p k = ((sm (cc C) k : Nat) : Int)
  | 0, _ => rfl
  | k + 1, hk => by
    have h1 := cc_int C k (h0 k (by omega))
    have h2 : sm (cc C) (k + 1) = sm (cc C) k + cc C k := rfl
    rw [rA, rA_of P C R p hp h0 k (by omega), rC_of P C R p k hp (by omega), h2]
    omega
theorem rS_of (P S R : List Int) (p n : Nat) (hp : P.length = p) (hn : S.length = n) : rS (P ++ (S ++ R)) p n = S := by
  have hl : (rS (P ++ (S ++ R)) p n).length = n := by simp [rS]
  refine list_ext (by rw [hl, hn]) fun i hi => ?_
  rw [hl] at hi
  have e : nth (rS (P ++ (S ++ R)) p n) i = nth (P ++ (S ++ R)) (p + i) := by simp [rS, nth, List.getD, hi]
  rw [e, nth_r P _ _ i (by omega), nth_l _ _ _ (by omega)]
/-- The bytes of a file with tables that may be: where its counts tell its parts' places. -/
theorem pn1_of (P C S R : List Int) (hP : P.length = 70) (h : tabE C S = 0) : pn1 (P ++ (cb C 16 ++ R)) = S.length := by
  have k := tabE_ok h
  rw [pn1, rA_of P C R 70 hP (fun i hi => (k.1 i hi).1) 16 (Nat.le_refl _), k.2.1]
  rfl
theorem pn2_of (l P C S R : List Int) (hl : l = P ++ (cb C 16 ++ R)) (hP : P.length = 102 + pn1 l) (h : tabE C S = 0) : pn2 l = S.length := by
  have k := tabE_ok h
  rw [pn2, ← hP]
  conv => lhs; rw [hl]
  rw [rA_of P C R P.length rfl (fun i hi => (k.1 i hi).1) 16 (Nat.le_refl _), k.2.1]
  rfl
def pre1 (f : FileV) : List Int := headI f ++ zto f.quant
theorem pre1_len (f : FileV) : (pre1 f).length = 70 := by simp [pre1, headI, zto_len]
theorem packI_split (f : FileV) : packI f = pre1 f ++ (cb f.c1 16 ++ (f.s1 ++ (cb f.c2 16 ++ (f.s2 ++ dataI f)))) := by
  simp [packI, pre1, tbs, tabI, List.append_assoc]
theorem packI_split2 (f : FileV) : packI f = (pre1 f ++ (cb f.c1 16 ++ f.s1)) ++ (cb f.c2 16 ++ (f.s2 ++ dataI f)) := by
  rw [packI_split]; simp [List.append_assoc]
theorem pre2_len (f : FileV) : (pre1 f ++ (cb f.c1 16 ++ f.s1)).length = 102 + f.s1.length := by
  simp only [List.length_append, pre1_len, cbl]; omega
theorem data_back (D : List Nat) : (D.map fun (x : Nat) => (x : Int)).map Int.toNat = D := by
  rw [List.map_map]
  conv => rhs; rw [← List.map_id D]
  exact List.map_congr_left fun x _ => by simp
/-- What is packed is read back. -/
theorem back_file {f : FileV} (h : fileE f = 0) (hQ : f.quant.length = 64) (h1 : f.c1.length = 16) (h2 : f.c2.length = 16) : parseE (packI f) = 0 ∧ parseF (packI f) = f ∧ pn1 (packI f) = f.s1.length ∧ pn2 (packI f) = f.s2.length ∧ pq2 (packI f) = 134 + f.s1.length + f.s2.length := by
  obtain ⟨hdm, hqk, ht1, ht2, hdl⟩ := fileE_ok h
  have e1 : pn1 (packI f) = f.s1.length := by rw [packI_split]; exact pn1_of _ _ _ _ (pre1_len f) ht1
  have e2 : pn2 (packI f) = f.s2.length := pn2_of _ _ _ _ _ (packI_split2 f) (by rw [pre2_len, e1]) ht2
  have e3 : pq2 (packI f) = 134 + f.s1.length + f.s2.length := by rw [pq2, e1, e2]; omega
  have hlen := pk_len f
  have c1 := (tabE_ok ht1).2.2.1
  have c2 := (tabE_ok ht2).2.2.1
  have hF : parseF (packI f) = f := by
    unfold parseF
    rw [e1, e2, e3]
    have q1 : rQ (packI f) 64 = zto f.quant := by
      show rS (packI f) 6 64 = _
      rw [packI_split, pre1, List.append_assoc]
      exact rS_of (headI f) (zto f.quant) _ 6 64 rfl (zto_len _)
    have q2 : rCl (packI f) 70 16 = f.c1 := by rw [packI_split]; exact rCl_of _ _ _ _ (pre1_len f) h1
    have q3 : rS (packI f) 102 f.s1.length = f.s1 := by
      rw [packI_split, show pre1 f ++ (cb f.c1 16 ++ (f.s1 ++ (cb f.c2 16 ++ (f.s2 ++ dataI f)))) = (pre1 f ++ cb f.c1 16) ++ (f.s1 ++ (cb f.c2 16 ++ (f.s2 ++ dataI f))) by simp [List.append_assoc]]
      exact rS_of _ _ _ _ _ (by simp only [List.length_append, pre1_len, cbl]) rfl
    have q4 : rCl (packI f) (102 + f.s1.length) 16 = f.c2 := by rw [packI_split2]; exact rCl_of _ _ _ _ (pre2_len f) h2
    have q5 : rS (packI f) (102 + f.s1.length + 32) f.s2.length = f.s2 := by
      rw [packI_split2, show (pre1 f ++ (cb f.c1 16 ++ f.s1)) ++ (cb f.c2 16 ++ (f.s2 ++ dataI f)) = ((pre1 f ++ (cb f.c1 16 ++ f.s1)) ++ cb f.c2 16) ++ (f.s2 ++ dataI f) by simp [List.append_assoc]]
      exact rS_of _ _ _ _ _ (by rw [List.length_append, pre2_len, cbl]) rfl
    have q6 : (packI f).drop (134 + f.s1.length + f.s2.length) = dataI f := by
      rw [packI_split2, show (pre1 f ++ (cb f.c1 16 ++ f.s1)) ++ (cb f.c2 16 ++ (f.s2 ++ dataI f)) = (((pre1 f ++ (cb f.c1 16 ++ f.s1)) ++ cb f.c2 16) ++ f.s2) ++ dataI f by simp [List.append_assoc]]
      exact List.drop_left' (by rw [List.length_append, List.length_append, pre2_len, cbl]; omega)
    rw [q1, q2, q3, q4, q5, q6, dataI, data_back, zfrom_zto _ hQ]
    rfl
  refine ⟨?_, hF, e1, e2, e3⟩
  rw [parseE, if_neg (by omega), if_neg (by omega), hF, if_pos ⟨h, rfl⟩]
/-- Bytes that end ahead of the data are short. -/
theorem cut_short {f : FileV} (h : fileE f = 0) (n : Nat) (hn : n < 134 + f.s1.length + f.s2.length) : parseE ((packI f).take n) = 3 := by
  obtain ⟨hdm, hqk, ht1, ht2, hdl⟩ := fileE_ok h
  have c1 := (tabE_ok ht1).2.2.1
  have c2 := (tabE_ok ht2).2.2.1
  have hlen := pk_len f
  have hl : ((packI f).take n).length = n := by rw [List.length_take]; omega
  have key : n < pq2 ((packI f).take n) := by
    have e : pq2 ((packI f).take n) = 102 + pn1 ((packI f).take n) + 32 + pn2 ((packI f).take n) := rfl
    by_cases a1 : n < 134
    · omega
    · have s1 : (packI f).take n = pre1 f ++ (cb f.c1 16 ++ (f.s1 ++ (cb f.c2 16 ++ (f.s2 ++ dataI f))).take (n - 102)) := by
        rw [packI_split, List.take_append, List.take_of_length_le (by rw [pre1_len]; omega), pre1_len, List.take_append, List.take_of_length_le (by rw [cbl]; omega), cbl, show n - 70 - 2 * 16 = n - 102 by omega]
      have p1 : pn1 ((packI f).take n) = f.s1.length := by rw [s1]; exact pn1_of _ _ _ _ (pre1_len f) ht1
      by_cases a2 : n < 134 + f.s1.length
      · omega
      · have s2 : (packI f).take n = (pre1 f ++ (cb f.c1 16 ++ f.s1)) ++ (cb f.c2 16 ++ (f.s2 ++ dataI f).take (n - (134 + f.s1.length))) := by
          rw [packI_split2, List.take_append, List.take_of_length_le (by rw [pre2_len]; omega), pre2_len, List.take_append, List.take_of_length_le (by rw [cbl]; omega), cbl, show n - (102 + f.s1.length) - 2 * 16 = n - (134 + f.s1.length) by omega]
        have p2 : pn2 ((packI f).take n) = f.s2.length := pn2_of _ _ _ _ _ s2 (by rw [pre2_len, p1]) ht2
        omega
  rw [parseE, hl, if_neg (by omega), if_pos key]
/-- Bytes that end within the data are a file with less of it. -/
theorem cut_data {f : FileV} (h : fileE f = 0) (n : Nat) (hn : 134 + f.s1.length + f.s2.length ≤ n) : (packI f).take n = packI { f with data := f.data.take (n - (134 + f.s1.length + f.s2.length)) } ∧ fileE { f with data := f.data.take (n - (134 + f.s1.length + f.s2.length)) } = 0 := by
  obtain ⟨hdm, hqk, ht1, ht2, hdl⟩ := fileE_ok h
  constructor
  · have e : packI f = (pre1 f ++ (cb f.c1 16 ++ (f.s1 ++ (cb f.c2 16 ++ f.s2)))) ++ dataI f := by rw [packI_split]; simp [List.append_assoc]
    have hl : (pre1 f ++ (cb f.c1 16 ++ (f.s1 ++ (cb f.c2 16 ++ f.s2)))).length = 134 + f.s1.length + f.s2.length := by
      simp only [List.length_append, pre1_len, cbl]; omega
    rw [e, List.take_append, List.take_of_length_le (by omega), hl, packI_split]
    simp only [pre1, headI, dataI, List.append_assoc, List.map_take]
  · unfold fileE
    have hdm2 : dimsOk { f with data := f.data.take (n - (134 + f.s1.length + f.s2.length)) } := hdm
    rw [if_pos hdm2, if_pos hqk, if_pos ht1, if_pos ht2, if_pos]
    simp only [List.length_take]; omega
end Go.Proofs.Ythkdckmhmiebfaa
