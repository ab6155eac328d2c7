/- copy into a row that the call owns. -/
import Derived.Test.YthmkhpijdpbfbaaDoorRet
import Derived.Laws.CopyRow
import Derived.Laws.IdiomCopy
namespace Go.Proofs.YthmkhpijdpbfbaaDoor
open Go.RowKit
set_option linter.unusedVariables false
section
variable {P : Program} {W w : World} {rs rs' : List Res} {Q : Exit → Act → World → Prop} {K : Act → World → Prop} {o : Oper} {a : Act}
theorem wp_copyO (hS : St W w rs) (d x : Operand) (tT : TypeId) (ho : o.op = .call { callee := .builtin .copy, args := #[d, x], argTypes := #[tT, tT] }) (e b : TypeId) (el : ElemT P tT e 1 b) (g q n c : Nat) (cs : List Value) (hd : a.eval d = .slice (cutAt (some ⟨g, 0, none⟩) c q 1) (n - q) (c - q)) (hp : Pull (own e 1 (some ⟨g, 0, none⟩) n c cs) rs rs')
    (v : Value) (hx : a.eval x = v) (m : Nat) (news : List Value) (hm : Sl w 1 v m news) (hq : q + m ≤ n) (h1 : ∀ u ∈ news, u.oneCell' = true)
    (h : ∀ w', St W w' (own e 1 (some ⟨g, 0, none⟩) n c (cs.take q ++ news ++ cs.drop (q + m)) :: rs') → K (a.put o.dst (.int .i64 m)) w') : o.wp P a w K Q := by
  obtain ⟨ht, ⟨i, z, hi, hz, hsz, hby, hzs⟩, hpos⟩ := el
  have hs1 : (P.info? e).map (·.size) = some 1 := by rw [hi]; simp [hsz]
  have hown := hS.own hp
  obtain ⟨hl, aa, cc, rfl, hmc, hcm, hor⟩ := hm
  have hlm : news.length = m := by simpa using hl
  by_cases hm0 : m = 0
  · subst hm0
    have hnil : news = [] := List.eq_nil_of_length_eq_zero hlm
    subst hnil
    have hr := run_copy_none (P := P) w tT tT o.type e (cutAt (some ⟨g, 0, none⟩) c q 1) aa (n - q) (c - q) 0 cc ht hs1 (Nat.zero_min _)
    have hk := h w (by
      have e1 : cs.take q ++ [] ++ cs.drop (q + 0) = cs := by simp
      rw [e1]; exact hS.pull hp)
    unfold Oper.wp execOp
    simp only [ho, resolve, invoke, builtin, Sem.run_bind, Sem.run_pure, Result.andThen_ok, List.map_toArray, List.map_cons, List.map_nil, hd, hx, hr]
    exact hk
  · rcases hor with h0 | ⟨bb, off, rfl, hcells⟩
    · exact absurd h0 hm0
    · rcases hown.2 with ⟨h2, _⟩ | ⟨g', cap, cur, h2, _, hg, hnc, hcm2, hcs, htake⟩
      · cases h2
      · cases h2
        have hcq : ¬ (c = q) := by omega
        have hd2 : a.eval d = .slice (some ⟨g, q, none⟩) (n - q) (c - q) := by
          rw [hd, cutAt, if_neg hcq]
          simp only [Option.map_some, Addr.add_mid, Nat.zero_add, Nat.mul_one]
        have hsrc : ∀ j u, news[j]? = some u → w.cell? ((⟨bb, off, none⟩ : Addr).add j) = some u := fun j u hu => by
          have hj : j < m * 1 := by rw [← hl]; exact (List.getElem?_eq_some_iff.1 hu).1
          rw [Addr.add_mid, hcells j hj, hu]
        have hr := run_copy_row (P := P) w tT tT o.type e g q (n - q) (c - q) ⟨bb, off, none⟩ m cc cur e news ht hs1 hg (by rw [hlm]; exact (Nat.min_eq_left (by omega)).symm) hsrc (by rw [hlm, hcs]; omega) h1
        have hxl : cs.length = n := by have := hown.1; simpa using this
        have htl : cur.toList.take n = cs := by have := htake; rwa [Nat.mul_one] at this
        have hcl : cur.toList.length = c := by rw [Array.length_toList, hcs, Nat.mul_one]
        have hnew : (cur.toList.take q ++ news ++ cur.toList.drop (q + m)).take n = cs.take q ++ news ++ cs.drop (q + m) := by
          have a1 : cur.toList.take q = cs.take q := by rw [← htl, List.take_take, Nat.min_eq_left (by omega)]
          have a2 : (cur.toList.drop (q + m)).take (n - (q + m)) = cs.drop (q + m) := by rw [← htl, List.drop_take]
          have a3 : (cur.toList.take q ++ news).length = q + m := by rw [List.length_append, hlm, List.length_take, hcl]; omega
          rw [List.take_append, List.take_of_length_le (by omega), a3, a2, a1]
        have hst : St W (w.setRow g (cur.toList.take q ++ news ++ cur.toList.drop (q + news.length)).toArray) ([own e 1 (some ⟨g, 0, none⟩) n c (cs.take q ++ news ++ cs.drop (q + m))] ++ rs') := by
          refine St.change (hS.pull hp) fun f1 k1 hf1 hn1 => ?_
          obtain ⟨rfl, k1⟩ := k1
          refine ⟨[g], ⟨[g], [], by simp, ⟨rfl, ?_, .inr ⟨g, c, _, rfl, Nat.zero_le _, setRow_heap w g cur _ e _ hg, hnc, hcm2, ?_, ?_⟩⟩, rfl⟩, by simp, fun b hb => .inl hb, Only.setRow w g _⟩
          · simp only [List.length_append, List.length_take, List.length_drop, hlm, hxl]; omega
          · simp only [List.size_toArray, List.length_append, List.length_take, List.length_drop, hlm, hcl]; omega
          · rw [hlm, Nat.mul_one]; simpa using hnew
        have hk := h _ hst
        unfold Oper.wp execOp
        simp only [ho, resolve, invoke, builtin, Sem.run_bind, Sem.run_pure, Result.andThen_ok, List.map_toArray, List.map_cons, List.map_nil, hd2, hx, hr, hlm]
        rw [hlm] at hk
        exact hk
end
end Go.Proofs.YthmkhpijdpbfbaaDoor
