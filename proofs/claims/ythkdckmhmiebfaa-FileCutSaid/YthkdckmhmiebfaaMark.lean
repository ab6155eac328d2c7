/- []byte of a constant string: a row with the run-time's mark, read and appended to. -/
import Derived.Test.YthkdckmhmiebfaaOp
import Derived.Test.YthkdckmhmiebfaaPure
import Derived.Laws.IdiomStrings
namespace Go.Proofs.Ythkdckmhmiebfaa
open Go.RowKit
set_option linter.unusedVariables false
/-- Block g holds these cells, with whatever mark. -/
def mrk (g : Nat) (cs : List Value) : Res where
  holds w f := f = [g] ∧ ∃ t m, w.heap[g]? = some (.cells cs.toArray t m)
  lt := fun ⟨e, t, m, h⟩ b hb => by
    rw [e, List.mem_singleton] at hb
    rw [hb]
    exact (Array.getElem?_eq_some_iff.1 h).1
  loc := fun ⟨e, t, m, h⟩ hs => ⟨e, t, m, by rw [hs _ (by rw [e]; simp)]; exact h⟩
section
variable {P : Program} {W w : World} {rs rs' : List Res} {Q : Exit → Act → World → Prop} {K : Act → World → Prop} {o : Oper} {a : Act}
theorem freeze_at (w : World) (g k : Nat) (C : Array Value) (t : TypeId) (h : w.heap[g]? = some (.cells C t (0, 0))) : (w.freeze ⟨g, k, none⟩ 1).heap[g]? = some (.cells C t (k, k + 1)) := by
  unfold World.freeze
  rw [if_neg (by decide)]
  simp only [Array.getElem?_modify, if_true, h, Option.map_some]
  simp
theorem freeze_only (w : World) (g k : Nat) : Only [g] w (w.freeze ⟨g, k, none⟩ 1) := by
  unfold World.freeze
  rw [if_neg (by decide)]
  refine ⟨rfl, rfl, rfl, by simp, fun j hj hm => ?_⟩
  simp only [List.mem_singleton] at hm
  show (w.heap.modify g _)[j]? = w.heap[j]?
  rw [Array.getElem?_modify, if_neg (fun e => hm e.symm)]
theorem wp_convMark (hS : St W w rs) (t : TypeId) (x : Operand) (ho : o.op = .convert t t x) (e : TypeId) (ht : P.underlying t = some (.slice e)) (he : P.underlying e = some (.int .u8)) (g n c : Nat) (hx : a.eval x = .slice (some ⟨g, 0, none⟩) n c) (cs : List Value) (hp : Pull (blk g cs) rs rs')
    (h : ∀ w', St W w' (mrk g cs :: rs') → K (a.put o.dst (.slice (some ⟨g, 0, none⟩) n c)) w') : o.wp P a w K Q := by
  obtain ⟨⟨t0, hb⟩, _⟩ := hS.blk hp
  have hsh : w.shape? g = some (t0, cs.length) := by unfold World.shape?; rw [hb]; simp
  have hr : (convert t t (.slice (some ⟨g, 0, none⟩) n c)).run P w = .ok (.slice (some ⟨g, 0, none⟩) n c) (w.freeze ⟨g, cs.length, none⟩ 1) := by
    simp [convert, run_underlying ht, run_underlying he, markStringish, hsh]
  have hst : St W (w.freeze ⟨g, cs.length, none⟩ 1) ([mrk g cs] ++ rs') := by
    refine St.change (hS.pull hp) fun f1 h1 hf1 hn1 => ?_
    obtain ⟨rfl, h1⟩ := h1
    refine ⟨[g], ⟨[g], [], by simp, ⟨rfl, t0, _, freeze_at w g cs.length _ t0 hb⟩, rfl⟩, by simp, fun b hb2 => .inl hb2, freeze_only w g _⟩
  have hk := h _ hst
  unfold Oper.wp execOp
  simp only [ho, hx, Sem.run_bind, hr, Result.andThen_ok, Sem.run_pure]
  exact hk
/-- append onto such a row that is full: a new row. -/
theorem wp_appendM (hS : St W w rs) (s x : Operand) (t : TypeId) (ho : o.op = .call { callee := .builtin .append, args := #[s, x], argTypes := #[t, t] }) (e : TypeId) (sz b : Nat) (el : ElemT P t e sz b)
    (g n : Nat) (xs : List Value) (hs : a.eval s = .slice (some ⟨g, 0, none⟩) n n) (hxs : xs.length = n * sz) (hp : Pull (mrk g xs) rs rs') (v : Value) (hx : a.eval x = v) (m : Nat) (news : List Value) (hm : Sl w sz v m news) (hm0 : 0 < m)
    (h63 : n + m ≤ maxLen) (hb : (n + m) * b ≤ 140737488355328)
    (h : ∀ ad' c' w', St W w' (own e sz ad' (n + m) c' (xs ++ news) :: rs) → K (a.put o.dst (.slice ad' (n + m) c')) w') : o.wp P a w K Q := by
  obtain ⟨ht, ⟨i, z, hi, hz, hsz, hby, hzs⟩, hpos⟩ := el
  subst hsz
  subst hby
  obtain ⟨h1S, f, hnd, hf, f1, f2, ef, ⟨e1, t0, m0, hblk⟩, hrest⟩ := hS.pull hp
  obtain ⟨hl, aa, cc, rfl, hmc, hcm, hor⟩ := hm
  rcases hor with rfl | ⟨bb, off, rfl, hcells⟩
  · omega
  · have hcell : ∀ j u, xs[j]? = some u → w.cell? ((⟨g, 0, none⟩ : Addr).add j) = some u := fun j u hu => by
      have e0 : ((⟨g, 0, none⟩ : Addr).add j) = ⟨g, j, none⟩ := by rw [Addr.add_mid, Nat.zero_add]
      rw [e0, cell_of_row w g j _ _ _ hblk]
      simpa using hu
    have hnews : ∀ j u, news[j]? = some u → w.cell? ((⟨bb, off, none⟩ : Addr).add j) = some u := fun j u hu => by
      have hj : j < m * i.size := by rw [← hl]; exact (List.getElem?_eq_some_iff.1 hu).1
      rw [Addr.add_mid, hcells j hj, hu]
    have hr := run_append_grow (P := P) w t o.type e i z ht hi hz ⟨g, 0, none⟩ n n xs hxs hcell ⟨bb, off, none⟩ m cc news hl hnews (by omega) (by simp only [maxLen] at h63; omega) (growslice_fits (by omega) hb)
    have hge := grownCap_ge w (n + m) n e
    have hcm2 : grownCap w (n + m) n e ≤ maxLen := grownCap_le_maxLen w (n + m) n e h63
    have hlen : (xs ++ news).length = (n + m) * i.size := by rw [List.length_append, hxs, hl, Nat.add_mul]
    have hown : (w.drew.alloc (.cells (xs.toArray ++ news.toArray ++ Builtin.zeroCells z.cells (grownCap w (n + m) n e - (n + m))) e)).ownsRow 0 e i.size
        (.slice (some ⟨w.heap.size, 0, none⟩) (n + m) (grownCap w (n + m) n e)) (n + m) (xs ++ news) := by
      refine ⟨hlen, .inr ⟨w.heap.size, _, _, rfl, Nat.zero_le _, heap_alloc_new w.drew _, hge, hcm2, ?_, ?_⟩⟩
      · simp only [Array.size_append, List.size_toArray, size_zeroCells, hzs, hxs, hl, ← Nat.add_mul]
        congr 1
        omega
      · simp only [Array.toList_append, List.append_assoc]
        rw [← List.append_assoc, ← hlen]
        exact List.take_left
    have hst : St W (w.drew.alloc (.cells (xs.toArray ++ news.toArray ++ Builtin.zeroCells z.cells (grownCap w (n + m) n e - (n + m))) e)) (own e i.size (some ⟨w.heap.size, 0, none⟩) (n + m) (grownCap w (n + m) n e) (xs ++ news) :: rs) := by
      obtain ⟨h1, f, h2, h3, h4⟩ := hS.drew
      refine ⟨h1.alloc _, w.heap.size :: f, List.nodup_cons.2 ⟨fun hm => by have : w.heap.size < w.drew.heap.size := h4.lt _ hm; exact absurd this (Nat.lt_irrefl _), h2⟩, fun b hb => ?_, [w.heap.size], f, rfl, ⟨rfl, hown⟩, h4.loc fun b hb => ?_⟩
      · rcases List.mem_cons.1 hb with h | h
        · rw [h]; exact h1.sz
        · exact h3 b h
      · exact heap_alloc_old w.drew _ (h4.lt b hb)
    have hk := h _ _ _ hst
    unfold Oper.wp execOp
    simp only [ho, resolve, invoke, builtin, Sem.run_bind, Sem.run_pure, Result.andThen_ok, List.map_toArray, List.map_cons, List.map_nil, hs, hx, hr]
    exact hk
theorem wp_convStr (t u : TypeId) (x : Operand) (ho : o.op = .convert t u x) (e : TypeId) (ht : P.underlying t = some (.slice e)) (he : P.underlying e = some (.int .u8)) (hu : P.underlying u = some .string) (ad : Option Addr) (n c : Nat) (hx : a.eval x = .slice ad n c) (l : List UInt8)
    (hv : Sl w 1 (.slice ad n c) n (l.map fun b => Value.int .u8 (b.toNat : Int))) (hn : 0 < n) (h : K (a.put o.dst (.string ⟨l.toArray⟩)) w) : o.wp P a w K Q := by
  obtain ⟨hl, a', c', e1, hnc, hcm, hor⟩ := hv
  cases e1
  have hl2 : l.length = n := by simpa using hl
  rcases hor with h0 | ⟨b, off, rfl, hc⟩
  · omega
  · have hr := run_convert_bytes_back (P := P) w t u e ⟨b, off, none⟩ c l ht he hu (fun j hj => by
      rw [Addr.add_mid, hc j (by omega)]
      simp [List.getElem?_eq_getElem hj])
    rw [hl2] at hr
    unfold Oper.wp execOp
    simp only [ho, hx, Sem.run_bind, hr, Result.andThen_ok, Sem.run_pure]
    exact h
end
section
variable {P : Program} {a : Act} {x y : Operand} {t ty u : TypeId}
theorem V.strEql {s r : ByteArray} (hx : a.eval x = .string s) (hy : a.eval y = .string r) : Val P (.binOp .eql t x y u) ty a (.bool (s.toList == r.toList)) := fun d pos af g w => by
  have e2 : eqGuard .eql t x y (.string s) (.string r) = pure () := rfl
  have e : (binOp .eql t (.string s) (.string r)).run P w = .ok (.bool (s.toList == r.toList)) w := by simp [binOp, Op.stringOp]
  simp only [execOp, hx, hy, e2, Sem.run_bind, Sem.run_pure, Result.andThen_ok, e]
theorem V.strEqT {s r : ByteArray} (hx : a.eval x = .string s) (hy : a.eval y = .string r) (h : (s.toList == r.toList) = true) : Val P (.binOp .eql t x y u) ty a (.bool true) := h ▸ V.strEql hx hy
end
end Go.Proofs.Ythkdckmhmiebfaa
