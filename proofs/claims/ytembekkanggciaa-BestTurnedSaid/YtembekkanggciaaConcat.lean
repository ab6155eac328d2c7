/- slices.Grow of nil, slices.Concat of two rows of ints, slices.Clone of packs. -/
import Derived.Test.YtembekkanggciaaSort3
import Derived.Lib.AppendZeros
import Derived.Laws.Cover3
namespace Go.Proofs.Ytembekkanggciaa
set_option maxRecDepth 100000
open Go.RowKit
set_option linter.unusedVariables false
theorem cutAt_zero (g c s : Nat) : cutAt (some ⟨g, 0, none⟩) c 0 s = some ⟨g, 0, none⟩ := by
  unfold cutAt
  split
  · rfl
  · rw [Option.map_some, Addr.add_mid, Nat.zero_mul]
section
variable {P : Program} {W w : World} {rs rs' : List Res} {Q : Exit → Act → World → Prop} {K : Act → World → Prop} {o : Oper} {a : Act}
/-- append of so many noughts to nil, of which none is kept: room alone. -/
theorem wp_appendZ (hS : St W w rs) (s x : Operand) (t tn : TypeId) (ho : o.op = .call { callee := .builtin .append, args := #[s, x], argTypes := #[t, tn] }) (e : TypeId) (b : Nat) (k : IntKind) (el : ElemZ P t e k 1 b) (kn : IntKind) (htn : P.underlying tn = some (.int kn))
    (hs : a.eval s = .slice none 0 0) (k2 : IntKind) (n : Nat) (hx : a.eval x = .int k2 n) (h0 : 0 < n) (h63 : n ≤ maxLen) (hb : n * b ≤ 281474976710656)
    (h : ∀ g c' w', n ≤ c' → c' ≤ maxLen → St W w' (own e 1 (some ⟨g, 0, none⟩) 0 c' [] :: rs) → K (a.put o.dst (.slice (some ⟨g, 0, none⟩) n c')) w') : o.wp P a w K Q := by
  obtain ⟨ht, ⟨i, z, hi, hz, hsz, hby, hzc⟩, _⟩ := el
  have hr := Lib.run_append_nil_zeros (P := P) w t tn o.type e i z k2 kn ht htn hi hz n h0 (by omega) (by unfold maxLen at h63; omega) (by rw [hby]; exact hb)
  have hg1 := grownCap_ge w n 0 e
  have hg2 := grownCap_le_maxLen w n 0 e h63
  obtain ⟨G, hG⟩ : ∃ G, grownCap w n 0 e = G := ⟨_, rfl⟩
  rw [hG] at hr hg1 hg2
  refine Lib.wp_append_run w s x t tn ho _ _ hs hx _ _ hr (h _ _ _ hg1 hg2 ?_)
  have hS2 := hS.drew
  obtain ⟨h1, f, h2, h3, h4⟩ := hS2
  refine ⟨h1.alloc _, w.heap.size :: f, List.nodup_cons.2 ⟨fun hm => by have := h4.lt _ hm; exact absurd this (Nat.lt_irrefl _), h2⟩, fun b hb => ?_, [w.heap.size], f, rfl, ⟨rfl, rfl, .inr ⟨w.heap.size, G, _, rfl, Nat.zero_le _, heap_alloc_new w.drew _, Nat.zero_le _, hg2, ?_, by simp⟩⟩, h4.loc fun b hb => ?_⟩
  · rcases List.mem_cons.1 hb with h | h
    · rw [h]; exact h1.sz
    · exact h3 b h
  · rw [Array.size_append, size_zeroCells, size_zeroCells, hzc, Array.size_replicate]; omega
  · exact heap_alloc_old w.drew _ (h4.lt b hb)
end
theorem V.cap {P : Program} {a : Act} {x : Operand} {t ty : TypeId} {ad : Option Addr} {n c : Nat} {e : TypeId} (ht : P.underlying t = some (.slice e)) (hx : a.eval x = .slice ad n c) : Val P (.call { callee := .builtin .cap, args := #[x], argTypes := #[t] }) ty a (.int .i64 c) := fun d pos af g w => by
  have e : P.elem t = e := by simp [Program.elem, ht]
  have e2 := run_cap_slice (P := P) w t ty ad n c (by rw [e]; exact ht)
  simp only [execOp, resolve, invoke, builtin, Sem.run_bind, Sem.run_pure, Result.andThen_ok, List.map_toArray, List.map_cons, List.map_nil, hx, e2]
  rfl
theorem grow_any (w0 : World) (n : Nat) (hn : n ≤ 1000000) : Calls Try.prog 29 #[.slice none 0 0, .int .i64 n] w0 fun e w => ∃ (ad : Option Addr) (c : Nat), e = .returned (.slice ad 0 c) ∧ St w0 w [own 3 1 ad 0 c []] := by
  have hS := St.start w0
  go_enter Try.func29, Try.ntmps29
  by_cases h0 : n = 0
  · subst h0
    repeat' (first
      | ((with_reducible show wpList _ _ _ (⟨_, .move _, _, _, _, _⟩ :: _) _ _); (first | go_big_want | go_step); go_step)
      | ((with_reducible show wpList _ _ _ (⟨_, .assign _, _, _, _, _⟩ :: _) _ _); (first | go_big_want | go_step); go_step)
      | ((with_reducible show wpList _ _ _ (⟨some 6, .binOp .lss _ _ _ _, _, _, _, _⟩ :: _) _ _); (refine wplV _ (V.lss rfl rfl) (by kernel_rfl) ?_; go_step))
      | ((fail_if_success (with_reducible show wpList _ _ _ (_ :: _) _ _)); go_step))
    repeat' (first
      | ((with_reducible show wpList _ _ _ (⟨some 13, .binOp .sub _ _ _ _, _, _, _, _⟩ :: _) _ _); (refine wplV (.int _ (0)) (V.as (V.subI rfl rfl (by omega)) (by omega)) rfl ?_; go_step))
      | ((with_reducible show wpList _ _ _ (⟨some 14, .binOp .sub _ _ _ _, _, _, _, _⟩ :: _) _ _); (refine wplV (.int _ (0)) (V.as (V.subI rfl rfl (by omega)) (by omega)) rfl ?_; go_step))
      | ((with_reducible show wpList _ _ _ (⟨_, .move _, _, _, _, _⟩ :: _) _ _); (first | go_big_want | go_step); go_step)
      | ((with_reducible show wpList _ _ _ (⟨_, .assign _, _, _, _, _⟩ :: _) _ _); (first | go_big_want | go_step); go_step)
      | ((with_reducible show wpList _ _ _ (⟨some 10, .call ⟨.builtin .cap, _, _⟩, _, _, _, _⟩ :: _) _ _); (refine wplV _ (V.cap Try.underlying23 rfl) (by kernel_rfl) ?_; go_step))
      | ((with_reducible show wpList _ _ _ (⟨some 12, .call ⟨.builtin .len, _, _⟩, _, _, _, _⟩ :: _) _ _); (refine wplV _ (V.len Try.underlying23 rfl) (by kernel_rfl) ?_; go_step))
      | ((with_reducible show wpList _ _ _ (⟨some 16, .binOp .gtr _ _ _ _, _, _, _, _⟩ :: _) _ _); (refine wplV _ (V.gtr rfl rfl) (by kernel_rfl) ?_; go_step))
      | ((fail_if_success (with_reducible show wpList _ _ _ (_ :: _) _ _)); go_step))
    repeat' (first
      | ((fail_if_success (with_reducible show wpList _ _ _ (_ :: _) _ _)); go_step))
    go_ret
    exact ⟨none, 0, rfl, hS.nil 3 1⟩
  · skip
    repeat' (first
      | ((with_reducible show wpList _ _ _ (⟨_, .move _, _, _, _, _⟩ :: _) _ _); (first | go_big_want | go_step); go_step)
      | ((with_reducible show wpList _ _ _ (⟨_, .assign _, _, _, _, _⟩ :: _) _ _); (first | go_big_want | go_step); go_step)
      | ((with_reducible show wpList _ _ _ (⟨some 6, .binOp .lss _ _ _ _, _, _, _, _⟩ :: _) _ _); (refine wplV _ (V.lss rfl rfl) (by kernel_rfl) ?_; go_step))
      | ((fail_if_success (with_reducible show wpList _ _ _ (_ :: _) _ _)); go_step))
    repeat' (first
      | ((with_reducible show wpList _ _ _ (⟨some 13, .binOp .sub _ _ _ _, _, _, _, _⟩ :: _) _ _); (refine wplV (.int _ (0)) (V.as (V.subI rfl rfl (by omega)) (by omega)) rfl ?_; go_step))
      | ((with_reducible show wpList _ _ _ (⟨some 14, .binOp .sub _ _ _ _, _, _, _, _⟩ :: _) _ _); (refine wplV (.int _ (((n : Nat) : Int))) (V.as (V.subI rfl rfl (by omega)) (by omega)) rfl ?_; go_step))
      | ((with_reducible show wpList _ _ _ (⟨_, .move _, _, _, _, _⟩ :: _) _ _); (first | go_big_want | go_step); go_step)
      | ((with_reducible show wpList _ _ _ (⟨_, .assign _, _, _, _, _⟩ :: _) _ _); (first | go_big_want | go_step); go_step)
      | ((with_reducible show wpList _ _ _ (⟨some 10, .call ⟨.builtin .cap, _, _⟩, _, _, _, _⟩ :: _) _ _); (refine wplV _ (V.cap Try.underlying23 rfl) (by kernel_rfl) ?_; go_step))
      | ((with_reducible show wpList _ _ _ (⟨some 12, .call ⟨.builtin .len, _, _⟩, _, _, _, _⟩ :: _) _ _); (refine wplV _ (V.len Try.underlying23 rfl) (by kernel_rfl) ?_; go_step))
      | ((with_reducible show wpList _ _ _ (⟨some 16, .binOp .gtr _ _ _ _, _, _, _, _⟩ :: _) _ _); (refine wplV _ (V.gtr rfl rfl) (by kernel_rfl) ?_; go_step))
      | ((fail_if_success (with_reducible show wpList _ _ _ (_ :: _) _ _)); go_step))
    repeat' (first
      | ((with_reducible show wpList _ _ _ (⟨some 20, _, _, _, _, _⟩ :: _) _ _); refine wplV (.slice none 0 0) (V.slice Try.underlying23 isz3 rfl .none (.some rfl (show IsN ((0 : Nat) : Int) 0 from rfl)) (Nat.le_refl _) (Nat.le_refl _)) (by kernel_rfl) ?_; go_step)
      | ((with_reducible show wpList _ _ _ (⟨some 22, _, _, _, _, _⟩ :: _) _ _); refine wpl (by kernel_rfl) ?_; refine wp_appendZ (o := ⟨some 22, _, _, _, _, _⟩) hS _ _ 23 3 rfl 3 8 .i64 elz23 .i64 Try.underlying3 rfl .i64 n rfl (by omega) (by unfold maxLen; omega) (by omega) ?_; clear hS; intro g22 c22 w hc1 hc2 hS; refine put_move ?_; go_step)
      | ((with_reducible show wpList _ _ _ (⟨_, .move _, _, _, _, _⟩ :: _) _ _); (first | go_big_want | go_step); go_step)
      | ((with_reducible show wpList _ _ _ (⟨_, .assign _, _, _, _, _⟩ :: _) _ _); (first | go_big_want | go_step); go_step)
      | ((with_reducible show wpList _ _ _ (⟨some 19, .call ⟨.builtin .cap, _, _⟩, _, _, _, _⟩ :: _) _ _); (refine wplV _ (V.cap Try.underlying23 rfl) (by kernel_rfl) ?_; go_step))
      | ((with_reducible show wpList _ _ _ (⟨some 24, .call ⟨.builtin .len, _, _⟩, _, _, _, _⟩ :: _) _ _); (refine wplV _ (V.len Try.underlying23 rfl) (by kernel_rfl) ?_; go_step))
      | ((with_reducible show wpList _ _ _ (⟨some 25, .slice 23 _ _ _ _, _, _, _, _⟩ :: _) _ _); (refine wplV _ (V.slice Try.underlying23 isz3 rfl (by (first | exact Lo.none | exact Lo.some rfl (by (repeat (first | exact IsN.auto | with_reducible apply IsN.add | with_reducible apply IsN.sub | with_reducible apply IsN.mul | with_reducible apply IsN.div | with_reducible apply IsN.mod | with_reducible apply IsN.min | with_reducible apply IsN.max | (with_reducible show (_ : Nat) ≤ _; omega) | exact IsN.toNat (by omega)))))) (by (first | exact Up.none | exact Up.some rfl (by (repeat (first | exact IsN.auto | with_reducible apply IsN.add | with_reducible apply IsN.sub | with_reducible apply IsN.mul | with_reducible apply IsN.div | with_reducible apply IsN.mod | with_reducible apply IsN.min | with_reducible apply IsN.max | (with_reducible show (_ : Nat) ≤ _; omega) | exact IsN.toNat (by omega)))))) (by omega) (by omega)) (by kernel_rfl) ?_; go_step))
      | ((fail_if_success (with_reducible show wpList _ _ _ (_ :: _) _ _)); go_step))
    go_ret
    refine ⟨some ⟨g22, 0, none⟩, c22, ?_, hS⟩
    show Ending.returned (.slice (cutAt (some ⟨g22, 0, none⟩) c22 0 1) (0 - 0) (c22 - 0)) = _
    rw [cutAt_zero]
    rfl
theorem Pull.mem2 : ∀ (ss rs : List Res) (r : Res), ∃ ss', Pull r (ss ++ r :: rs) ss'
  | [], rs, r => ⟨rs, .head⟩
  | x :: ss, rs, r => by obtain ⟨s, hs⟩ := Pull.mem2 ss rs r; exact ⟨x :: s, .tail hs⟩
theorem pkE_all (P : List PkV) : ∀ u ∈ P.flatMap pkE, u.oneCell' = true := fun u hu => by
  obtain ⟨p, _, h⟩ := List.mem_flatMap.1 hu
  simp only [pkE, List.mem_cons, List.mem_nil_iff, or_false] at h
  rcases h with rfl | rfl <;> rfl
theorem V.eqlNilS {P : Program} {a : Act} {x y : Operand} {t ty u e : TypeId} {ad : Option Addr} {n c : Nat} (ht : P.underlying t = some (.slice e)) (hg : P.eqGuardType P.depth t = false) (hx : a.eval x = .slice ad n c) (hy : a.eval y = .slice none 0 0) : Val P (.binOp .eql t x y u) ty a (.bool ad.isNone) := fun d pos af g w => by
  have e1 : (eqGuard .eql t x y (.slice ad n c) (.slice none 0 0)).run P w = .ok () w := by
    unfold eqGuard
    simp
  have e2 : (binOp .eql t (.slice ad n c) (.slice none 0 0)).run P w = .ok (.bool ad.isNone) w := by
    have : binOp .eql t (.slice ad n c) (.slice none 0 0) = (do pure (.bool (← Op.equal t (.slice ad n c) (.slice none 0 0)))) := rfl
    rw [this]
    simp only [Sem.run_bind, run_equal_slice_nil w t e ad n c ht, Result.andThen_ok, Sem.run_pure]
  simp only [execOp, hx, hy, Sem.run_bind, e1, Result.andThen_ok, e2, Sem.run_pure]
section
variable {P : Program} {W w : World} {rs rs' : List Res} {Q : Exit → Act → World → Prop} {K : Act → World → Prop} {o : Oper} {a : Act}
/-- An empty slice that is not nil. -/
theorem wp_buildSlice0 (hS : St W w rs) (t : TypeId) (ho : o.op = .buildSlice t 0 #[]) (e : TypeId) (s b : Nat) (el : ElemT P t e s b)
    (h : ∀ g w', St W w' (own e s (some ⟨g, 0, none⟩) 0 0 [] :: rs) → K (a.put o.dst (.slice (some ⟨g, 0, none⟩) 0 0)) w') : o.wp P a w K Q := by
  obtain ⟨ht, ⟨i, z, hi, hz, hsz, hb, hzs⟩, hp⟩ := el
  have hr : (Instr.buildSlice t 0 #[]).run P w = .ok (.slice (some ⟨w.heap.size, 0, none⟩) 0 0) (w.alloc (.cells #[] e)) := by
    simp [Instr.buildSlice, run_underlying ht, sizeOf, typeInfo, hi, Instr.fill, newRow]
    rw [Array.eq_empty_of_size_eq_zero (xs := Array.map (fun x => default) (Array.range 0)) (by simp)]
  have hst := hS.allocOwn e s 0 [] (by simp) (Nat.zero_le _)
  unfold Oper.wp execOp
  simp only [ho, Sem.run_bind, Array.map_empty, hr, Result.andThen_ok, Sem.run_pure]
  exact h _ _ hst
end
theorem clone_any (W w0 : World) (rs rs' : List Res) (g n c : Nat) (P : List PkV) (hS : St W w0 rs) (hp : Pull (pks g n c P) rs rs') (hn : n ≤ 100000) (hn0 : 0 < n) :
    Calls Try.prog 21 #[.slice (some ⟨g, 0, none⟩) n c] w0 fun e w => ∃ (g' c' : Nat), e = .returned (.slice (some ⟨g', 0, none⟩) n c') ∧ St W w (pks g' n c' P :: pks g n c P :: rs') := by
  replace hS := hS.pull hp
  go_enter Try.func21, Try.ntmps21
  have he := pkE_len
  have hsl : ∀ w rs2, St W w (rs2 ++ pks g n c P :: rs') → Sl w 2 (.slice (some ⟨g, 0, none⟩) n c) n (P.flatMap pkE) := fun w rs2 h => by
    obtain ⟨ss', hp⟩ := Pull.mem2 rs2 rs' (pks g n c P)
    exact h.sl hp
  repeat' (first
    | ((with_reducible show wpList _ _ _ (⟨some 4, _, _, _, _, _⟩ :: _) _ _); refine wplV (.bool false) (V.eqlNilS (ad := some ⟨g, 0, none⟩) (n := n) (c := c) Try.underlying49 (by kernel_rfl) rfl rfl) (by kernel_rfl) ?_; go_step)
    | ((with_reducible show wpList _ _ _ (⟨_, .move _, _, _, _, _⟩ :: _) _ _); (first | go_big_want | go_step); go_step)
    | ((with_reducible show wpList _ _ _ (⟨_, .assign _, _, _, _, _⟩ :: _) _ _); (first | go_big_want | go_step); go_step)
    | ((fail_if_success (with_reducible show wpList _ _ _ (_ :: _) _ _)); go_step))
  repeat' (first
    | ((with_reducible show wpList _ _ _ (⟨some 5, _, _, _, _, _⟩ :: _) _ _); refine wpl (by kernel_rfl) ?_; refine wp_buildSlice0 (o := ⟨some 5, _, _, _, _, _⟩) hS 49 rfl 48 2 32 el49 ?_; clear hS; intro g5 w hS; refine put_move ?_; go_step)
    | ((with_reducible show wpList _ _ _ (⟨some 7, _, _, _, _, _⟩ :: _) _ _); refine wpl (by kernel_rfl) ?_; refine wp_append (o := ⟨some 7, _, _, _, _, _⟩) hS _ _ 49 rfl 48 2 32 el49 _ _ _ _ rfl .head _ rfl n _ (hsl _ [_] hS) (pkE_all P) (by unfold maxLen; omega) (by omega) ?_; clear hS; intro ad7 c7 w hS; refine put_move ?_; go_step)
    | ((with_reducible show wpList _ _ _ (⟨_, .move _, _, _, _, _⟩ :: _) _ _); (first | go_big_want | go_step); go_step)
    | ((with_reducible show wpList _ _ _ (⟨_, .assign _, _, _, _, _⟩ :: _) _ _); (first | go_big_want | go_step); go_step)
    | ((fail_if_success (with_reducible show wpList _ _ _ (_ :: _) _ _)); go_step))
  go_ret
  rw [Nat.zero_add, List.nil_append] at hS
  obtain ⟨g', rfl⟩ := own_some hS .head hn0
  refine ⟨g', c7, ?_, hS⟩
  show Ending.returned (.slice (some ⟨g', 0, none⟩) (0 + n) c7) = _
  rw [Nat.zero_add]
/-- A row of ints: where it lies, and what it is. -/
structure Sr where
  ad : Option Addr
  c : Nat
  xs : List Int
def Sr.val (p : Sr) : Value := .slice p.ad p.xs.length p.c
def Sr.res (p : Sr) : Res := own 3 1 p.ad p.xs.length p.c (p.xs.map (Value.int .i64))
def flat (R : List Sr) (k : Nat) : List Int := (R.take k).flatMap (·.xs)
theorem flat_succ (R : List Sr) (k : Nat) (r : Sr) (h : R[k]? = some r) : flat R (k + 1) = flat R k ++ r.xs := by
  obtain ⟨hk, e⟩ := List.getElem?_eq_some_iff.1 h
  unfold flat
  rw [List.take_succ_eq_append_getElem hk, List.flatMap_append, e]
  simp
theorem flat_le (R : List Sr) (k : Nat) : (flat R k).length ≤ (R.flatMap (·.xs)).length := by
  have : R.flatMap (·.xs) = (R.take k).flatMap (·.xs) ++ (R.drop k).flatMap (·.xs) := by rw [← List.flatMap_append, List.take_append_drop]
  rw [this, List.length_append]
  unfold flat
  omega
set_option maxHeartbeats 4000000 in
theorem concat_any (w0 : World) (g m mc : Nat) (R : List Sr) (hv : Sl w0 1 (.slice (some ⟨g, 0, none⟩) m mc) m (R.map Sr.val)) (hr : ∀ r ∈ R, Sl w0 1 r.val r.xs.length (r.xs.map (Value.int .i64))) (hm : m ≤ 1000) (hb : (R.flatMap (·.xs)).length ≤ 1000000) :
    Calls Try.prog 22 #[.slice (some ⟨g, 0, none⟩) m mc] w0 fun e w => ∃ (ad : Option Addr) (c : Nat), e = .returned (.slice ad (R.flatMap (·.xs)).length c) ∧ St w0 w [own 3 1 ad (R.flatMap (·.xs)).length c ((R.flatMap (·.xs)).map (Value.int .i64))] := by
  have hS := St.start w0
  have hRl : R.length = m := by have := hv.1; simpa using this
  have HC : Hid (∀ k r, k < m → R[k]? = some r → w0.cell? ⟨g, k, none⟩ = some (.slice r.ad r.xs.length r.c)) := fun k r hk h => by
    obtain ⟨_, a1, c1, e1, _, _, hor⟩ := hv
    cases e1
    rcases hor with h0 | ⟨b0, o0, e2, hc⟩
    · omega
    · cases e2
      have := hc k (by omega)
      rw [Nat.zero_add, List.getElem?_map, h] at this
      exact this
  have HR := hid hr
  have HF : Hid (flat R m = R.flatMap (·.xs)) := by unfold Hid; unfold flat; rw [← hRl, List.take_length]
  have HL : Hid (∀ k, (flat R k).length ≤ 1000000) := fun k => Nat.le_trans (flat_le R k) hb
  rw [← HF.out]
  clear hv hr hb
  go_enter Try.func22, Try.ntmps22
  repeat' (first
    | ((with_reducible show wpList _ _ _ (⟨_, .move _, _, _, _, _⟩ :: _) _ _); (first | go_big_want | go_step); go_step)
    | ((with_reducible show wpList _ _ _ (⟨_, .assign _, _, _, _, _⟩ :: _) _ _); (first | go_big_want | go_step); go_step)
    | ((with_reducible show wpList _ _ _ (⟨some 10, .call ⟨.builtin .len, _, _⟩, _, _, _, _⟩ :: _) _ _); (refine wplV _ (V.len Try.underlying60 rfl) (by kernel_rfl) ?_; go_step))
    | ((fail_if_success (with_reducible show wpList _ _ _ (_ :: _) _ _)); go_step))
  go_loopg [3, 11] m (fun gk sv iv w => ∃ (k L : Nat), gk + k = m ∧ L = (flat R k).length ∧ iv = .int .i64 k ∧ sv = .int .i64 L ∧ St w0 w [])
  case atStart => exact ⟨0, 0, by omega, rfl, rfl, rfl, hS⟩
  case round =>
    clear hS
    obtain ⟨k, L, hk, hL, rfl, rfl, hS⟩ := hrel
    have hL0 := HL.out k
    rw [← hL] at hL0
    by_cases hlt : k < m
    · obtain ⟨r, hr⟩ : ∃ r, R[k]? = some r := ⟨_, List.getElem?_eq_getElem (by omega)⟩
      have hc := HC.out k r hlt hr
      have hf := congrArg List.length (flat_succ R k r hr)
      rw [List.length_append, ← hL] at hf
      have hL1 := HL.out (k + 1)
      obtain ⟨N, hN⟩ : ∃ N, r.xs.length = N := ⟨_, rfl⟩
      rw [hN] at hf hc
      have HFk := hid hf
      rw [hf] at hL1
      clear hf hN hr
      repeat' (first
        | ((with_reducible show wpList _ _ _ (⟨_, .move _, _, _, _, _⟩ :: _) _ _); (first | go_big_want | go_step); go_step)
        | ((with_reducible show wpList _ _ _ (⟨_, .assign _, _, _, _, _⟩ :: _) _ _); (first | go_big_want | go_step); go_step)
        | ((with_reducible show wpList _ _ _ (⟨some 12, .binOp .lss _ _ _ _, _, _, _, _⟩ :: _) _ _); (refine wplV _ (V.lss rfl rfl) (by kernel_rfl) ?_; go_step))
        | ((with_reducible show wpList _ _ _ (⟨some 13, .indexAddr 60 _ _, _, _, _, _⟩ :: _) _ _); (refine wplV _ (V.indexSl Try.underlying60 isz23 rfl rfl (by (repeat (first | exact IsN.auto | with_reducible apply IsN.add | with_reducible apply IsN.sub | with_reducible apply IsN.mul | with_reducible apply IsN.div | with_reducible apply IsN.mod | with_reducible apply IsN.min | with_reducible apply IsN.max | (with_reducible show (_ : Nat) ≤ _; omega) | exact IsN.toNat (by omega)))) (by omega) (Nat.mul_one _) (by first | with_reducible exact Nat.zero_add _ | with_reducible exact Nat.add_zero _ | exact rfl)) (by kernel_rfl) ?_; go_step))
        | ((with_reducible show wpList _ _ _ (⟨_, .load 23 _, _, _, _, _⟩ :: _) _ _); (refine wpl (by kernel_rfl) ?_; apply wp_loadW hS 23 _ rfl _ rfl (one_of rfl) _; (case hc => with_reducible assumption); refine put_move ?_; go_step))
        | ((fail_if_success (with_reducible show wpList _ _ _ (_ :: _) _ _)); go_step))
      repeat' (first
        | ((with_reducible show wpList _ _ _ (⟨some 18, .binOp .add _ _ _ _, _, _, _, _⟩ :: _) _ _); (refine wplV (.int _ (((L + N : Nat) : Int))) (V.as (V.addI rfl rfl (by omega)) (by omega)) rfl ?_; go_step))
        | ((with_reducible show wpList _ _ _ (⟨_, .move _, _, _, _, _⟩ :: _) _ _); (first | go_big_want | go_step); go_step)
        | ((with_reducible show wpList _ _ _ (⟨_, .assign _, _, _, _, _⟩ :: _) _ _); (first | go_big_want | go_step); go_step)
        | ((with_reducible show wpList _ _ _ (⟨some 17, .call ⟨.builtin .len, _, _⟩, _, _, _, _⟩ :: _) _ _); (refine wplV _ (V.len Try.underlying23 rfl) (by kernel_rfl) ?_; go_step))
        | ((with_reducible show wpList _ _ _ (⟨some 20, .binOp .lss _ _ _ _, _, _, _, _⟩ :: _) _ _); (refine wplV _ (V.lss rfl rfl) (by kernel_rfl) ?_; go_step))
        | ((fail_if_success (with_reducible show wpList _ _ _ (_ :: _) _ _)); go_step))
      repeat' (first
        | ((with_reducible show wpList _ _ _ (⟨some 22, .binOp .add _ _ _ _, _, _, _, _⟩ :: _) _ _); (refine wplV (.int _ (((k + 1 : Nat) : Int))) (V.as (V.addI rfl rfl (by omega)) (by omega)) rfl ?_; go_step))
        | ((with_reducible show wpList _ _ _ (⟨_, .move _, _, _, _, _⟩ :: _) _ _); (first | go_big_want | go_step); go_step)
        | ((fail_if_success (with_reducible show wpList _ _ _ (_ :: _) _ _)); go_step))
      go_roundg (gk - 1)
      case measure => omega
      case rel => exact ⟨k + 1, L + N, by omega, HFk.out.symm, by go_num, rfl, hS⟩
    · obtain rfl : k = m := by omega
      repeat' (first
        | ((with_reducible show wpList _ _ _ (⟨_, .move _, _, _, _, _⟩ :: _) _ _); (first | go_big_want | go_step); go_step)
        | ((with_reducible show wpList _ _ _ (⟨some 12, .binOp .lss _ _ _ _, _, _, _, _⟩ :: _) _ _); (refine wplV _ (V.lss rfl rfl) (by kernel_rfl) ?_; go_step))
        | ((fail_if_success (with_reducible show wpList _ _ _ (_ :: _) _ _)); go_step))
      repeat' (first
        | ((with_reducible show wpList _ _ _ (⟨_, .call ⟨.value (.func 29), _, _⟩, _, _, _, _⟩ :: _) _ _); refine wpl_call (f := 29) Try.call29 (by kernel_rfl) ?_; refine ⟨_, (grow_any _ L (by omega)), ?_⟩; rintro e w ⟨ad, cc, rfl, hS2⟩; replace hS := hS.call1 hS2; clear hS2; refine ⟨_, rfl, ?_⟩; refine put_move ?_; go_step)
        | ((with_reducible show wpList _ _ _ (⟨_, .move _, _, _, _, _⟩ :: _) _ _); (first | go_big_want | go_step); go_step)
        | ((with_reducible show wpList _ _ _ (⟨_, .assign _, _, _, _, _⟩ :: _) _ _); (first | go_big_want | go_step); go_step)
        | ((with_reducible show wpList _ _ _ (⟨some 26, .call ⟨.builtin .len, _, _⟩, _, _, _, _⟩ :: _) _ _); (refine wplV _ (V.len Try.underlying60 rfl) (by kernel_rfl) ?_; go_step))
        | ((fail_if_success (with_reducible show wpList _ _ _ (_ :: _) _ _)); go_step))
      go_loopg [6, 27] k (fun gk sv iv w => ∃ (j M : Nat) (aa : Option Addr) (ca : Nat), gk + j = k ∧ M = (flat R j).length ∧ iv = .int .i64 j ∧ sv = .slice aa M ca ∧ St w0 w [own 3 1 aa M ca ((flat R j).map (Value.int .i64))])
      case atStart => exact ⟨0, 0, ad, cc, by omega, rfl, rfl, rfl, hS⟩
      case round =>
        clear hS
        obtain ⟨j, M, aa, ca, hj, hM, rfl, rfl, hS⟩ := hrel
        have hM0 := HL.out j
        rw [← hM] at hM0
        by_cases hlt2 : j < k
        · obtain ⟨r, hr⟩ : ∃ r, R[j]? = some r := ⟨_, List.getElem?_eq_getElem (by omega)⟩
          have hc := HC.out j r hlt2 hr
          have hsl : Sl w0 1 (.slice r.ad r.xs.length r.c) r.xs.length (r.xs.map (Value.int .i64)) := HR.out r (List.mem_of_getElem? hr)
          have hfe := flat_succ R j r hr
          have hf := congrArg List.length hfe
          rw [List.length_append, ← hM] at hf
          have hM1 := HL.out (j + 1)
          obtain ⟨N, hN⟩ : ∃ N, r.xs.length = N := ⟨_, rfl⟩
          rw [hN] at hf hc hsl
          have HFk := hid hf
          have HFE := hid hfe
          rw [hf] at hM1
          clear hf hN hr hfe
          repeat' (first
            | ((with_reducible show wpList _ _ _ (⟨some 34, .binOp .add _ _ _ _, _, _, _, _⟩ :: _) _ _); (refine wplV (.int _ (((j + 1 : Nat) : Int))) (V.as (V.addI rfl rfl (by omega)) (by omega)) rfl ?_; go_step))
            | ((with_reducible show wpList _ _ _ (⟨_, .move _, _, _, _, _⟩ :: _) _ _); (first | go_big_want | go_step); go_step)
            | ((with_reducible show wpList _ _ _ (⟨_, .assign _, _, _, _, _⟩ :: _) _ _); (first | go_big_want | go_step); go_step)
            | ((with_reducible show wpList _ _ _ (⟨some 28, .binOp .lss _ _ _ _, _, _, _, _⟩ :: _) _ _); (refine wplV _ (V.lss rfl rfl) (by kernel_rfl) ?_; go_step))
            | ((with_reducible show wpList _ _ _ (⟨some 29, .indexAddr 60 _ _, _, _, _, _⟩ :: _) _ _); (refine wplV _ (V.indexSl Try.underlying60 isz23 rfl rfl (by (repeat (first | exact IsN.auto | with_reducible apply IsN.add | with_reducible apply IsN.sub | with_reducible apply IsN.mul | with_reducible apply IsN.div | with_reducible apply IsN.mod | with_reducible apply IsN.min | with_reducible apply IsN.max | (with_reducible show (_ : Nat) ≤ _; omega) | exact IsN.toNat (by omega)))) (by omega) (Nat.mul_one _) (by first | with_reducible exact Nat.zero_add _ | with_reducible exact Nat.add_zero _ | exact rfl)) (by kernel_rfl) ?_; go_step))
            | ((with_reducible show wpList _ _ _ (⟨_, .load 23 _, _, _, _, _⟩ :: _) _ _); (refine wpl (by kernel_rfl) ?_; apply wp_loadW hS 23 _ rfl _ rfl (one_of rfl) _; (case hc => with_reducible assumption); refine put_move ?_; go_step))
            | ((with_reducible show wpList _ _ _ (⟨some 33, .call ⟨.builtin .append, _, _⟩, _, _, _, _⟩ :: _) _ _); (refine wpl (by kernel_rfl) ?_; apply wp_append (o := ⟨some 33, _, _, _, _, _⟩) hS _ _ 23 rfl 3 1 8 el23 _ _ _ _ rfl; (case hp => (repeat (first | with_reducible exact Pull.head | apply Pull.tail))); (case hx => exact rfl); (case hm => (first | exact hS.slBlk (by (repeat (first | with_reducible exact Pull.head | apply Pull.tail))) (by rfl) (by decide) | exact hS.sl (by (repeat (first | with_reducible exact Pull.head | apply Pull.tail))) | with_reducible assumption | exact Sl.ext (by with_reducible assumption) hS.1 | exact Sl.nil _ _ | exact Sl.ext (by assumption) hS.1 | assumption)); (case h1 => (first | exact oneAll rfl | exact oneMap _ _ | (intro u hu; cases hu))); (case h63 => unfold maxLen; omega); (case hb => omega); clear hS; intro ad33 c33 w hS; (first | simp only [mapk1] at hS | simp only [mapk2] at hS | simp only [mapk3] at hS | simp only [mapk4] at hS | simp only [mapkl] at hS | skip); refine put_move ?_; go_step))
            | ((fail_if_success (with_reducible show wpList _ _ _ (_ :: _) _ _)); go_step))
          go_roundg (gk - 1)
          case measure => omega
          case rel => exact ⟨j + 1, M + N, _, _, by omega, HFk.out.symm, by go_num, rfl, by rw [HFE.out]; exact hS.sub (by (repeat (first | exact Sub.nil | with_reducible exact Sub.refl | (apply Sub.cons; (case p => (repeat (first | with_reducible exact Pull.head | apply Pull.tail)))) | apply Sub.skip)))⟩
        · obtain rfl : j = k := by omega
          repeat' (first
            | ((with_reducible show wpList _ _ _ (⟨_, .move _, _, _, _, _⟩ :: _) _ _); (first | go_big_want | go_step); go_step)
            | ((with_reducible show wpList _ _ _ (⟨_, .assign _, _, _, _, _⟩ :: _) _ _); (first | go_big_want | go_step); go_step)
            | ((with_reducible show wpList _ _ _ (⟨some 28, .binOp .lss _ _ _ _, _, _, _, _⟩ :: _) _ _); (refine wplV _ (V.lss rfl rfl) (by kernel_rfl) ?_; go_step))
            | ((fail_if_success (with_reducible show wpList _ _ _ (_ :: _) _ _)); go_step))
          repeat' (first
            | ((fail_if_success (with_reducible show wpList _ _ _ (_ :: _) _ _)); go_step))
          go_ret
          rw [← hM]
          exact ⟨aa, ca, rfl, hS⟩
end Go.Proofs.Ytembekkanggciaa
