/- The law BitsNone: its walk, and the statement. -/
import Derived.Test.YtodihnhpibjhmaaBitsKeep
import Derived.Test.YtodihnhpibjhmaaFields
import Derived.Test.YtodihnhpibjhmaaRet
import Derived.Test.YtodihnhpibjhmaaTint
import Derived.Test.YtodihnhpibjhmaaUpto
namespace Go.Proofs.Ytodihnhpibjhmaa
open Go.ChangeShapes Go.WideShapes Go.ChangeAt Go.RowKit
set_option linter.unusedVariables false
theorem bl39_  (w : World) : (Instr.build 39 #[]).run Try.prog w = .ok (.agg #[.int .i64 0, .int .i64 0]) w := by kernel_rfl
def Rng (l : List Int) : Prop := ∀ i, i < l.length → -9223372036854775808 ≤ nth l i ∧ nth l i ≤ 9223372036854775807
theorem rng_iff (l : List Int) : Rng l ↔ ∀ x ∈ l, -9223372036854775808 ≤ x ∧ x ≤ 9223372036854775807 := by
  constructor
  · intro h x hx
    obtain ⟨i, hi, rfl⟩ := List.getElem_of_mem hx
    have := h i hi
    simpa [nth, List.getD, hi] using this
  · intro h i hi
    have := h _ (List.getElem_mem hi)
    simpa [nth, List.getD, hi] using this
theorem packs_take (xs : List Bool) (j : Nat) : ∀ N, j ≤ N → (packs N xs).take j = packs j xs := by
  intro N
  induction N with
  | zero => exact fun h => by rw [show j = 0 by omega]; rfl
  | succ N ih =>
    intro h
    by_cases hj : j = N + 1
    · subst hj; rw [List.take_of_length_le (by rw [packs_len]; exact Nat.le_refl _)]
    · rw [packs_succ, List.take_append_of_le_length (by rw [packs_len]; omega), ih (by omega)]
def noneL (ns : List Int) (k : Nat) : List Int := ns.take (k * 2) ++ [0, 0] ++ ns.drop (k * 2)
theorem none_spec (ns ms : List Int) (n m k : Nat) (h : ns.length = n * 2) (h2 : ms.length = m * 2) (hk : k ≤ n) (hr : Rng ns) (hr2 : Rng ms) :
    Rng (noneL ns k) ∧ Rng (ns ++ ms) ∧ (wErr ns n ≠ 0 ∨ wErr (noneL ns k) (n + 1) = 0 ∧ wBytes (noneL ns k) (n + 1) = wBytes ns n ∨ wErr (noneL ns k) (n + 1) ≠ 0 ∧ n = 20000) ∧
    (wErr ns n ≠ 0 ∨ wErr (ns ++ ms) (n + m) ≠ 0 ∨ (wBytes (ns ++ ms) (n + m)).take ((fB ns).length / 8) = (wBytes ns n).take ((fB ns).length / 8) ∧ (fB ns).length / 8 ≤ (wBytes (ns ++ ms) (n + m)).length ∧ (fB ns).length / 8 ≤ (wBytes ns n).length) := by
  have ht : (ns.take (k * 2)).length = k * 2 := by simp; omega
  have hl : (noneL ns k).length = (n + 1) * 2 := by unfold noneL; simp; omega
  have hl2 : (ns ++ ms).length = (n + m) * 2 := by simp; omega
  obtain ⟨p1, p2⟩ := fB_app k (ns.take (k * 2)) (ns.drop (k * 2)) ht
  rw [List.take_append_drop] at p1 p2
  obtain ⟨q1, q2⟩ := fB_app k (ns.take (k * 2)) ([0, 0] ++ ns.drop (k * 2)) ht
  rw [← List.append_assoc] at q1 q2
  have e0 : fB ([0, 0] ++ ns.drop (k * 2)) = fB (ns.drop (k * 2)) := by simp [fB, bitsOf]
  have e1 : fO ([0, 0] ++ ns.drop (k * 2)) = fO (ns.drop (k * 2)) := by simp [fO]
  rw [e0, ← p1] at q1
  rw [e1, ← p2] at q2
  refine ⟨(rng_iff _).2 fun x hx => ?_, (rng_iff _).2 fun x hx => ?_, ?_, ?_⟩
  · unfold noneL at hx
    simp only [List.mem_append, List.mem_cons, List.not_mem_nil, or_false] at hx
    rcases hx with (hx | rfl | rfl) | hx
    · exact (rng_iff _).1 hr x (List.mem_of_mem_take hx)
    · omega
    · omega
    · exact (rng_iff _).1 hr x (List.mem_of_mem_drop hx)
  · rcases List.mem_append.1 hx with hx | hx
    · exact (rng_iff _).1 hr x hx
    · exact (rng_iff _).1 hr2 x hx
  · by_cases he : wErr ns n = 0
    · right
      obtain ⟨hn, _⟩ := fsOk_of ns n he
      have w1 := (write_spec ns n h).1
      rw [he, if_neg (by omega)] at w1
      have ho : fO ns = true := by
        by_cases hf : fO ns = true
        · exact hf
        · rw [if_neg hf] at w1; exact absurd w1 (by decide)
      have w2 := (write_spec _ _ hl).1
      by_cases hb : 20000 < n + 1
      · right; rw [w2, if_pos hb]; exact ⟨by decide, by omega⟩
      · left
        have hof : fO (noneL ns k) = true := q2.trans ho
        have hE : wErr (noneL ns k) (n + 1) = 0 := by rw [w2, if_neg hb, if_pos hof]
        exact ⟨hE, by rw [wBytes_eq _ _ hl hE, wBytes_eq _ _ h he]; congr 1⟩
    · exact .inl he
  · by_cases he : wErr ns n = 0
    · by_cases hg : wErr (ns ++ ms) (n + m) = 0
      · right; right
        obtain ⟨r1, _⟩ := fB_app n ns ms h
        rw [wBytes_eq _ _ h he, wBytes_eq _ _ hl2 hg, r1, bytesOf_len, bytesOf_len, List.length_append]
        refine ⟨?_, by omega, by omega⟩
        unfold bytesOf
        rw [packs_take _ _ _ (by rw [List.length_append]; omega), packs_take _ _ _ (by omega), List.append_assoc, packs_append _ _ _ (by omega), packs_append _ _ _ (by omega)]
      · exact .inr (.inl hg)
    · exact .inl he
theorem sum_fB (ns : List Int) (n k : Nat) (h : ns.length = n * 2) (hk : k < n) (hok : fOk ns k = true) : (fBits ns (k + 1)).length = (fBits ns k).length + (nth ns (2 * k)).toNat := by rw [fBits, List.length_append, bitsOf_len]
theorem bsl_cut {w : World} {ad : Option Addr} {n c t : Nat} {l : List Nat} (hv : Sl w 1 (.slice ad n c) n (bv l)) (hl : l.length = n) (ht : t ≤ n) : BSl w (.slice (cutAt ad c 0 1) (t - 0) (c - 0)) (bi (l.take t)) := by
  have h1 := hv.cutAt 0 t (by omega) ht
  refine BSl.bv (l := l.take t) ?_
  have e : ((bv l).drop (0 * 1)).take ((t - 0) * 1) = bv (l.take t) := by simp [bv, List.map_take]
  rw [e] at h1
  rw [show (l.take t).length = t - 0 by simp; omega]; exact h1
theorem sl_cap {w : World} {s n c : Nat} {ad : Option Addr} {cs : List Value} (hv : Sl w s (.slice ad n c) n cs) : n ≤ c := by
  obtain ⟨_, _, _, e, h, _⟩ := hv
  cases e; exact h
set_option maxRecDepth 100000 in
set_option maxHeartbeats 4000000 in
theorem BitsNone_walk {H : Type} {enc : TypeId × Value → H} {d0 d1 d2 : DataW H} {p0 p1 p2 : List MemPlace} {v0 v1 v2 : Value} {base : Nat} (W : World)
    (o0 : Value.okWide Try.prog W .any base 34 v0) (h0 : DataW.Trod enc Try.prog W 0 (fun _ => true) true 34 v0 d0 p0) (lt0 : ∀ x ∈ p0, x.block < W.heap.size)
    (o1 : Value.okWide Try.prog W .any base 34 v1) (h1 : DataW.Trod enc Try.prog W 0 (fun _ => true) true 34 v1 d1 p1) (lt1 : ∀ x ∈ p1, x.block < W.heap.size)
    (o2 : Value.okWide Try.prog W .any base 3 v2) (h2 : DataW.Trod enc Try.prog W 0 (fun _ => true) true 3 v2 d2 p2) (lt2 : ∀ x ∈ p2, x.block < W.heap.size)
    (hbulk : Rows.uptoSmall H [d0, d1, d2] = true) :
    Calls Try.prog 9 #[v0, v1, v2] W fun e w' => e = .returned (.bool true) ∧ Ext W w' := by
  obtain ⟨n, ns, hl, hv, hw⟩ := op_fields o0 h0
  obtain ⟨m, ms, hl2, hv2, hw2⟩ := op_fields o1 h1
  obtain ⟨at0, rfl, _, _⟩ := op_int Try.underlying3 o2 h2
  obtain ⟨ad, c, rfl, hnc, hcm⟩ : ∃ ad c, v0 = .slice ad n c ∧ n ≤ c ∧ c ≤ 9223372036854775807 := by
    obtain ⟨_, ad, c, h1, h2, h3, _⟩ := hv
    exact ⟨ad, c, h1, h2, by unfold maxLen at h3; exact h3⟩
  obtain ⟨ad1, c1, rfl, hnc1, hcm1⟩ : ∃ ad c, v1 = .slice ad m c ∧ m ≤ c ∧ c ≤ 9223372036854775807 := by
    obtain ⟨_, ad, c, h1, h2, h3, _⟩ := hv2
    exact ⟨ad, c, h1, h2, by unfold maxLen at h3; exact h3⟩
  have hn : n ≤ 1048576 := Nat.le_trans (slice_bulk Try.underlying34 h0) (bulk_of hbulk (by simp))
  have hm : m ≤ 1048576 := Nat.le_trans (slice_bulk Try.underlying34 h1) (bulk_of hbulk (by simp))
  clear o0 h0 lt0 o1 h1 lt1 o2 h2 lt2 hbulk
  have km1 := Int.emod_nonneg at0 (b := (n : Int) + 1) (by omega)
  have km2 := Int.emod_lt_of_pos at0 (b := (n : Int) + 1) (by omega)
  obtain ⟨k, hk⟩ : ∃ k : Nat, at0 % ((n : Int) + 1) = (k : Int) := ⟨(at0 % ((n : Int) + 1)).toNat, by omega⟩
  have hkn : k ≤ n := by omega
  have HK := hid hk
  clear hk km1 km2
  obtain ⟨s1, s2, s3, s4⟩ := none_spec ns ms n m k hl hl2 hkn hw hw2
  have hc1 := hv.cutAt 0 k (by omega) (by omega)
  have hc2 := hv.cutAt k n (by omega) (by omega)
  rw [show ((ns.map (Value.int .i64)).drop (0 * 2)).take ((k - 0) * 2) = (ns.take (k * 2)).map (Value.int .i64) by simp] at hc1
  rw [show ((ns.map (Value.int .i64)).drop (k * 2)).take ((n - k) * 2) = (ns.drop (k * 2)).map (Value.int .i64) by rw [← List.map_drop, List.take_of_length_le]; simp; omega] at hc2
  have hN : 0 + (k - 0) + 1 + (n - k) = n + 1 := by omega
  have hM : 0 + n + m = n + m := by omega
  obtain ⟨E, hE⟩ : ∃ E, wErr ns n = E := ⟨_, rfl⟩
  obtain ⟨B, hB⟩ : ∃ B, wBytes ns n = B := ⟨_, rfl⟩
  obtain ⟨F, hF⟩ : ∃ F, wErr (noneL ns k) (n + 1) = F := ⟨_, rfl⟩
  obtain ⟨B2, hB2⟩ : ∃ B, wBytes (noneL ns k) (n + 1) = B := ⟨_, rfl⟩
  obtain ⟨G, hG⟩ : ∃ G, wErr (ns ++ ms) (n + m) = G := ⟨_, rfl⟩
  obtain ⟨C, hC⟩ : ∃ C, wBytes (ns ++ ms) (n + m) = C := ⟨_, rfl⟩
  rw [hE, hF, hB, hB2] at s3
  rw [hE, hG, hB, hC] at s4
  rw [← hN] at hF hB2
  rw [← hM] at hG hC
  have HE := hid hE
  have HB := hid hB
  have HF := hid hF
  have HB2 := hid hB2
  have HG := hid hG
  have HC := hid hC
  have S1 := hid s1
  have S2 := hid s2
  have HW := hid hw
  have HL := hid hl
  have T3 : E ≠ 0 ∨ F = 0 ∨ n = 20000 := by
    rcases s3 with h | h | h
    · exact .inl h
    · exact .inr (.inl h.1)
    · exact .inr (.inr h.2)
  have S3 := hid s3
  have S4 := hid s4
  clear hE hB hF hB2 hG hC s1 s2 s3 s4 hN hM hw hw2 hl hl2
  have hS := St.start W
  go_enter Try.func9, Try.ntmps9
  repeat' (first
    | ((with_reducible show wpList _ _ _ (⟨_, .call ⟨.value (.func 21), _, _⟩, _, _, _, _⟩ :: _) _ _); refine wpl_call (f := 21) Try.call21 rfl ?_; refine ⟨_, (written_any _), ?_⟩; rintro e w ⟨rfl, hE⟩; replace hS := hS.ext hE; clear hE; refine ⟨_, rfl, ?_⟩; refine put_move ?_; go_step)
    | ((with_reducible show wpList _ _ _ (⟨_, .call ⟨.value (.func 16), _, _⟩, _, _, _, _⟩ :: _) _ _); refine wpl_call (f := 16) Try.call16 rfl ?_; refine ⟨_, (rest_any at0 ((n : Int) + 1) _ (by omega) (by omega)), ?_⟩; rintro e w' ⟨rfl, rfl⟩; rw [HK.out]; refine ⟨_, rfl, ?_⟩; refine put_move ?_; go_step)
    | ((with_reducible show wpList _ _ _ (⟨_, .call ⟨.value (.func 22), _, _⟩, _, _, _, _⟩ :: _) _ _); refine wpl_call (f := 22) Try.call22 rfl ?_; refine ⟨_, (write_any _ _ n ns (hv.ext hS.1) HW.out), ?_⟩; rintro e w ⟨ad2, c2, rfl, hS2⟩; rw [HE.out, HB.out]; rw [HB.out] at hS2; replace hS := hS.call1 hS2; clear hS2; refine ⟨_, rfl, ?_⟩; refine put_move ?_; go_step)
    | go_skip
    | go_big_skip
    | ((with_reducible show wpList _ _ _ (⟨_, .move _, _, _, _, _⟩ :: _) _ _); (first | go_big_want | go_step); go_step)
    | ((with_reducible show wpList _ _ _ (⟨_, .assign _, _, _, _, _⟩ :: _) _ _); (first | go_big_want | go_step); go_step)
    | ((with_reducible show wpList _ _ _ (⟨_, .pick _ _ _, _, _, _, _⟩ :: _) _ _); first | (refine wplPickT rfl (by kernel_rfl) ?_; go_step) | (refine wplPickF rfl (by kernel_rfl) ?_; go_step))
    | ((with_reducible show wpList _ _ _ (⟨_, .unOp .not _ _, _, _, _, _⟩ :: _) _ _); first | (refine wplV _ (V.notD rfl) (by kernel_rfl) ?_; go_step) | (refine wplV _ (V.not rfl) (by kernel_rfl) ?_; go_step))
    | ((with_reducible show wpList _ _ _ (⟨_, .call ⟨.builtin .len, _, _⟩, _, _, _, _⟩ :: _) _ _); first | (refine wplV _ (V.len Try.underlying34 rfl) (by kernel_rfl) ?_; go_step))
    | ((with_reducible show wpList _ _ _ (⟨_, .binOp .add _ _ _ _, _, _, _, _⟩ :: _) _ _); first | (refine wplV _ (V.addI rfl rfl (by omega)) (by kernel_rfl) ?_; go_step) | (refine wplV _ (V.addR (by decide) rfl rfl) (by kernel_rfl) ?_; go_step))
    | ((with_reducible show wpList _ _ _ (⟨_, .extract _ _, _, _, _, _⟩ :: _) _ _); first | (refine wplV _ (V.extract rfl rfl) (by kernel_rfl) ?_; go_step))
    | ((fail_if_success (with_reducible show wpList _ _ _ (_ :: _) _ _)); go_step))
  all_goals (try (go_ret; exact ⟨rfl, hS.1⟩))
  refine drawn_lit [] (fun _ => True) (by kernel_rfl) ?_
  replace hS := hS.drew
  focus
    refine takeM 0 _ (by (repeat (first | with_reducible exact AtL.head | apply AtL.tail))) (by kernel_rfl) (by kernel_rfl) (by kernel_rfl) (by exact fun _ _ _ _ h => h) rfl ?_
    go_step
    refine takeM 1 _ (by (repeat (first | with_reducible exact AtL.head | apply AtL.tail))) (by kernel_rfl) (by kernel_rfl) (by kernel_rfl) (by exact fun _ _ _ _ h => h) rfl ?_
    go_step
    first | (refine takeV 2 _ (by (repeat (first | with_reducible exact AtL.head | apply AtL.tail))) (by kernel_rfl) (by kernel_rfl) (by kernel_rfl) (by exact fun _ _ _ _ h => h) (V.slice Try.underlying34 isz39 rfl (by (first | exact Lo.none | exact Lo.some rfl (by (repeat (first | exact IsN.auto | with_reducible apply IsN.add | with_reducible apply IsN.sub | with_reducible apply IsN.mul | with_reducible apply IsN.div | with_reducible apply IsN.mod | with_reducible apply IsN.min | with_reducible apply IsN.max | (with_reducible show (_ : Nat) ≤ _; omega) | exact IsN.toNat (by omega)))))) (by (first | exact Up.none | exact Up.some rfl (by (repeat (first | exact IsN.auto | with_reducible apply IsN.add | with_reducible apply IsN.sub | with_reducible apply IsN.mul | with_reducible apply IsN.div | with_reducible apply IsN.mod | with_reducible apply IsN.min | with_reducible apply IsN.max | (with_reducible show (_ : Nat) ≤ _; omega) | exact IsN.toNat (by omega)))))) (by omega) (by omega)) rfl ?_)
    go_step
    first | (refine takeV 4 _ (by (repeat (first | with_reducible exact AtL.head | apply AtL.tail))) (by kernel_rfl) (by kernel_rfl) (by kernel_rfl) (by exact fun _ _ _ _ h => h) (V.build (vs := []) rfl (bl39_)) rfl ?_)
    go_step
    refine takeM 7 _ (by (repeat (first | with_reducible exact AtL.head | apply AtL.tail))) (by kernel_rfl) (by kernel_rfl) (by kernel_rfl) (by exact fun _ _ _ _ h => h) rfl ?_
    go_step
    refine takeM 8 _ (by (repeat (first | with_reducible exact AtL.head | apply AtL.tail))) (by kernel_rfl) (by kernel_rfl) (by kernel_rfl) (by exact fun _ _ _ _ h => h) rfl ?_
    go_step
    first | (refine takeV 9 _ (by (repeat (first | with_reducible exact AtL.head | apply AtL.tail))) (by kernel_rfl) (by kernel_rfl) (by kernel_rfl) (by exact fun _ _ _ _ h => h) (V.slice Try.underlying34 isz39 rfl (by (first | exact Lo.none | exact Lo.some rfl (by (repeat (first | exact IsN.auto | with_reducible apply IsN.add | with_reducible apply IsN.sub | with_reducible apply IsN.mul | with_reducible apply IsN.div | with_reducible apply IsN.mod | with_reducible apply IsN.min | with_reducible apply IsN.max | (with_reducible show (_ : Nat) ≤ _; omega) | exact IsN.toNat (by omega)))))) (by (first | exact Up.none | exact Up.some rfl (by (repeat (first | exact IsN.auto | with_reducible apply IsN.add | with_reducible apply IsN.sub | with_reducible apply IsN.mul | with_reducible apply IsN.div | with_reducible apply IsN.mod | with_reducible apply IsN.min | with_reducible apply IsN.max | (with_reducible show (_ : Nat) ≤ _; omega) | exact IsN.toNat (by omega)))))) (by omega) (by omega)) rfl ?_)
    go_step
    refine branch [3, 5] (by kernel_rfl) (by simp) (.cons (by (repeat (first | with_reducible exact AtL.head | apply AtL.tail))) rfl ?_ (.cons (by (repeat (first | with_reducible exact AtL.head | apply AtL.tail))) rfl ?_ (.nil)))
    rotate_left 1
    focus
      first | (refine wp_buildSlice1 (o := ⟨some 34, _, _, _, _, _⟩) hS 34 1 _ rfl 39 2 16 el34 _ _ (by (repeat (first | exact Parts.nil | (apply Parts.agg; (rfl); (rfl)) | (apply Parts.one; (first | exact IsV.int rfl | exact IsV.bool rfl | exact IsV.slice rfl | exact IsV.pointer rfl | exact IsV.string rfl | exact IsV.map rfl | exact IsV.func rfl); (rfl); (rfl))))) (by rfl) (by decide) (by decide) ?_; clear hS; intro g34 w hS; simp only [List.cons_append, List.nil_append] at hS)
      refine ⟨fun _ h => h, ?_⟩
      refine drawn_move ?_
      go_step
      refine branch1 3 (by (repeat (first | with_reducible exact AtL.head | apply AtL.tail))) rfl (by kernel_rfl) ?_
      first | (refine wp_append (o := ⟨some 32, _, _, _, _, _⟩) hS _ _ 34 rfl 39 2 16 el34 _ _ _ _ rfl (by (repeat (first | with_reducible exact Pull.head | apply Pull.tail))) _ rfl _ _ (by (first | exact hS.slBlk (by (repeat (first | with_reducible exact Pull.head | apply Pull.tail))) (by rfl) (by decide) | exact hS.sl (by (repeat (first | with_reducible exact Pull.head | apply Pull.tail))) | with_reducible assumption | exact Sl.ext (by with_reducible assumption) hS.1 | exact Sl.nil _ _ | exact Sl.ext (by assumption) hS.1)) (by (first | exact oneAll rfl | exact oneMap _ _ | (intro u hu; cases hu))) (by unfold maxLen; omega) (by omega) ?_; clear hS; intro ad32 c32 w hS; (first | simp only [mapk1] at hS | simp only [mapk2] at hS | simp only [mapk3] at hS | simp only [mapk4] at hS | simp only [mapkl] at hS | skip)) | (refine wp_append (o := ⟨some 32, _, _, _, _, _⟩) (hS.nilk 39 2 .i64) _ _ 34 rfl 39 2 16 el34 _ _ _ _ rfl (by (repeat (first | with_reducible exact Pull.head | apply Pull.tail))) _ rfl _ _ (by (first | exact hS.slBlk (by (repeat (first | with_reducible exact Pull.head | apply Pull.tail))) (by rfl) (by decide) | exact hS.sl (by (repeat (first | with_reducible exact Pull.head | apply Pull.tail))) | with_reducible assumption | exact Sl.ext (by with_reducible assumption) hS.1 | exact Sl.nil _ _ | exact Sl.ext (by assumption) hS.1)) (by (first | exact oneAll rfl | exact oneMap _ _ | (intro u hu; cases hu))) (by unfold maxLen; omega) (by omega) ?_; clear hS; intro ad32 c32 w hS; (first | simp only [mapk1] at hS | simp only [mapk2] at hS | simp only [mapk3] at hS | simp only [mapk4] at hS | simp only [mapkl] at hS | skip))
      refine ⟨fun _ h => h, ?_⟩
      refine drawn_move ?_
      go_step
      refine branch1 6 (by (repeat (first | with_reducible exact AtL.head | apply AtL.tail))) rfl (by kernel_rfl) ?_
      first | (refine wp_append (o := ⟨some 35, _, _, _, _, _⟩) hS _ _ 34 rfl 39 2 16 el34 _ _ _ _ rfl (by (repeat (first | with_reducible exact Pull.head | apply Pull.tail))) _ rfl _ _ (by (first | exact hS.slBlk (by (repeat (first | with_reducible exact Pull.head | apply Pull.tail))) (by rfl) (by decide) | exact hS.sl (by (repeat (first | with_reducible exact Pull.head | apply Pull.tail))) | with_reducible assumption | exact Sl.ext (by with_reducible assumption) hS.1 | exact Sl.nil _ _ | exact Sl.ext (by assumption) hS.1)) (by (first | exact oneAll rfl | exact oneMap _ _ | (intro u hu; cases hu))) (by unfold maxLen; omega) (by omega) ?_; clear hS; intro ad35 c35 w hS; (first | simp only [mapk1] at hS | simp only [mapk2] at hS | simp only [mapk3] at hS | simp only [mapk4] at hS | simp only [mapkl] at hS | skip)) | (refine wp_append (o := ⟨some 35, _, _, _, _, _⟩) (hS.nilk 39 2 .i64) _ _ 34 rfl 39 2 16 el34 _ _ _ _ rfl (by (repeat (first | with_reducible exact Pull.head | apply Pull.tail))) _ rfl _ _ (by (first | exact hS.slBlk (by (repeat (first | with_reducible exact Pull.head | apply Pull.tail))) (by rfl) (by decide) | exact hS.sl (by (repeat (first | with_reducible exact Pull.head | apply Pull.tail))) | with_reducible assumption | exact Sl.ext (by with_reducible assumption) hS.1 | exact Sl.nil _ _ | exact Sl.ext (by assumption) hS.1)) (by (first | exact oneAll rfl | exact oneMap _ _ | (intro u hu; cases hu))) (by unfold maxLen; omega) (by omega) ?_; clear hS; intro ad35 c35 w hS; (first | simp only [mapk1] at hS | simp only [mapk2] at hS | simp only [mapk3] at hS | simp only [mapk4] at hS | simp only [mapkl] at hS | skip))
      refine ⟨fun _ h => h, ?_⟩
      refine drawn_move ?_
      go_step
      refine branch1 10 (by (repeat (first | with_reducible exact AtL.head | apply AtL.tail))) rfl (by kernel_rfl) ?_
      first | (refine wp_append (o := ⟨some 39, _, _, _, _, _⟩) hS _ _ 34 rfl 39 2 16 el34 _ _ _ _ rfl (by (repeat (first | with_reducible exact Pull.head | apply Pull.tail))) _ rfl _ _ (by (first | exact hS.slBlk (by (repeat (first | with_reducible exact Pull.head | apply Pull.tail))) (by rfl) (by decide) | exact hS.sl (by (repeat (first | with_reducible exact Pull.head | apply Pull.tail))) | with_reducible assumption | exact Sl.ext (by with_reducible assumption) hS.1 | exact Sl.nil _ _ | exact Sl.ext (by assumption) hS.1)) (by (first | exact oneAll rfl | exact oneMap _ _ | (intro u hu; cases hu))) (by unfold maxLen; omega) (by omega) ?_; clear hS; intro ad39 c39 w hS; (first | simp only [mapk1] at hS | simp only [mapk2] at hS | simp only [mapk3] at hS | simp only [mapk4] at hS | simp only [mapkl] at hS | skip)) | (refine wp_append (o := ⟨some 39, _, _, _, _, _⟩) (hS.nilk 39 2 .i64) _ _ 34 rfl 39 2 16 el34 _ _ _ _ rfl (by (repeat (first | with_reducible exact Pull.head | apply Pull.tail))) _ rfl _ _ (by (first | exact hS.slBlk (by (repeat (first | with_reducible exact Pull.head | apply Pull.tail))) (by rfl) (by decide) | exact hS.sl (by (repeat (first | with_reducible exact Pull.head | apply Pull.tail))) | with_reducible assumption | exact Sl.ext (by with_reducible assumption) hS.1 | exact Sl.nil _ _ | exact Sl.ext (by assumption) hS.1)) (by (first | exact oneAll rfl | exact oneMap _ _ | (intro u hu; cases hu))) (by unfold maxLen; omega) (by omega) ?_; clear hS; intro ad39 c39 w hS; (first | simp only [mapk1] at hS | simp only [mapk2] at hS | simp only [mapk3] at hS | simp only [mapk4] at hS | simp only [mapkl] at hS | skip))
      refine ⟨fun _ h => h, ?_⟩
      refine drawn_move ?_
      go_step
      refine branch1 11 (by (repeat (first | with_reducible exact AtL.head | apply AtL.tail))) rfl (by kernel_rfl) ?_
      have hSl : Sl w 2 (.slice ad39 (0 + (k - 0) + 1 + (n - k)) c39) (0 + (k - 0) + 1 + (n - k)) (List.map (Value.int .i64) (noneL ns k)) := (by have h8 := hS.sl (a := ad39) (s := 2) (by (repeat (first | with_reducible exact Pull.head | apply Pull.tail))); exact h8); refine wp_callF (f := 22) rfl Try.call22 (write_any _ _ (0 + (k - 0) + 1 + (n - k)) (noneL ns k) hSl S1.out) ?_; clear hSl; rintro e w ⟨ad3, c3, rfl, hS2⟩; rw [HF.out, HB2.out]; rw [HB2.out] at hS2; replace hS := hS.call1 hS2; clear hS2; refine ⟨_, rfl, ?_⟩
      refine ⟨fun _ h => h, ?_⟩
      refine drawn_move ?_
      go_step
      refine takeM 12 _ (by (repeat (first | with_reducible exact AtL.head | apply AtL.tail))) (by kernel_rfl) (by kernel_rfl) (by kernel_rfl) (by exact fun _ _ _ _ h => h) rfl ?_
      go_step
      first | (refine takeV 13 _ (by (repeat (first | with_reducible exact AtL.head | apply AtL.tail))) (by kernel_rfl) (by kernel_rfl) (by kernel_rfl) (by exact fun _ _ _ _ h => h) (V.extract rfl rfl) rfl ?_)
      go_step
      first | (refine takeV 14 _ (by (repeat (first | with_reducible exact AtL.head | apply AtL.tail))) (by kernel_rfl) (by kernel_rfl) (by kernel_rfl) (by exact fun _ _ _ _ h => h) (V.extract rfl rfl) rfl ?_)
      go_step
      refine takeA 15 _ (by (repeat (first | with_reducible exact AtL.head | apply AtL.tail))) (by kernel_rfl) (by kernel_rfl) (by kernel_rfl) (by exact fun _ _ _ _ h => h) rfl ?_
      go_step
      refine takeA 16 _ (by (repeat (first | with_reducible exact AtL.head | apply AtL.tail))) (by kernel_rfl) (by kernel_rfl) (by kernel_rfl) (by exact fun _ _ _ _ h => h) rfl ?_
      go_step
      refine drawn_done (by kernel_rfl) ?_ _
    rotate_right 1
    focus
      first | (refine wp_append (o := ⟨some 32, _, _, _, _, _⟩) hS _ _ 34 rfl 39 2 16 el34 _ _ _ _ rfl (by (repeat (first | with_reducible exact Pull.head | apply Pull.tail))) _ rfl _ _ (by (first | exact hS.slBlk (by (repeat (first | with_reducible exact Pull.head | apply Pull.tail))) (by rfl) (by decide) | exact hS.sl (by (repeat (first | with_reducible exact Pull.head | apply Pull.tail))) | with_reducible assumption | exact Sl.ext (by with_reducible assumption) hS.1 | exact Sl.nil _ _ | exact Sl.ext (by assumption) hS.1)) (by (first | exact oneAll rfl | exact oneMap _ _ | (intro u hu; cases hu))) (by unfold maxLen; omega) (by omega) ?_; clear hS; intro ad32 c32 w hS; (first | simp only [mapk1] at hS | simp only [mapk2] at hS | simp only [mapk3] at hS | simp only [mapk4] at hS | simp only [mapkl] at hS | skip)) | (refine wp_append (o := ⟨some 32, _, _, _, _, _⟩) (hS.nilk 39 2 .i64) _ _ 34 rfl 39 2 16 el34 _ _ _ _ rfl (by (repeat (first | with_reducible exact Pull.head | apply Pull.tail))) _ rfl _ _ (by (first | exact hS.slBlk (by (repeat (first | with_reducible exact Pull.head | apply Pull.tail))) (by rfl) (by decide) | exact hS.sl (by (repeat (first | with_reducible exact Pull.head | apply Pull.tail))) | with_reducible assumption | exact Sl.ext (by with_reducible assumption) hS.1 | exact Sl.nil _ _ | exact Sl.ext (by assumption) hS.1)) (by (first | exact oneAll rfl | exact oneMap _ _ | (intro u hu; cases hu))) (by unfold maxLen; omega) (by omega) ?_; clear hS; intro ad32 c32 w hS; (first | simp only [mapk1] at hS | simp only [mapk2] at hS | simp only [mapk3] at hS | simp only [mapk4] at hS | simp only [mapkl] at hS | skip))
      refine ⟨fun _ h => h, ?_⟩
      refine drawn_move ?_
      go_step
      refine branch1 5 (by (repeat (first | with_reducible exact AtL.head | apply AtL.tail))) rfl (by kernel_rfl) ?_
      first | (refine wp_buildSlice1 (o := ⟨some 34, _, _, _, _, _⟩) hS 34 1 _ rfl 39 2 16 el34 _ _ (by (repeat (first | exact Parts.nil | (apply Parts.agg; (rfl); (rfl)) | (apply Parts.one; (first | exact IsV.int rfl | exact IsV.bool rfl | exact IsV.slice rfl | exact IsV.pointer rfl | exact IsV.string rfl | exact IsV.map rfl | exact IsV.func rfl); (rfl); (rfl))))) (by rfl) (by decide) (by decide) ?_; clear hS; intro g34 w hS; simp only [List.cons_append, List.nil_append] at hS)
      refine ⟨fun _ h => h, ?_⟩
      refine drawn_move ?_
      go_step
      refine branch1 6 (by (repeat (first | with_reducible exact AtL.head | apply AtL.tail))) rfl (by kernel_rfl) ?_
      first | (refine wp_append (o := ⟨some 35, _, _, _, _, _⟩) hS _ _ 34 rfl 39 2 16 el34 _ _ _ _ rfl (by (repeat (first | with_reducible exact Pull.head | apply Pull.tail))) _ rfl _ _ (by (first | exact hS.slBlk (by (repeat (first | with_reducible exact Pull.head | apply Pull.tail))) (by rfl) (by decide) | exact hS.sl (by (repeat (first | with_reducible exact Pull.head | apply Pull.tail))) | with_reducible assumption | exact Sl.ext (by with_reducible assumption) hS.1 | exact Sl.nil _ _ | exact Sl.ext (by assumption) hS.1)) (by (first | exact oneAll rfl | exact oneMap _ _ | (intro u hu; cases hu))) (by unfold maxLen; omega) (by omega) ?_; clear hS; intro ad35 c35 w hS; (first | simp only [mapk1] at hS | simp only [mapk2] at hS | simp only [mapk3] at hS | simp only [mapk4] at hS | simp only [mapkl] at hS | skip)) | (refine wp_append (o := ⟨some 35, _, _, _, _, _⟩) (hS.nilk 39 2 .i64) _ _ 34 rfl 39 2 16 el34 _ _ _ _ rfl (by (repeat (first | with_reducible exact Pull.head | apply Pull.tail))) _ rfl _ _ (by (first | exact hS.slBlk (by (repeat (first | with_reducible exact Pull.head | apply Pull.tail))) (by rfl) (by decide) | exact hS.sl (by (repeat (first | with_reducible exact Pull.head | apply Pull.tail))) | with_reducible assumption | exact Sl.ext (by with_reducible assumption) hS.1 | exact Sl.nil _ _ | exact Sl.ext (by assumption) hS.1)) (by (first | exact oneAll rfl | exact oneMap _ _ | (intro u hu; cases hu))) (by unfold maxLen; omega) (by omega) ?_; clear hS; intro ad35 c35 w hS; (first | simp only [mapk1] at hS | simp only [mapk2] at hS | simp only [mapk3] at hS | simp only [mapk4] at hS | simp only [mapkl] at hS | skip))
      refine ⟨fun _ h => h, ?_⟩
      refine drawn_move ?_
      go_step
      refine branch1 10 (by (repeat (first | with_reducible exact AtL.head | apply AtL.tail))) rfl (by kernel_rfl) ?_
      first | (refine wp_append (o := ⟨some 39, _, _, _, _, _⟩) hS _ _ 34 rfl 39 2 16 el34 _ _ _ _ rfl (by (repeat (first | with_reducible exact Pull.head | apply Pull.tail))) _ rfl _ _ (by (first | exact hS.slBlk (by (repeat (first | with_reducible exact Pull.head | apply Pull.tail))) (by rfl) (by decide) | exact hS.sl (by (repeat (first | with_reducible exact Pull.head | apply Pull.tail))) | with_reducible assumption | exact Sl.ext (by with_reducible assumption) hS.1 | exact Sl.nil _ _ | exact Sl.ext (by assumption) hS.1)) (by (first | exact oneAll rfl | exact oneMap _ _ | (intro u hu; cases hu))) (by unfold maxLen; omega) (by omega) ?_; clear hS; intro ad39 c39 w hS; (first | simp only [mapk1] at hS | simp only [mapk2] at hS | simp only [mapk3] at hS | simp only [mapk4] at hS | simp only [mapkl] at hS | skip)) | (refine wp_append (o := ⟨some 39, _, _, _, _, _⟩) (hS.nilk 39 2 .i64) _ _ 34 rfl 39 2 16 el34 _ _ _ _ rfl (by (repeat (first | with_reducible exact Pull.head | apply Pull.tail))) _ rfl _ _ (by (first | exact hS.slBlk (by (repeat (first | with_reducible exact Pull.head | apply Pull.tail))) (by rfl) (by decide) | exact hS.sl (by (repeat (first | with_reducible exact Pull.head | apply Pull.tail))) | with_reducible assumption | exact Sl.ext (by with_reducible assumption) hS.1 | exact Sl.nil _ _ | exact Sl.ext (by assumption) hS.1)) (by (first | exact oneAll rfl | exact oneMap _ _ | (intro u hu; cases hu))) (by unfold maxLen; omega) (by omega) ?_; clear hS; intro ad39 c39 w hS; (first | simp only [mapk1] at hS | simp only [mapk2] at hS | simp only [mapk3] at hS | simp only [mapk4] at hS | simp only [mapkl] at hS | skip))
      refine ⟨fun _ h => h, ?_⟩
      refine drawn_move ?_
      go_step
      refine branch1 11 (by (repeat (first | with_reducible exact AtL.head | apply AtL.tail))) rfl (by kernel_rfl) ?_
      have hSl : Sl w 2 (.slice ad39 (0 + (k - 0) + 1 + (n - k)) c39) (0 + (k - 0) + 1 + (n - k)) (List.map (Value.int .i64) (noneL ns k)) := (by have h8 := hS.sl (a := ad39) (s := 2) (by (repeat (first | with_reducible exact Pull.head | apply Pull.tail))); exact h8); refine wp_callF (f := 22) rfl Try.call22 (write_any _ _ (0 + (k - 0) + 1 + (n - k)) (noneL ns k) hSl S1.out) ?_; clear hSl; rintro e w ⟨ad3, c3, rfl, hS2⟩; rw [HF.out, HB2.out]; rw [HB2.out] at hS2; replace hS := hS.call1 hS2; clear hS2; refine ⟨_, rfl, ?_⟩
      refine ⟨fun _ h => h, ?_⟩
      refine drawn_move ?_
      go_step
      refine takeM 12 _ (by (repeat (first | with_reducible exact AtL.head | apply AtL.tail))) (by kernel_rfl) (by kernel_rfl) (by kernel_rfl) (by exact fun _ _ _ _ h => h) rfl ?_
      go_step
      first | (refine takeV 13 _ (by (repeat (first | with_reducible exact AtL.head | apply AtL.tail))) (by kernel_rfl) (by kernel_rfl) (by kernel_rfl) (by exact fun _ _ _ _ h => h) (V.extract rfl rfl) rfl ?_)
      go_step
      first | (refine takeV 14 _ (by (repeat (first | with_reducible exact AtL.head | apply AtL.tail))) (by kernel_rfl) (by kernel_rfl) (by kernel_rfl) (by exact fun _ _ _ _ h => h) (V.extract rfl rfl) rfl ?_)
      go_step
      refine takeA 15 _ (by (repeat (first | with_reducible exact AtL.head | apply AtL.tail))) (by kernel_rfl) (by kernel_rfl) (by kernel_rfl) (by exact fun _ _ _ _ h => h) rfl ?_
      go_step
      refine takeA 16 _ (by (repeat (first | with_reducible exact AtL.head | apply AtL.tail))) (by kernel_rfl) (by kernel_rfl) (by kernel_rfl) (by exact fun _ _ _ _ h => h) rfl ?_
      go_step
      refine drawn_done (by kernel_rfl) ?_ _
  all_goals
    repeat' (first
      | ((with_reducible show wpList _ _ _ (⟨some 48, _, _, _, _, _⟩ :: _) _ _); refine wpl_call (f := 22) Try.call22 rfl ?_; refine ⟨_, (write_any _ _ (0 + n + m) (ns ++ ms) (show Sl _ 2 _ _ (List.map (Value.int .i64) ([] ++ ns ++ ms)) from hS.sl (s := 2) (by (repeat (first | with_reducible exact Pull.head | apply Pull.tail)))) S2.out), ?_⟩; rintro e w ⟨ad4, c4, rfl, hS2⟩; rw [HG.out, HC.out]; rw [HC.out] at hS2; replace hS := hS.call1 hS2; clear hS2; refine ⟨_, rfl, ?_⟩; refine put_move ?_; go_step)
      | go_skip
      | go_big_skip
      | ((with_reducible show wpList _ _ _ (⟨_, .move _, _, _, _, _⟩ :: _) _ _); (first | go_big_want | go_step); go_step)
      | ((with_reducible show wpList _ _ _ (⟨_, .assign _, _, _, _, _⟩ :: _) _ _); (first | go_big_want | go_step); go_step)
      | ((with_reducible show wpList _ _ _ (⟨_, .pick _ _ _, _, _, _, _⟩ :: _) _ _); first | (refine wplPickT rfl (by kernel_rfl) ?_; go_step) | (refine wplPickF rfl (by kernel_rfl) ?_; go_step))
      | ((with_reducible show wpList _ _ _ (⟨some 52, .binOp .neq 25 _ _ _, _, _, _, _⟩ :: _) _ _); first | (refine wplD _ (V.neq rfl rfl) (by kernel_rfl) (fun hB => ?_) (fun hB => ?_) <;> (try (have hF : False := (by omega); cases hF)) <;> go_step) | (refine wplB _ (V.neq rfl rfl) (by kernel_rfl) (fun hB => ?_) (fun hB => ?_) <;> go_step))
      | ((with_reducible show wpList _ _ _ (⟨some 55, .binOp .neq 25 _ _ _, _, _, _, _⟩ :: _) _ _); first | (refine wplD _ (V.neq rfl rfl) (by kernel_rfl) (fun hB => ?_) (fun hB => ?_) <;> (try (have hF : False := (by omega); cases hF)) <;> go_step) | (refine wplB _ (V.neq rfl rfl) (by kernel_rfl) (fun hB => ?_) (fun hB => ?_) <;> go_step))
      | ((with_reducible show wpList _ _ _ (⟨some 62, .binOp .neq 25 _ _ _, _, _, _, _⟩ :: _) _ _); first | (refine wplD _ (V.neq rfl rfl) (by kernel_rfl) (fun hB => ?_) (fun hB => ?_) <;> (try (have hF : False := (by omega); cases hF)) <;> go_step) | (refine wplB _ (V.neq rfl rfl) (by kernel_rfl) (fun hB => ?_) (fun hB => ?_) <;> go_step))
      | ((with_reducible show wpList _ _ _ (⟨some 65, .binOp .neq 25 _ _ _, _, _, _, _⟩ :: _) _ _); first | (refine wplD _ (V.neq rfl rfl) (by kernel_rfl) (fun hB => ?_) (fun hB => ?_) <;> (try (have hF : False := (by omega); cases hF)) <;> go_step) | (refine wplB _ (V.neq rfl rfl) (by kernel_rfl) (fun hB => ?_) (fun hB => ?_) <;> go_step))
      | ((with_reducible show wpList _ _ _ (⟨some 69, .binOp .eql 3 _ _ _, _, _, _, _⟩ :: _) _ _); first | (refine wplD _ (V.eql rfl rfl) (by kernel_rfl) (fun hB => ?_) (fun hB => ?_) <;> (try (have hF : False := (by omega); cases hF)) <;> go_step) | (refine wplB _ (V.eql rfl rfl) (by kernel_rfl) (fun hB => ?_) (fun hB => ?_) <;> go_step))
      | ((with_reducible show wpList _ _ _ (⟨_, .extract _ _, _, _, _, _⟩ :: _) _ _); first | (refine wplV _ (V.extract rfl rfl) (by kernel_rfl) ?_; go_step))
      | ((with_reducible show wpList _ _ _ (⟨_, .binOp .neq 25 _ _ _, _, _, _, _⟩ :: _) _ _); first | (refine wplV _ (V.neq rfl rfl) (by kernel_rfl) ?_; go_step))
      | ((with_reducible show wpList _ _ _ (⟨_, .call ⟨.builtin .len, _, _⟩, _, _, _, _⟩ :: _) _ _); first | (refine wplV _ (V.len Try.underlying34 rfl) (by kernel_rfl) ?_; go_step))
      | ((with_reducible show wpList _ _ _ (⟨some 45, .call ⟨.builtin .append, _, _⟩, _, _, _, _⟩ :: _) _ _); first | (refine wpl (by kernel_rfl) ?_; apply wp_append (o := ⟨some 45, _, _, _, _, _⟩) hS _ _ 34 rfl 39 2 16 el34 _ _ _ _ rfl; (case hp => (repeat (first | with_reducible exact Pull.head | apply Pull.tail))); (case hx => exact rfl); (case hm => (first | exact hS.slBlk (by (repeat (first | with_reducible exact Pull.head | apply Pull.tail))) (by rfl) (by decide) | exact hS.sl (by (repeat (first | with_reducible exact Pull.head | apply Pull.tail))) | with_reducible assumption | exact Sl.ext (by with_reducible assumption) hS.1 | exact Sl.nil _ _ | exact Sl.ext (by assumption) hS.1)); (case h1 => (first | exact oneAll rfl | exact oneMap _ _ | (intro u hu; cases hu))); (case h63 => unfold maxLen; omega); (case hb => omega); clear hS; intro ad45 c45 w hS; (first | simp only [mapk1] at hS | simp only [mapk2] at hS | simp only [mapk3] at hS | simp only [mapk4] at hS | simp only [mapkl] at hS | skip); refine put_move ?_; go_step) | (refine wpl (by kernel_rfl) ?_; apply wp_append (o := ⟨some 45, _, _, _, _, _⟩) (hS.nilk 39 2 .i64) _ _ 34 rfl 39 2 16 el34 _ _ _ _ rfl; (case hp => (repeat (first | with_reducible exact Pull.head | apply Pull.tail))); (case hx => exact rfl); (case hm => (first | exact hS.slBlk (by (repeat (first | with_reducible exact Pull.head | apply Pull.tail))) (by rfl) (by decide) | exact hS.sl (by (repeat (first | with_reducible exact Pull.head | apply Pull.tail))) | with_reducible assumption | exact Sl.ext (by with_reducible assumption) hS.1 | exact Sl.nil _ _ | exact Sl.ext (by assumption) hS.1)); (case h1 => (first | exact oneAll rfl | exact oneMap _ _ | (intro u hu; cases hu))); (case h63 => unfold maxLen; omega); (case hb => omega); clear hS; intro ad45 c45 w hS; (first | simp only [mapk1] at hS | simp only [mapk2] at hS | simp only [mapk3] at hS | simp only [mapk4] at hS | simp only [mapkl] at hS | skip); refine put_move ?_; go_step))
      | ((with_reducible show wpList _ _ _ (⟨some 47, .call ⟨.builtin .append, _, _⟩, _, _, _, _⟩ :: _) _ _); first | (refine wpl (by kernel_rfl) ?_; apply wp_append (o := ⟨some 47, _, _, _, _, _⟩) hS _ _ 34 rfl 39 2 16 el34 _ _ _ _ rfl; (case hp => (repeat (first | with_reducible exact Pull.head | apply Pull.tail))); (case hx => exact rfl); (case hm => (first | exact hS.slBlk (by (repeat (first | with_reducible exact Pull.head | apply Pull.tail))) (by rfl) (by decide) | exact hS.sl (by (repeat (first | with_reducible exact Pull.head | apply Pull.tail))) | with_reducible assumption | exact Sl.ext (by with_reducible assumption) hS.1 | exact Sl.nil _ _ | exact Sl.ext (by assumption) hS.1)); (case h1 => (first | exact oneAll rfl | exact oneMap _ _ | (intro u hu; cases hu))); (case h63 => unfold maxLen; omega); (case hb => omega); clear hS; intro ad47 c47 w hS; (first | simp only [mapk1] at hS | simp only [mapk2] at hS | simp only [mapk3] at hS | simp only [mapk4] at hS | simp only [mapkl] at hS | skip); refine put_move ?_; go_step) | (refine wpl (by kernel_rfl) ?_; apply wp_append (o := ⟨some 47, _, _, _, _, _⟩) (hS.nilk 39 2 .i64) _ _ 34 rfl 39 2 16 el34 _ _ _ _ rfl; (case hp => (repeat (first | with_reducible exact Pull.head | apply Pull.tail))); (case hx => exact rfl); (case hm => (first | exact hS.slBlk (by (repeat (first | with_reducible exact Pull.head | apply Pull.tail))) (by rfl) (by decide) | exact hS.sl (by (repeat (first | with_reducible exact Pull.head | apply Pull.tail))) | with_reducible assumption | exact Sl.ext (by with_reducible assumption) hS.1 | exact Sl.nil _ _ | exact Sl.ext (by assumption) hS.1)); (case h1 => (first | exact oneAll rfl | exact oneMap _ _ | (intro u hu; cases hu))); (case h63 => unfold maxLen; omega); (case hb => omega); clear hS; intro ad47 c47 w hS; (first | simp only [mapk1] at hS | simp only [mapk2] at hS | simp only [mapk3] at hS | simp only [mapk4] at hS | simp only [mapkl] at hS | skip); refine put_move ?_; go_step))
      | ((fail_if_success (with_reducible show wpList _ _ _ (_ :: _) _ _)); go_step))
  all_goals (try (have hF : False := (by omega); cases hF))
  all_goals (try (go_ret; first | exact ⟨rfl, hS.1⟩ | exact ⟨ret_bool (decide_eq_true (by omega)), hS.1⟩))
  all_goals
    have e0 : E = 0 := by omega
    have f0 : F = 0 := by omega
    have g0 : G = 0 := by omega
    have hBB : B2 = B := by
      rcases S3.out with h | h | h
      · exact absurd e0 h
      · exact h.2
      · exact absurd f0 h.1
    obtain ⟨h4, h5, h6⟩ : C.take ((fB ns).length / 8) = B.take ((fB ns).length / 8) ∧ (fB ns).length / 8 ≤ C.length ∧ (fB ns).length / 8 ≤ B.length := by
      rcases S4.out with h | h | h
      · exact absurd e0 h
      · exact absurd g0 h
      · exact h
    obtain ⟨hn2, hok⟩ := fsOk_of ns n (HE.out.trans e0)
    obtain ⟨T, hT⟩ : ∃ T, (fB ns).length = T := ⟨_, rfl⟩
    have hT2 : (fBits ns n).length = T := by rw [(write_spec ns n HL.out).2, hT]
    rw [hT] at h4 h5 h6
    have hT3 : T ≤ 24 * n := hT2 ▸ fBits_len ns n hok
    have H4 := hid h4
    have HT2 := hid hT2
    have HOK := hid hok
    subst hBB
    have cB := sl_cap (hS.sl (a := ad2) (s := 1) (by (repeat (first | with_reducible exact Pull.head | apply Pull.tail))))
    have cC := sl_cap (hS.sl (a := ad4) (s := 1) (by (repeat (first | with_reducible exact Pull.head | apply Pull.tail))))
    clear h4 hT hT2 hok S3 S4 T3
    go_loopg [13, 78] n (fun gk tv kv w => ∃ (k t : Nat), gk + k = n ∧ kv = .int .i64 k ∧ tv = .int .i64 t ∧ t = (fBits ns k).length ∧ St W w [own 5 1 ad2 B2.length c2 (bv B2), own 5 1 ad3 B2.length c3 (bv B2), own 5 1 ad4 C.length c4 (bv C)])
    case atStart => exact ⟨0, 0, rfl, rfl, rfl, rfl, hS.sub (by (repeat (first | exact Sub.nil | with_reducible exact Sub.refl | (refine Sub.cons (by (repeat (first | with_reducible exact Pull.head | apply Pull.tail))) ?_) | apply Sub.skip)))⟩
    case round =>
      clear hS
      obtain ⟨i, t, hi, rfl, rfl, ht, hS⟩ := hrel
      have HTk := hid ht
      clear ht
      by_cases hlt : i < n
      · obtain ⟨b, off, rfl, hr⟩ := field_at HL.out hv i hlt
        have hoki := HOK.out i hlt
        have hbk := fBits_len ns i fun j hj => HOK.out j (by omega)
        have hb2 := sum_fB ns n i HL.out hlt hoki
        simp only [fOk, Bool.and_eq_true, decide_eq_true_eq] at hoki
        have t24 : t ≤ 24 * n := by rw [HTk.out]; omega
        have HB3 := hid hb2
        obtain ⟨x, hx⟩ : ∃ x, nth ns (2 * i) = x := ⟨_, rfl⟩
        obtain ⟨y, hy⟩ : ∃ y, nth ns (2 * i + 1) = y := ⟨_, rfl⟩
        rw [hx, hy] at hr
        rw [hx] at HB3
        have hx24 : 0 ≤ x ∧ x ≤ 24 := by rw [← hx]; omega
        clear hx hy hoki hbk hb2
        repeat' (first
          | go_skip
          | go_big_skip
          | ((with_reducible show wpList _ _ _ (⟨_, .move _, _, _, _, _⟩ :: _) _ _); (first | go_big_want | go_step); go_step)
          | ((with_reducible show wpList _ _ _ (⟨_, .assign _, _, _, _, _⟩ :: _) _ _); (first | go_big_want | go_step); go_step)
          | ((with_reducible show wpList _ _ _ (⟨_, .pick _ _ _, _, _, _, _⟩ :: _) _ _); first | (refine wplPickT rfl (by kernel_rfl) ?_; go_step) | (refine wplPickF rfl (by kernel_rfl) ?_; go_step))
          | ((with_reducible show wpList _ _ _ (⟨_, .binOp .lss _ _ _ _, _, _, _, _⟩ :: _) _ _); first | (refine wplV _ (V.lss rfl rfl) (by kernel_rfl) ?_; go_step))
          | ((with_reducible show wpList _ _ _ (⟨some 80, .indexAddr 34 _ _, _, _, _, _⟩ :: _) _ _); first | (refine wplV _ (V.indexSl Try.underlying34 isz39 rfl rfl (by (repeat (first | exact IsN.auto | with_reducible apply IsN.add | with_reducible apply IsN.sub | with_reducible apply IsN.mul | with_reducible apply IsN.div | with_reducible apply IsN.mod | with_reducible apply IsN.min | with_reducible apply IsN.max | (with_reducible show (_ : Nat) ≤ _; omega) | exact IsN.toNat (by omega)))) (by omega) rfl (by first | with_reducible exact Nat.zero_add _ | with_reducible exact Nat.add_zero _ | exact rfl)) (by kernel_rfl) ?_; go_step) | (refine wpl_indexS (by with_reducible assumption) Try.underlying34 isz39 rfl rfl (by (repeat (first | exact IsN.auto | with_reducible apply IsN.add | with_reducible apply IsN.sub | with_reducible apply IsN.mul | with_reducible apply IsN.div | with_reducible apply IsN.mod | with_reducible apply IsN.min | with_reducible apply IsN.max | (with_reducible show (_ : Nat) ≤ _; omega) | exact IsN.toNat (by omega)))) (by omega) rfl ?_; intro b80 o80 hl80 hc80; go_step) | (refine wpl_indexW (by with_reducible assumption) Try.underlying34 isz39 rfl rfl (by (repeat (first | exact IsN.auto | with_reducible apply IsN.add | with_reducible apply IsN.sub | with_reducible apply IsN.mul | with_reducible apply IsN.div | with_reducible apply IsN.mod | with_reducible apply IsN.min | with_reducible apply IsN.max | (with_reducible show (_ : Nat) ≤ _; omega) | exact IsN.toNat (by omega)))) (by omega) rfl ?_; intro b80 o80 hc80; go_step) | (refine wpl_indexO hS rfl (by (repeat (first | with_reducible exact Pull.head | apply Pull.tail))) Try.underlying34 isz39 rfl (by (repeat (first | exact IsN.auto | with_reducible apply IsN.add | with_reducible apply IsN.sub | with_reducible apply IsN.mul | with_reducible apply IsN.div | with_reducible apply IsN.mod | with_reducible apply IsN.min | with_reducible apply IsN.max | (with_reducible show (_ : Nat) ≤ _; omega) | exact IsN.toNat (by omega)))) (by omega) rfl rfl ?_; (first | (rintro b80 rfl) | (intro b80 hb80; cases hb80)); go_step))
          | ((with_reducible show wpList _ _ _ (⟨_, .fieldAddr 39 _ 0, _, _, _, _⟩ :: _) _ _); first | (refine wplV _ (V.fieldAddr fo39_0 rfl (by first | with_reducible exact Nat.zero_add _ | with_reducible exact Nat.add_zero _ | exact rfl)) (by kernel_rfl) ?_; go_step))
          | ((with_reducible show wpList _ _ _ (⟨_, .binOp .add _ _ _ _, _, _, _, _⟩ :: _) _ _); first | (refine wplV _ (V.addI rfl rfl (by omega)) (by kernel_rfl) ?_; go_step) | (refine wplV _ (V.addR (by decide) rfl rfl) (by kernel_rfl) ?_; go_step))
          | ((with_reducible show wpList _ _ _ (⟨_, .load 39 _, _, _, _, _⟩ :: _) _ _); first | (refine wpl (by kernel_rfl) ?_; apply wp_loadRI hS 39 _ rfl _ _ rfl 2 (row_of rfl) _; (case hl => with_reducible assumption); (case hr => with_reducible assumption); refine put_move ?_; go_step) | (refine wpl (by kernel_rfl) ?_; apply wp_loadRO hS 39 _ rfl _ _ rfl 2 (row_of rfl) _ _ _ _ _; (case hp => (repeat (first | with_reducible exact Pull.head | apply Pull.tail))); (case hi => omega); refine put_move ?_; go_step) | (refine wpl (by kernel_rfl) ?_; apply wp_loadA hS 39 _ rfl _ rfl 2 (row_of rfl) _; (case hp => (repeat (first | with_reducible exact Pull.head | apply Pull.tail))); refine put_move ?_; go_step) | (refine wpl (by kernel_rfl) ?_; apply wp_loadG hS 39 _ rfl _ rfl 2 (row_of rfl) _; (case hp => (repeat (first | with_reducible exact Pull.head | apply Pull.tail))); (case hn => rfl); refine put_move ?_; go_step) | (refine wpl (by kernel_rfl) ?_; apply wp_loadRW hS 39 _ rfl _ _ rfl 2 (row_of rfl) _; (case hc => with_reducible assumption); (case hn => rfl); refine put_move ?_; go_step))
          | ((with_reducible show wpList _ _ _ (⟨some 15, .alloc 39, _, _, _, _⟩ :: _) _ _); first | (refine wpl (by kernel_rfl) ?_; apply wp_alloc (o := ⟨some 15, _, _, _, _, _⟩) hS 39 rfl (.agg #[.int .i64 0, .int .i64 0]) [.int .i64 0, .int .i64 0] (fun w => Try.zeroValue39 w) rfl; clear hS; intro g15 w hS; refine put_move ?_; go_step))
          | ((with_reducible show wpList _ _ _ (⟨_, .store 39 _ _, _, _, _, _⟩ :: _) _ _); first | (refine wpl (by kernel_rfl) ?_; apply wp_storeA hS 39 _ _ rfl _ rfl 2 (row_of rfl) _ _; (case hp => (repeat (first | with_reducible exact Pull.head | apply Pull.tail))); (case hy => rfl); (case hm => (repeat (first | assumption | exact Len.rep | apply Len.set))); (case hd => exact rfl); clear hS; intro w hS) | (refine wpl (by kernel_rfl) ?_; apply wp_storeG hS 39 _ _ rfl _ rfl 2 (row_of rfl) _ _; (case hp => (repeat (first | with_reducible exact Pull.head | apply Pull.tail))); (case hy => rfl); (case hn => rfl); (case hn' => rfl); (case hv => rfl); (case hd => exact rfl); clear hS; intro w hS))
          | ((with_reducible show wpList _ _ _ (⟨_, .load 3 _, _, _, _, _⟩ :: _) _ _); first | (refine wpl (by kernel_rfl) ?_; apply wp_load1A hS 3 _ rfl _ _ rfl (one_of rfl) _ _; (case hp => (repeat (first | with_reducible exact Pull.head | apply Pull.tail))); (case hi => omega); refine put_move ?_; go_step) | (refine wpl (by kernel_rfl) ?_; apply wp_load1OI hS 3 _ rfl _ _ rfl (one_of rfl) _ _ _ _ _; (case hp => (repeat (first | with_reducible exact Pull.head | apply Pull.tail))); (case hi => omega); refine put_move ?_; go_step) | (refine wpl (by kernel_rfl) ?_; apply wp_load1 hS 3 _ rfl _ _ rfl (one_of rfl) _; (case hp => (repeat (first | with_reducible exact Pull.head | apply Pull.tail))); (case hc => rfl); refine put_move ?_; go_step) | (refine wpl (by kernel_rfl) ?_; apply wp_load1O hS 3 _ rfl _ _ rfl (one_of rfl) _ _ _ _ _; (case hp => (repeat (first | with_reducible exact Pull.head | apply Pull.tail))); (case hv => with_reducible assumption); refine put_move ?_; go_step) | (refine wpl (by kernel_rfl) ?_; apply wp_loadW hS 3 _ rfl _ rfl (one_of rfl) _; (case hc => with_reducible assumption); refine put_move ?_; go_step) | (refine wpl (by kernel_rfl) ?_; apply wp_load1R hS 3 _ rfl _ _ _ rfl (one_of rfl) _ _; (case hl => with_reducible assumption); (case hr => with_reducible assumption); (case hf => omega); refine put_move ?_; go_step) | (refine wpl (by kernel_rfl) ?_; apply wp_load1R0 hS 3 _ rfl _ _ rfl (one_of rfl) _ _; (case hl => with_reducible assumption); (case hr => with_reducible assumption); (case hf => omega); refine put_move ?_; go_step))
          | ((fail_if_success (with_reducible show wpList _ _ _ (_ :: _) _ _)); go_step))
        go_roundg (gk - 1)
        case measure => omega
        case rel =>
          obtain ⟨x', rfl⟩ : ∃ x' : Nat, x = (x' : Int) := ⟨x.toNat, by omega⟩
          exact ⟨i + 1, t + x', by omega, by go_num, by go_num, by rw [HB3.out, HTk.out]; rfl, hS.sub (by (repeat (first | exact Sub.nil | with_reducible exact Sub.refl | (refine Sub.cons (by (repeat (first | with_reducible exact Pull.head | apply Pull.tail))) ?_) | apply Sub.skip)))⟩
      · obtain rfl : i = n := by omega
        have hTT : t = T := HTk.out.trans HT2.out
        subst hTT
        have ht8 : t / 8 ≤ B2.length := h6
        have ht9 : t / 8 ≤ C.length := h5
        repeat' (first
          | go_skip
          | go_big_skip
          | ((with_reducible show wpList _ _ _ (⟨_, .move _, _, _, _, _⟩ :: _) _ _); (first | go_big_want | go_step); go_step)
          | ((with_reducible show wpList _ _ _ (⟨_, .assign _, _, _, _, _⟩ :: _) _ _); (first | go_big_want | go_step); go_step)
          | ((with_reducible show wpList _ _ _ (⟨_, .pick _ _ _, _, _, _, _⟩ :: _) _ _); first | (refine wplPickT rfl (by kernel_rfl) ?_; go_step) | (refine wplPickF rfl (by kernel_rfl) ?_; go_step))
          | ((with_reducible show wpList _ _ _ (⟨_, .binOp .lss _ _ _ _, _, _, _, _⟩ :: _) _ _); first | (refine wplV _ (V.lss rfl rfl) (by kernel_rfl) ?_; go_step))
          | ((with_reducible show wpList _ _ _ (⟨some 80, .indexAddr 34 _ _, _, _, _, _⟩ :: _) _ _); first | (refine wplV _ (V.indexSl Try.underlying34 isz39 rfl rfl (by (repeat (first | exact IsN.auto | with_reducible apply IsN.add | with_reducible apply IsN.sub | with_reducible apply IsN.mul | with_reducible apply IsN.div | with_reducible apply IsN.mod | with_reducible apply IsN.min | with_reducible apply IsN.max | (with_reducible show (_ : Nat) ≤ _; omega) | exact IsN.toNat (by omega)))) (by omega) rfl (by first | with_reducible exact Nat.zero_add _ | with_reducible exact Nat.add_zero _ | exact rfl)) (by kernel_rfl) ?_; go_step) | (refine wpl_indexS (by with_reducible assumption) Try.underlying34 isz39 rfl rfl (by (repeat (first | exact IsN.auto | with_reducible apply IsN.add | with_reducible apply IsN.sub | with_reducible apply IsN.mul | with_reducible apply IsN.div | with_reducible apply IsN.mod | with_reducible apply IsN.min | with_reducible apply IsN.max | (with_reducible show (_ : Nat) ≤ _; omega) | exact IsN.toNat (by omega)))) (by omega) rfl ?_; intro b80 o80 hl80 hc80; go_step) | (refine wpl_indexW (by with_reducible assumption) Try.underlying34 isz39 rfl rfl (by (repeat (first | exact IsN.auto | with_reducible apply IsN.add | with_reducible apply IsN.sub | with_reducible apply IsN.mul | with_reducible apply IsN.div | with_reducible apply IsN.mod | with_reducible apply IsN.min | with_reducible apply IsN.max | (with_reducible show (_ : Nat) ≤ _; omega) | exact IsN.toNat (by omega)))) (by omega) rfl ?_; intro b80 o80 hc80; go_step) | (refine wpl_indexO hS rfl (by (repeat (first | with_reducible exact Pull.head | apply Pull.tail))) Try.underlying34 isz39 rfl (by (repeat (first | exact IsN.auto | with_reducible apply IsN.add | with_reducible apply IsN.sub | with_reducible apply IsN.mul | with_reducible apply IsN.div | with_reducible apply IsN.mod | with_reducible apply IsN.min | with_reducible apply IsN.max | (with_reducible show (_ : Nat) ≤ _; omega) | exact IsN.toNat (by omega)))) (by omega) rfl rfl ?_; (first | (rintro b80 rfl) | (intro b80 hb80; cases hb80)); go_step))
          | ((with_reducible show wpList _ _ _ (⟨_, .fieldAddr 39 _ 0, _, _, _, _⟩ :: _) _ _); first | (refine wplV _ (V.fieldAddr fo39_0 rfl (by first | with_reducible exact Nat.zero_add _ | with_reducible exact Nat.add_zero _ | exact rfl)) (by kernel_rfl) ?_; go_step))
          | ((with_reducible show wpList _ _ _ (⟨_, .binOp .add _ _ _ _, _, _, _, _⟩ :: _) _ _); first | (refine wplV _ (V.addI rfl rfl (by omega)) (by kernel_rfl) ?_; go_step) | (refine wplV _ (V.addR (by decide) rfl rfl) (by kernel_rfl) ?_; go_step))
          | ((with_reducible show wpList _ _ _ (⟨_, .load 39 _, _, _, _, _⟩ :: _) _ _); first | (refine wpl (by kernel_rfl) ?_; apply wp_loadRI hS 39 _ rfl _ _ rfl 2 (row_of rfl) _; (case hl => with_reducible assumption); (case hr => with_reducible assumption); refine put_move ?_; go_step) | (refine wpl (by kernel_rfl) ?_; apply wp_loadRO hS 39 _ rfl _ _ rfl 2 (row_of rfl) _ _ _ _ _; (case hp => (repeat (first | with_reducible exact Pull.head | apply Pull.tail))); (case hi => omega); refine put_move ?_; go_step) | (refine wpl (by kernel_rfl) ?_; apply wp_loadA hS 39 _ rfl _ rfl 2 (row_of rfl) _; (case hp => (repeat (first | with_reducible exact Pull.head | apply Pull.tail))); refine put_move ?_; go_step) | (refine wpl (by kernel_rfl) ?_; apply wp_loadG hS 39 _ rfl _ rfl 2 (row_of rfl) _; (case hp => (repeat (first | with_reducible exact Pull.head | apply Pull.tail))); (case hn => rfl); refine put_move ?_; go_step) | (refine wpl (by kernel_rfl) ?_; apply wp_loadRW hS 39 _ rfl _ _ rfl 2 (row_of rfl) _; (case hc => with_reducible assumption); (case hn => rfl); refine put_move ?_; go_step))
          | ((with_reducible show wpList _ _ _ (⟨some 15, .alloc 39, _, _, _, _⟩ :: _) _ _); first | (refine wpl (by kernel_rfl) ?_; apply wp_alloc (o := ⟨some 15, _, _, _, _, _⟩) hS 39 rfl (.agg #[.int .i64 0, .int .i64 0]) [.int .i64 0, .int .i64 0] (fun w => Try.zeroValue39 w) rfl; clear hS; intro g15 w hS; refine put_move ?_; go_step))
          | ((with_reducible show wpList _ _ _ (⟨_, .store 39 _ _, _, _, _, _⟩ :: _) _ _); first | (refine wpl (by kernel_rfl) ?_; apply wp_storeA hS 39 _ _ rfl _ rfl 2 (row_of rfl) _ _; (case hp => (repeat (first | with_reducible exact Pull.head | apply Pull.tail))); (case hy => rfl); (case hm => (repeat (first | assumption | exact Len.rep | apply Len.set))); (case hd => exact rfl); clear hS; intro w hS) | (refine wpl (by kernel_rfl) ?_; apply wp_storeG hS 39 _ _ rfl _ rfl 2 (row_of rfl) _ _; (case hp => (repeat (first | with_reducible exact Pull.head | apply Pull.tail))); (case hy => rfl); (case hn => rfl); (case hn' => rfl); (case hv => rfl); (case hd => exact rfl); clear hS; intro w hS))
          | ((with_reducible show wpList _ _ _ (⟨_, .load 3 _, _, _, _, _⟩ :: _) _ _); first | (refine wpl (by kernel_rfl) ?_; apply wp_load1A hS 3 _ rfl _ _ rfl (one_of rfl) _ _; (case hp => (repeat (first | with_reducible exact Pull.head | apply Pull.tail))); (case hi => omega); refine put_move ?_; go_step) | (refine wpl (by kernel_rfl) ?_; apply wp_load1OI hS 3 _ rfl _ _ rfl (one_of rfl) _ _ _ _ _; (case hp => (repeat (first | with_reducible exact Pull.head | apply Pull.tail))); (case hi => omega); refine put_move ?_; go_step) | (refine wpl (by kernel_rfl) ?_; apply wp_load1 hS 3 _ rfl _ _ rfl (one_of rfl) _; (case hp => (repeat (first | with_reducible exact Pull.head | apply Pull.tail))); (case hc => rfl); refine put_move ?_; go_step) | (refine wpl (by kernel_rfl) ?_; apply wp_load1O hS 3 _ rfl _ _ rfl (one_of rfl) _ _ _ _ _; (case hp => (repeat (first | with_reducible exact Pull.head | apply Pull.tail))); (case hv => with_reducible assumption); refine put_move ?_; go_step) | (refine wpl (by kernel_rfl) ?_; apply wp_loadW hS 3 _ rfl _ rfl (one_of rfl) _; (case hc => with_reducible assumption); refine put_move ?_; go_step) | (refine wpl (by kernel_rfl) ?_; apply wp_load1R hS 3 _ rfl _ _ _ rfl (one_of rfl) _ _; (case hl => with_reducible assumption); (case hr => with_reducible assumption); (case hf => omega); refine put_move ?_; go_step) | (refine wpl (by kernel_rfl) ?_; apply wp_load1R0 hS 3 _ rfl _ _ rfl (one_of rfl) _ _; (case hl => with_reducible assumption); (case hr => with_reducible assumption); (case hf => omega); refine put_move ?_; go_step))
          | ((fail_if_success (with_reducible show wpList _ _ _ (_ :: _) _ _)); go_step))
        refine drawn_lit [] (fun _ => True) (by kernel_rfl) ?_
        replace hS := hS.drew
        focus
          refine takeM 0 _ (by (repeat (first | with_reducible exact AtL.head | apply AtL.tail))) (by kernel_rfl) (by kernel_rfl) (by kernel_rfl) (by exact fun _ _ _ _ h => h) rfl ?_
          go_step
          refine takeM 1 _ (by (repeat (first | with_reducible exact AtL.head | apply AtL.tail))) (by kernel_rfl) (by kernel_rfl) (by kernel_rfl) (by exact fun _ _ _ _ h => h) rfl ?_
          go_step
          refine branch1 2 (by (repeat (first | with_reducible exact AtL.head | apply AtL.tail))) rfl (by kernel_rfl) ?_
          refine wp_callF (f := 23) rfl Try.call23 (eqByte_yes _ _ _ (bi B2) (bi B2) (BSl.bv (hS.sl (by (repeat (first | with_reducible exact Pull.head | apply Pull.tail))))) (BSl.bv (hS.sl (by (repeat (first | with_reducible exact Pull.head | apply Pull.tail))))) rfl) ?_; rintro e w' ⟨rfl, rfl⟩; refine ⟨_, rfl, ?_⟩
          refine ⟨fun _ h => h, ?_⟩
          refine drawn_move ?_
          go_step
          refine takeM 3 _ (by (repeat (first | with_reducible exact AtL.head | apply AtL.tail))) (by kernel_rfl) (by kernel_rfl) (by kernel_rfl) (by exact fun _ _ _ _ h => h) rfl ?_
          go_step
          refine takeM 4 _ (by (repeat (first | with_reducible exact AtL.head | apply AtL.tail))) (by kernel_rfl) (by kernel_rfl) (by kernel_rfl) (by exact fun _ _ _ _ h => h) rfl ?_
          go_step
          first | (refine takeV 5 _ (by (repeat (first | with_reducible exact AtL.head | apply AtL.tail))) (by kernel_rfl) (by kernel_rfl) (by kernel_rfl) (by exact fun _ _ _ _ h => h) (V.len Try.underlying35 rfl) rfl ?_)
          go_step
          refine takeM 6 _ (by (repeat (first | with_reducible exact AtL.head | apply AtL.tail))) (by kernel_rfl) (by kernel_rfl) (by kernel_rfl) (by exact fun _ _ _ _ h => h) rfl ?_
          go_step
          first | (refine takeV 7 _ (by (repeat (first | with_reducible exact AtL.head | apply AtL.tail))) (by kernel_rfl) (by kernel_rfl) (by kernel_rfl) (by exact fun _ _ _ _ h => h) (V.quo rfl rfl (by omega) (by omega)) rfl ?_) | (refine takeV 7 _ (by (repeat (first | with_reducible exact AtL.head | apply AtL.tail))) (by kernel_rfl) (by kernel_rfl) (by kernel_rfl) (by exact fun _ _ _ _ h => h) (V.quoT rfl rfl (by omega)) rfl ?_)
          go_step
          first | (refine takeD 8 _ (by (repeat (first | with_reducible exact AtL.head | apply AtL.tail))) (by kernel_rfl) (by kernel_rfl) (by kernel_rfl) (by exact fun _ _ _ _ h => h) (V.geq rfl rfl) rfl (fun hB => ?_) (fun hB => ?_)) | (refine takeB 8 _ (by (repeat (first | with_reducible exact AtL.head | apply AtL.tail))) (by kernel_rfl) (by kernel_rfl) (by kernel_rfl) (by exact fun _ _ _ _ h => h) (V.geq rfl rfl) rfl (fun hB => ?_) (fun hB => ?_))
          rotate_left 1
          focus
            (try (have hF : False := (by omega); cases hF))
            all_goals
              go_step
              refine takePickT 9 (by (repeat (first | with_reducible exact AtL.head | apply AtL.tail))) (by kernel_rfl) (by kernel_rfl) (by kernel_rfl) (by exact fun _ _ _ _ h => h) rfl rfl ?_
              go_step
              refine takeM 10 _ (by (repeat (first | with_reducible exact AtL.head | apply AtL.tail))) (by kernel_rfl) (by kernel_rfl) (by kernel_rfl) (by exact fun _ _ _ _ h => h) rfl ?_
              go_step
              refine takeN 11 (by (repeat (first | with_reducible exact AtL.head | apply AtL.tail))) (by kernel_rfl) (by kernel_rfl) (by kernel_rfl) (by exact fun _ _ _ _ h => h) rfl ?_
              go_step
              refine takeN 12 (by (repeat (first | with_reducible exact AtL.head | apply AtL.tail))) (by kernel_rfl) (by kernel_rfl) (by kernel_rfl) (by exact fun _ _ _ _ h => h) rfl ?_
              go_step
              refine takeN 13 (by (repeat (first | with_reducible exact AtL.head | apply AtL.tail))) (by kernel_rfl) (by kernel_rfl) (by kernel_rfl) (by exact fun _ _ _ _ h => h) rfl ?_
              go_step
              refine takeN 14 (by (repeat (first | with_reducible exact AtL.head | apply AtL.tail))) (by kernel_rfl) (by kernel_rfl) (by kernel_rfl) (by exact fun _ _ _ _ h => h) rfl ?_
              go_step
              refine takeN 15 (by (repeat (first | with_reducible exact AtL.head | apply AtL.tail))) (by kernel_rfl) (by kernel_rfl) (by kernel_rfl) (by exact fun _ _ _ _ h => h) rfl ?_
              go_step
              refine takeN 16 (by (repeat (first | with_reducible exact AtL.head | apply AtL.tail))) (by kernel_rfl) (by kernel_rfl) (by kernel_rfl) (by exact fun _ _ _ _ h => h) rfl ?_
              go_step
              refine takeN 17 (by (repeat (first | with_reducible exact AtL.head | apply AtL.tail))) (by kernel_rfl) (by kernel_rfl) (by kernel_rfl) (by exact fun _ _ _ _ h => h) rfl ?_
              go_step
              refine takeN 18 (by (repeat (first | with_reducible exact AtL.head | apply AtL.tail))) (by kernel_rfl) (by kernel_rfl) (by kernel_rfl) (by exact fun _ _ _ _ h => h) rfl ?_
              go_step
              refine takeN 19 (by (repeat (first | with_reducible exact AtL.head | apply AtL.tail))) (by kernel_rfl) (by kernel_rfl) (by kernel_rfl) (by exact fun _ _ _ _ h => h) rfl ?_
              go_step
              refine takePickF 20 (by (repeat (first | with_reducible exact AtL.head | apply AtL.tail))) (by kernel_rfl) (by kernel_rfl) (by kernel_rfl) (by exact fun _ _ _ _ h => h) rfl rfl ?_
              go_step
              refine takeA 21 _ (by (repeat (first | with_reducible exact AtL.head | apply AtL.tail))) (by kernel_rfl) (by kernel_rfl) (by kernel_rfl) (by exact fun _ _ _ _ h => h) rfl ?_
              go_step
              refine drawn_done (by kernel_rfl) ?_ _
          rotate_right 1
          focus
            (try (have hF : False := (by omega); cases hF))
            all_goals
              go_step
              refine takePickT 9 (by (repeat (first | with_reducible exact AtL.head | apply AtL.tail))) (by kernel_rfl) (by kernel_rfl) (by kernel_rfl) (by exact fun _ _ _ _ h => h) rfl rfl ?_
              go_step
              refine takeM 10 _ (by (repeat (first | with_reducible exact AtL.head | apply AtL.tail))) (by kernel_rfl) (by kernel_rfl) (by kernel_rfl) (by exact fun _ _ _ _ h => h) rfl ?_
              go_step
              refine takeM 11 _ (by (repeat (first | with_reducible exact AtL.head | apply AtL.tail))) (by kernel_rfl) (by kernel_rfl) (by kernel_rfl) (by exact fun _ _ _ _ h => h) rfl ?_
              go_step
              refine takeM 12 _ (by (repeat (first | with_reducible exact AtL.head | apply AtL.tail))) (by kernel_rfl) (by kernel_rfl) (by kernel_rfl) (by exact fun _ _ _ _ h => h) rfl ?_
              go_step
              first | (refine takeV 13 _ (by (repeat (first | with_reducible exact AtL.head | apply AtL.tail))) (by kernel_rfl) (by kernel_rfl) (by kernel_rfl) (by exact fun _ _ _ _ h => h) (V.quo rfl rfl (by omega) (by omega)) rfl ?_) | (refine takeV 13 _ (by (repeat (first | with_reducible exact AtL.head | apply AtL.tail))) (by kernel_rfl) (by kernel_rfl) (by kernel_rfl) (by exact fun _ _ _ _ h => h) (V.quoT rfl rfl (by omega)) rfl ?_)
              go_step
              first | (refine takeV 14 _ (by (repeat (first | with_reducible exact AtL.head | apply AtL.tail))) (by kernel_rfl) (by kernel_rfl) (by kernel_rfl) (by exact fun _ _ _ _ h => h) (V.slice Try.underlying35 isz5 rfl (by (first | exact Lo.none | exact Lo.some rfl (by (repeat (first | exact IsN.auto | with_reducible apply IsN.add | with_reducible apply IsN.sub | with_reducible apply IsN.mul | with_reducible apply IsN.div | with_reducible apply IsN.mod | with_reducible apply IsN.min | with_reducible apply IsN.max | (with_reducible show (_ : Nat) ≤ _; omega) | exact IsN.toNat (by omega)))))) (by (first | exact Up.none | exact Up.some rfl (by (repeat (first | exact IsN.auto | with_reducible apply IsN.add | with_reducible apply IsN.sub | with_reducible apply IsN.mul | with_reducible apply IsN.div | with_reducible apply IsN.mod | with_reducible apply IsN.min | with_reducible apply IsN.max | (with_reducible show (_ : Nat) ≤ _; omega) | exact IsN.toNat (by omega)))))) (by omega) (by omega)) rfl ?_)
              go_step
              refine takeM 15 _ (by (repeat (first | with_reducible exact AtL.head | apply AtL.tail))) (by kernel_rfl) (by kernel_rfl) (by kernel_rfl) (by exact fun _ _ _ _ h => h) rfl ?_
              go_step
              refine takeM 16 _ (by (repeat (first | with_reducible exact AtL.head | apply AtL.tail))) (by kernel_rfl) (by kernel_rfl) (by kernel_rfl) (by exact fun _ _ _ _ h => h) rfl ?_
              go_step
              first | (refine takeV 17 _ (by (repeat (first | with_reducible exact AtL.head | apply AtL.tail))) (by kernel_rfl) (by kernel_rfl) (by kernel_rfl) (by exact fun _ _ _ _ h => h) (V.quo rfl rfl (by omega) (by omega)) rfl ?_) | (refine takeV 17 _ (by (repeat (first | with_reducible exact AtL.head | apply AtL.tail))) (by kernel_rfl) (by kernel_rfl) (by kernel_rfl) (by exact fun _ _ _ _ h => h) (V.quoT rfl rfl (by omega)) rfl ?_)
              go_step
              first | (refine takeV 18 _ (by (repeat (first | with_reducible exact AtL.head | apply AtL.tail))) (by kernel_rfl) (by kernel_rfl) (by kernel_rfl) (by exact fun _ _ _ _ h => h) (V.slice Try.underlying35 isz5 rfl (by (first | exact Lo.none | exact Lo.some rfl (by (repeat (first | exact IsN.auto | with_reducible apply IsN.add | with_reducible apply IsN.sub | with_reducible apply IsN.mul | with_reducible apply IsN.div | with_reducible apply IsN.mod | with_reducible apply IsN.min | with_reducible apply IsN.max | (with_reducible show (_ : Nat) ≤ _; omega) | exact IsN.toNat (by omega)))))) (by (first | exact Up.none | exact Up.some rfl (by (repeat (first | exact IsN.auto | with_reducible apply IsN.add | with_reducible apply IsN.sub | with_reducible apply IsN.mul | with_reducible apply IsN.div | with_reducible apply IsN.mod | with_reducible apply IsN.min | with_reducible apply IsN.max | (with_reducible show (_ : Nat) ≤ _; omega) | exact IsN.toNat (by omega)))))) (by omega) (by omega)) rfl ?_)
              go_step
              refine branch1 19 (by (repeat (first | with_reducible exact AtL.head | apply AtL.tail))) rfl (by kernel_rfl) ?_
              refine wp_callF (f := 23) rfl Try.call23 (eqByte_yes _ _ _ (bi (B2.take (t / 8))) (bi (C.take (t / 8))) (bsl_cut (hS.sl (a := ad2) (s := 1) (by (repeat (first | with_reducible exact Pull.head | apply Pull.tail)))) rfl (by omega)) (bsl_cut (hS.sl (a := ad4) (s := 1) (by (repeat (first | with_reducible exact Pull.head | apply Pull.tail)))) rfl (by omega)) (by rw [H4.out])) ?_; rintro e w' ⟨rfl, rfl⟩; refine ⟨_, rfl, ?_⟩
              refine ⟨fun _ h => h, ?_⟩
              refine drawn_move ?_
              go_step
              refine takePickT 20 (by (repeat (first | with_reducible exact AtL.head | apply AtL.tail))) (by kernel_rfl) (by kernel_rfl) (by kernel_rfl) (by exact fun _ _ _ _ h => h) rfl rfl ?_
              go_step
              refine takeA 21 _ (by (repeat (first | with_reducible exact AtL.head | apply AtL.tail))) (by kernel_rfl) (by kernel_rfl) (by kernel_rfl) (by exact fun _ _ _ _ h => h) rfl ?_
              go_step
              refine drawn_done (by kernel_rfl) ?_ _
        all_goals (try (have hF : False := (by omega); cases hF))
        all_goals
          repeat' (first
            | go_skip
            | go_big_skip
            | ((with_reducible show wpList _ _ _ (⟨_, .move _, _, _, _, _⟩ :: _) _ _); (first | go_big_want | go_step); go_step)
            | ((with_reducible show wpList _ _ _ (⟨_, .assign _, _, _, _, _⟩ :: _) _ _); (first | go_big_want | go_step); go_step)
            | ((with_reducible show wpList _ _ _ (⟨_, .pick _ _ _, _, _, _, _⟩ :: _) _ _); first | (refine wplPickT rfl (by kernel_rfl) ?_; go_step) | (refine wplPickF rfl (by kernel_rfl) ?_; go_step))
            | ((with_reducible show wpList _ _ _ (⟨some 95, .binOp .geq _ _ _ _, _, _, _, _⟩ :: _) _ _); first | (refine wplD _ (V.geq rfl rfl) (by kernel_rfl) (fun hB => ?_) (fun hB => ?_) <;> (try (have hF : False := (by omega); cases hF)) <;> go_step) | (refine wplB _ (V.geq rfl rfl) (by kernel_rfl) (fun hB => ?_) (fun hB => ?_) <;> go_step))
            | ((with_reducible show wpList _ _ _ (⟨_, .call ⟨.builtin .len, _, _⟩, _, _, _, _⟩ :: _) _ _); first | (refine wplV _ (V.len Try.underlying35 rfl) (by kernel_rfl) ?_; go_step))
            | ((with_reducible show wpList _ _ _ (⟨_, .binOp .quo _ _ _ _, _, _, _, _⟩ :: _) _ _); first | (refine wplV _ (V.quo rfl rfl (by omega) (by omega)) (by kernel_rfl) ?_; go_step) | (refine wplV _ (V.quoT rfl rfl (by omega)) (by kernel_rfl) ?_; go_step))
            | ((with_reducible show wpList _ _ _ (⟨_, .slice 35 _ _ _ _, _, _, _, _⟩ :: _) _ _); first | (refine wplV _ (V.slice Try.underlying35 isz5 rfl (by (first | exact Lo.none | exact Lo.some rfl (by (repeat (first | exact IsN.auto | with_reducible apply IsN.add | with_reducible apply IsN.sub | with_reducible apply IsN.mul | with_reducible apply IsN.div | with_reducible apply IsN.mod | with_reducible apply IsN.min | with_reducible apply IsN.max | (with_reducible show (_ : Nat) ≤ _; omega) | exact IsN.toNat (by omega)))))) (by (first | exact Up.none | exact Up.some rfl (by (repeat (first | exact IsN.auto | with_reducible apply IsN.add | with_reducible apply IsN.sub | with_reducible apply IsN.mul | with_reducible apply IsN.div | with_reducible apply IsN.mod | with_reducible apply IsN.min | with_reducible apply IsN.max | (with_reducible show (_ : Nat) ≤ _; omega) | exact IsN.toNat (by omega)))))) (by omega) (by omega)) (by kernel_rfl) ?_; go_step))
            | ((fail_if_success (with_reducible show wpList _ _ _ (_ :: _) _ _)); go_step))
          go_ret
          exact ⟨rfl, hS.1⟩
end Go.Proofs.Ytodihnhpibjhmaa
