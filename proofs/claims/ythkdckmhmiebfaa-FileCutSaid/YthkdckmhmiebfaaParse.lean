/- The walk of file.Parse. -/
import Derived.Test.YthkdckmhmiebfaaReader
import Derived.Test.YthkdckmhmiebfaaParts2
namespace Go.Proofs.Ythkdckmhmiebfaa
open Go.ChangeShapes Go.WideShapes Go.ChangeAt Go.RowKit Go.Deep
set_option linter.unusedVariables false
/-- A fact that nothing looks into. -/
structure Veil2 (p : Prop) : Prop where
  out : p
def f0 : FileV := ⟨0, 0, 0, List.replicate 64 0, List.replicate 16 0, [], List.replicate 16 0, [], 0, []⟩
/-- The file that is nought. -/
def fz : Value := fv f0 (.slice none 0 0) (.slice none 0 0) (.slice none 0 0)
theorem build_f0 (w : World) : (Instr.build 50 #[]).run Try.prog w = .ok fz w := by kernel_rfl
theorem build_f4 (m0 m1 m2 m5 : Int) (w : World) : (Instr.build 50 #[(0, .int .i64 m0), (1, .int .i64 m1), (2, .int .i64 m2), (5, .int .i64 m5)]).run Try.prog w = .ok (fv ⟨m0, m1, m2, List.replicate 64 0, List.replicate 16 0, [], List.replicate 16 0, [], m5, []⟩ (.slice none 0 0) (.slice none 0 0) (.slice none 0 0)) w := by kernel_rfl
/-- The quantization's numbers as they are read. -/
def rQ (l : List Int) (k : Nat) : List Int := (List.range k).map fun i => nth l (6 + i)
theorem rQ_set (l : List Int) (k : Nat) (h : k < 64) : (rQ l k ++ List.replicate (64 - k) 0).set k (nth l (6 + k)) = rQ l (k + 1) ++ List.replicate (64 - (k + 1)) 0 := by
  obtain ⟨m, hm⟩ : ∃ m, 64 - k = m + 1 := ⟨64 - k - 1, by omega⟩
  have hl : (rQ l k).length = k := by simp [rQ]
  rw [hm, show 64 - (k + 1) = m by omega, List.set_append_right _ _ (by omega), hl, Nat.sub_self, List.replicate_succ, List.set_cons_zero]
  simp [rQ, List.range_succ]
abbrev gp (W H p : Int) (Q C1 : List Int) (v1 : Value) (C2 : List Int) (v2 : Value) (ev : Int) (vd : Value) : List Part := [.val (.int .i64 W), .val (.int .i64 H), .val (.int .i64 p), .ints Q, .ints C1, .val v1, .ints C2, .val v2, .val (.int .i64 ev), .val vd]
theorem rep_quant {W H p ev : Int} {Q Q' C1 C2 : List Int} {v1 v2 vd : Value} (hQ : Len Q 64) (hQ' : Len Q' 64) : Rep [.ints Q'] (gp W H p Q C1 v1 C2 v2 ev vd) 3 (gp W H p Q' C1 v1 C2 v2 ev vd) :=
  .skipV (.skipV (.skipV (.head (B := [.ints Q]) (by simp [pcells, Part.cells, hQ.out, hQ'.out]))))
theorem rep_first {W H p ev : Int} {Q C1 C C2 : List Int} {v1 v v2 vd : Value} (hQ : Len Q 64) (hC1 : Len C1 16) (hC : Len C 16) : Rep [.ints C, .val v] (gp W H p Q C1 v1 C2 v2 ev vd) 67 (gp W H p Q C v C2 v2 ev vd) :=
  .skipV (.skipV (.skipV (.skipI hQ (by decide) rfl (.head (B := [.ints C1, .val v1]) (by simp [pcells, Part.cells, hC1.out, hC.out])))))
theorem rep_rest {W H p ev : Int} {Q C1 C C2 : List Int} {v1 v v2 vd : Value} (hQ : Len Q 64) (hC1 : Len C1 16) (hC2 : Len C2 16) (hC : Len C 16) : Rep [.ints C, .val v] (gp W H p Q C1 v1 C2 v2 ev vd) 84 (gp W H p Q C1 v1 C v ev vd) :=
  .skipV (.skipV (.skipV (.skipI hQ (by decide) rfl (.skipI hC1 (by decide) rfl (.skipV (.head (B := [.ints C2, .val v2]) (by simp [pcells, Part.cells, hC2.out, hC.out])))))))
def pn1 (l : List Int) : Nat := (rA l 70 16).toNat
def pn2 (l : List Int) : Nat := (rA l (102 + pn1 l) 16).toNat
/-- Where the data begin. -/
def pq2 (l : List Int) : Nat := 102 + pn1 l + 32 + pn2 l
/-- The file that is read. -/
def parseF (l : List Int) : FileV := ⟨nth l 2, nth l 3, nth l 4, zfrom (rQ l 64), rCl l 70 16, rS l 102 (pn1 l), rCl l (102 + pn1 l) 16, rS l (102 + pn1 l + 32) (pn2 l), nth l 5, (l.drop (pq2 l)).map Int.toNat⟩
def parseE (l : List Int) : Int := if 91000 < l.length then 2 else if l.length < pq2 l then 3 else if fileE (parseF l) = 0 ∧ packI (parseF l) = l then 0 else 4
theorem cb_bytes {C : List Int} (h : ∀ k, k < 16 → 0 ≤ nth C k ∧ nth C k ≤ 256) : ∀ k, k ≤ 16 → ∀ x ∈ cb C k, 0 ≤ x ∧ x < 256
  | 0, _, x, hx => by simp [cb] at hx
  | k + 1, hk, x, hx => by
    rw [cb, List.mem_append] at hx
    rcases hx with hx | hx
    · exact cb_bytes h k (by omega) x hx
    · have := h k (by omega)
      simp only [List.mem_cons, List.not_mem_nil, or_false] at hx
      rcases hx with rfl | rfl <;> omega
theorem tabI_bytes {C S : List Int} (h : tabE C S = 0) : ∀ x ∈ tabI C S, 0 ≤ x ∧ x < 256 := fun x hx => by
  have k := tabE_ok h
  rw [tabI, List.mem_append] at hx
  rcases hx with hx | hx
  · exact cb_bytes k.1 16 (Nat.le_refl _) x hx
  · exact k.2.2.2.1 x hx
/-- What is packed is bytes. -/
theorem packI_bytes {f : FileV} (h : fileE f = 0) (hQ : f.quant.length = 64) (hd : ∀ x ∈ f.data, x < 256) : ∀ x ∈ packI f, 0 ≤ x ∧ x < 256 := fun x hx => by
  obtain ⟨⟨h1, h2, h3, h4⟩, hq, ht1, ht2, _⟩ := fileE_ok h
  simp only [packI, headI, tbs, List.mem_append, List.mem_cons, List.not_mem_nil, or_false] at hx
  rcases hx with ((((rfl | rfl) | (rfl | rfl | rfl | rfl)) | hx) | (hx | hx)) | hx
  · omega
  · omega
  · omega
  · omega
  · omega
  · omega
  · obtain ⟨i, hi, rfl⟩ := List.getElem_of_mem hx
    have hi2 : i < 64 := by rw [zto_len] at hi; exact hi
    have := zto_in hQ hq i hi2
    have e : nth (zto f.quant) i = (zto f.quant)[i]'hi := by unfold nth; rw [List.getD_eq_getElem?_getD, List.getElem?_eq_getElem hi]; rfl
    omega
  · exact tabI_bytes ht1 x hx
  · exact tabI_bytes ht2 x hx
  · obtain ⟨y, hy, rfl⟩ := List.mem_map.1 hx
    have := hd y hy
    omega
theorem bytes_nth {l : List Int} (h : ∀ x ∈ l, 0 ≤ x ∧ x < 256) (i : Nat) (hi : i < l.length) : 0 ≤ nth l i ∧ nth l i < 256 := nth_of_all h i hi
theorem bytes_mem {l : List Int} (h : ∀ i, i < l.length → 0 ≤ nth l i ∧ nth l i < 256) (x : Int) (hx : x ∈ l) : 0 ≤ x ∧ x < 256 := by
  obtain ⟨i, hi, rfl⟩ := List.getElem_of_mem hx
  have := h i hi
  have e : nth l i = l[i] := by simp [nth, List.getD, hi]
  omega
theorem toNat_cast {l : List Int} (h : ∀ x ∈ l, 0 ≤ x ∧ x < 256) : ((l.map Int.toNat).map fun (x : Nat) => (x : Int)) = l := by
  rw [List.map_map]
  conv => rhs; rw [← List.map_id l]
  refine List.map_congr_left fun x hx => ?_
  have := h x hx
  simp only [Function.comp, id]
  omega
theorem cbl (C : List Int) : ∀ k, (cb C k).length = 2 * k
  | 0 => rfl
  | k + 1 => by rw [cb, List.length_append, cbl C k]; simp; omega
theorem pk_len (f : FileV) : (packI f).length = 134 + f.s1.length + f.s2.length + f.data.length := by
  simp only [packI, headI, tbs, tabI, dataI, List.length_append, List.length_map, zto_len, cbl, List.length_cons, List.length_nil]
  omega
theorem pq_short {l : List Int} {j1 j2 : Nat} (h1 : (j1 : Int) ≤ rA l 70 16) (k1 : 102 + j1 ≤ l.length → (j1 : Int) = rA l 70 16) (h2 : (j2 : Int) ≤ rA l (102 + j1) 16) (hs : l.length < 102 + j1 + 32 + j2) : l.length < pq2 l := by
  by_cases h : l.length < pq2 l
  · exact h
  · exfalso
    have e : pq2 l = 102 + pn1 l + 32 + pn2 l := rfl
    have e1 : pn1 l = (rA l 70 16).toNat := rfl
    have hj : (j1 : Int) = rA l 70 16 := k1 (by omega)
    have e3 : pn1 l = j1 := by omega
    have e2 : pn2 l = (rA l (102 + j1) 16).toNat := by rw [← e3]; rfl
    omega
theorem pq_full {l : List Int} {j1 j2 : Nat} (k1 : 102 + j1 ≤ l.length → (j1 : Int) = rA l 70 16) (k2 : 102 + j1 + 32 + j2 ≤ l.length → (j2 : Int) = rA l (102 + j1) 16) (hs : 102 + j1 + 32 + j2 ≤ l.length) : pn1 l = j1 ∧ pn2 l = j2 ∧ pq2 l = 102 + j1 + 32 + j2 := by
  have e1 : pn1 l = (rA l 70 16).toNat := rfl
  have hj := k1 (by omega)
  have hj2 := k2 hs
  have e3 : pn1 l = j1 := by omega
  have e2 : pn2 l = (rA l (102 + j1) 16).toNat := by rw [← e3]; rfl
  have e4 : pn2 l = j2 := by omega
  refine ⟨e3, e4, ?_⟩
  rw [pq2, e3, e4]
theorem bytesIn_of {w : World} {ad : Option Addr} {n c : Nat} {xs : List Int} (hv : Sl w 1 (.slice ad n c) n (xs.map (Value.int .u8))) : Lib.BytesIn w ad n xs := fun hn => by
  obtain ⟨hl, a1, c1, e1, hnc, hcm, hor⟩ := hv
  cases e1
  have hln : xs.length = n := by simpa using hl
  rcases hor with h0 | ⟨b, off, h, hc⟩
  · omega
  · refine ⟨b, off, h, fun i hi => ?_⟩
    rw [hc i (by omega)]
    simp [List.getD, hln, hi]
theorem bytesOf_eq {xs ys : List Int} (hx : ∀ i, i < xs.length → 0 ≤ nth xs i ∧ nth xs i < 256) (hy : ∀ i, i < ys.length → 0 ≤ nth ys i ∧ nth ys i < 256) : (Lib.bytesOf xs == Lib.bytesOf ys) = decide (xs = ys) := by
  have key : Lib.bytesOf xs = Lib.bytesOf ys ↔ xs = ys := by
    constructor
    · intro h
      have hl : xs.length = ys.length := by have := congrArg List.length h; simpa [Lib.bytesOf] using this
      refine list_ext hl fun i hi => ?_
      have h1 := hx i hi
      have h2 := hy i (by omega)
      have h3 : (Lib.bytesOf xs)[i]? = (Lib.bytesOf ys)[i]? := by rw [h]
      have hi2 : i < ys.length := by omega
      simp only [Lib.bytesOf, List.getElem?_map, List.getElem?_eq_getElem hi, List.getElem?_eq_getElem hi2, Option.map_some, Option.some.injEq] at h3
      have e1 : nth xs i = xs[i] := by simp [nth, List.getD, hi]
      have e2 : nth ys i = ys[i] := by simp [nth, List.getD, hi2]
      rw [← e1, ← e2] at h3
      have h4 := congrArg UInt8.toNat h3
      simp only [UInt8.toNat_ofNat'] at h4
      omega
    · rintro rfl; rfl
  by_cases h : xs = ys
  · rw [decide_eq_true h, beq_iff_eq]; exact key.2 h
  · rw [decide_eq_false h, beq_eq_false_iff_ne]; exact fun e => h (key.1 e)
theorem fequal_any (w : World) (p1 p2 : Option Addr) (n c m d : Nat) (xs ys : List Int) (h1 : Sl w 1 (.slice p1 n c) n (xs.map (Value.int .u8))) (h2 : Sl w 1 (.slice p2 m d) m (ys.map (Value.int .u8))) (hx : ∀ i, i < xs.length → 0 ≤ nth xs i ∧ nth xs i < 256) (hy : ∀ i, i < ys.length → 0 ≤ nth ys i ∧ nth ys i < 256) :
    Calls Try.prog 38 #[.slice p1 n c, .slice p2 m d] w fun e w' => e = .returned (.bool (decide (xs = ys))) ∧ w = w' :=
  (Try.bytes_Equal_all p1 p2 n c m d xs ys w (by have := h1.1; simpa using this) (by have := h2.1; simpa using this) (bytesIn_of h1) (bytesIn_of h2)).mono fun e w' ⟨k1, k2⟩ => ⟨by rw [k1, bytesOf_eq hx hy], k2.symm⟩
theorem fclone_any (w0 : World) (ad : Option Addr) (n c : Nat) (xs : List Int) (hv : Sl w0 1 (.slice ad n c) n (xs.map (Value.int .u8))) (hn : n ≤ 140737488355328) :
    Calls Try.prog 37 #[.slice ad n c] w0 fun e w => ∃ (a' : Option Addr) (c' : Nat), e = .returned (.slice a' n c') ∧ St w0 w [own 5 1 a' n c' (xs.map (Value.int .u8))] := by
  obtain ⟨hl, a1, c1, e1, hnc, hcm, hor⟩ := hv
  cases e1
  have hln : xs.length = n := by simpa using hl
  cases ad with
  | none =>
    rcases hor with h0 | ⟨b, off, h, _⟩
    · have h0' : n = 0 := h0
      subst h0'
      refine (Try.bytes_Clone_nil 0 c w0).mono fun e w' ⟨k1, k2⟩ => ⟨none, 0, k1, ?_⟩
      subst k2
      rw [List.length_eq_zero_iff.1 hln]
      exact (St.start w').nil 5 1
    · cases h
  | some a =>
    refine (Try.bytes_Clone_at a n c xs w0 hln hn (fun i hi => ?_)).mono fun e w' ⟨v', k1, k2, k3, k4⟩ => ?_
    · rcases hor with h0 | ⟨b, off, h, hc⟩
      · omega
      · cases h
        rw [Addr.add_mid, hc i (by omega)]
        simp [List.getD, hln, hi]
    · rcases k2.2 with ⟨h1, h2⟩ | ⟨g, cap, cur, h1, h2, h3, h4, h5, h6, h7⟩
      · exact absurd h1 k3
      · subst h1
        refine ⟨some ⟨g, 0, none⟩, cap, k1, k4, [g], by simp, fun b hb => by rw [List.mem_singleton] at hb; omega, [g], [], rfl, ⟨rfl, k2.1, .inr ⟨g, cap, cur, rfl, Nat.zero_le _, h3, h4, h5, h6, h7⟩⟩, rfl⟩
set_option maxRecDepth 100000 in
set_option maxHeartbeats 8000000 in
theorem parse_large (w0 : World) (a : Option Addr) (n c : Nat) (l : List Int) (hv : Sl w0 1 (.slice a n c) n (l.map (Value.int .u8))) (hn : 91000 < n) (hn2 : n ≤ 9223372036854775807) :
    Calls Try.prog 21 #[.slice a n c] w0 fun e w => e = .returned (.tuple #[fz, .int .i64 2]) ∧ Ext w0 w := by
  have hS := St.start w0
  go_enter Try.func21, Try.ntmps21
  repeat' (first
    | ((with_reducible show wpList _ _ _ (⟨some 12, _, _, _, _, _⟩ :: _) _ _); refine wplV _ (V.build (vs := []) rfl build_f0) (by kernel_rfl) ?_; go_step)
    | go_skip
    | go_big_skip
    | ((with_reducible show wpList _ _ _ (⟨_, .move _, _, _, _, _⟩ :: _) _ _); (first | go_big_want | go_step); go_step)
    | ((with_reducible show wpList _ _ _ (⟨_, .assign _, _, _, _, _⟩ :: _) _ _); (first | go_big_want | go_step); go_step)
    | ((with_reducible show wpList _ _ _ (⟨_, .pick _ _ _, _, _, _, _⟩ :: _) _ _); first | (refine wplPickT rfl (by kernel_rfl) ?_; go_step) | (refine wplPickF rfl (by kernel_rfl) ?_; go_step))
    | ((with_reducible show wpList _ _ _ (⟨_, .call ⟨.builtin .len, _, _⟩, _, _, _, _⟩ :: _) _ _); first | (refine wplV _ (V.len Try.underlying48 rfl) (by kernel_rfl) ?_; go_step))
    | ((with_reducible show wpList _ _ _ (⟨_, .binOp .gtr _ _ _ _, _, _, _, _⟩ :: _) _ _); first | (refine wplV _ (V.gtr rfl rfl) (by kernel_rfl) ?_; go_step))
    | ((with_reducible show wpList _ _ _ (⟨some 2, .alloc 50, _, _, _, _⟩ :: _) _ _); first | (refine wpl (by kernel_rfl) ?_; apply wp_allocP (o := ⟨some 2, _, _, _, _, _⟩) hS 50 rfl _ zp50; clear hS; intro g2 w hS; refine put_move ?_; go_step))
    | ((with_reducible show wpList _ _ _ (⟨_, .store 50 _ _, _, _, _, _⟩ :: _) _ _); first | (refine wpl (by kernel_rfl) ?_; apply wp_storePP hS 50 _ _ rfl _ rfl 103 (row_of rfl) _ _; (case hp => (repeat (first | with_reducible exact Pull.head | apply Pull.tail))); (case hy => rfl); (case hn => (repeat (first | exact Pre.nil | (apply Pre.ints; (case hn => (first | (with_reducible assumption) | exact Len.rep | exact Len.set (by with_reducible assumption) | exact Len.set Len.rep | exact Len.set (Len.set Len.rep))); (case h => omega); (case hm => rfl)) | apply Pre.val))); (case hn' => (repeat (first | exact Pre.nil | (apply Pre.ints; (case hn => (first | (with_reducible assumption) | exact Len.rep | exact Len.set (by with_reducible assumption) | exact Len.set Len.rep | exact Len.set (Len.set Len.rep))); (case h => omega); (case hm => rfl)) | apply Pre.val))); (case hv => rfl); (case hd => exact rfl); clear hS; intro w hS) | (refine wpl (by kernel_rfl) ?_; apply wp_storeA hS 50 _ _ rfl _ rfl 103 (row_of rfl) _ _; (case hp => (repeat (first | with_reducible exact Pull.head | apply Pull.tail))); (case hy => rfl); (case hm => (repeat (first | assumption | exact Len.rep | apply Len.set | ((with_reducible show Len (_ :: _) _); exact rfl)))); (case hd => exact rfl); clear hS; intro w hS) | (refine wpl (by kernel_rfl) ?_; apply wp_storeG hS 50 _ _ rfl _ rfl 103 (row_of rfl) _ _; (case hp => (repeat (first | with_reducible exact Pull.head | apply Pull.tail))); (case hy => rfl); (case hn => rfl); (case hn' => rfl); (case hv => rfl); (case hd => exact rfl); clear hS; intro w hS))
    | ((fail_if_success (with_reducible show wpList _ _ _ (_ :: _) _ _)); go_step))
  refine ret_all (xs := [_, _]) rfl (.cons (OneRes.prt hS rfl (row_of (n := 103) rfl) (by (repeat (first | with_reducible exact Pull.head | apply Pull.tail))) (by (repeat (first | exact Pre.nil | (apply Pre.ints; (case hn => (first | (with_reducible assumption) | exact Len.rep | exact Len.set (by with_reducible assumption) | exact Len.set Len.rep | exact Len.set (Len.set Len.rep))); (case h => omega); (case hm => rfl)) | apply Pre.val)))) (.cons (OneRes.tmp rfl) (.nil))) (by simp) rfl ?_
  exact ⟨rfl, hS.1⟩
set_option maxRecDepth 100000 in
set_option maxHeartbeats 8000000 in
theorem parse_rest (w0 : World) (a : Option Addr) (n c : Nat) (l : List Int) (hv : Sl w0 1 (.slice a n c) n (l.map (Value.int .u8))) (hr : Hid (∀ i, i < l.length → 0 ≤ nth l i ∧ nth l i < 256)) (hn : n ≤ 91000) :
    Calls Try.prog 21 #[.slice a n c] w0 fun e w => (parseE l ≠ 0 → e = .returned (.tuple #[fz, .int .i64 (parseE l)]) ∧ Ext w0 w) ∧ (parseE l = 0 → ∃ (a1 a2 ad : Option Addr) (c1 c2 cd : Nat), e = .returned (.tuple #[fv (parseF l) (.slice a1 (pn1 l) c1) (.slice a2 (pn2 l) c2) (.slice ad (l.length - pq2 l) cd), .int .i64 0]) ∧
      St w0 w [own 3 1 a1 (pn1 l) c1 ((parseF l).s1.map (Value.int .i64)), own 3 1 a2 (pn2 l) c2 ((parseF l).s2.map (Value.int .i64)), own 5 1 ad (l.length - pq2 l) cd ((dataI (parseF l)).map (Value.int .u8))]) := by
  have hS := St.start w0
  have hln : l.length = n := by have := hv.1; simpa using this
  go_enter Try.func21, Try.ntmps21
  repeat' (first
    | go_skip
    | go_big_skip
    | ((with_reducible show wpList _ _ _ (⟨_, .move _, _, _, _, _⟩ :: _) _ _); (first | go_big_want | go_step); go_step)
    | ((with_reducible show wpList _ _ _ (⟨_, .assign _, _, _, _, _⟩ :: _) _ _); (first | go_big_want | go_step); go_step)
    | ((with_reducible show wpList _ _ _ (⟨_, .pick _ _ _, _, _, _, _⟩ :: _) _ _); first | (refine wplPickT rfl (by kernel_rfl) ?_; go_step) | (refine wplPickF rfl (by kernel_rfl) ?_; go_step))
    | ((with_reducible show wpList _ _ _ (⟨_, .call ⟨.builtin .len, _, _⟩, _, _, _, _⟩ :: _) _ _); first | (refine wplV _ (V.len Try.underlying48 rfl) (by kernel_rfl) ?_; go_step))
    | ((with_reducible show wpList _ _ _ (⟨_, .binOp .gtr _ _ _ _, _, _, _, _⟩ :: _) _ _); first | (refine wplV _ (V.gtr rfl rfl) (by kernel_rfl) ?_; go_step))
    | ((with_reducible show wpList _ _ _ (⟨some 14, .build 77 _, _, _, _, _⟩ :: _) _ _); first | (refine wplV _ (V.build (vs := [(0, _)]) rfl (bl77_0 _ _ _)) (by kernel_rfl) ?_; go_step))
    | ((with_reducible show wpList _ _ _ (⟨some 2, .alloc 50, _, _, _, _⟩ :: _) _ _); first | (refine wpl (by kernel_rfl) ?_; apply wp_allocP (o := ⟨some 2, _, _, _, _, _⟩) hS 50 rfl _ zp50; clear hS; intro g2 w hS; refine put_move ?_; go_step))
    | ((with_reducible show wpList _ _ _ (⟨_, .store 50 _ _, _, _, _, _⟩ :: _) _ _); first | (refine wpl (by kernel_rfl) ?_; apply wp_storePP hS 50 _ _ rfl _ rfl 103 (row_of rfl) _ _; (case hp => (repeat (first | with_reducible exact Pull.head | apply Pull.tail))); (case hy => rfl); (case hn => (repeat (first | exact Pre.nil | (apply Pre.ints; (case hn => (first | (with_reducible assumption) | exact Len.rep | exact Len.set (by with_reducible assumption) | exact Len.set Len.rep | exact Len.set (Len.set Len.rep))); (case h => omega); (case hm => rfl)) | apply Pre.val))); (case hn' => (repeat (first | exact Pre.nil | (apply Pre.ints; (case hn => (first | (with_reducible assumption) | exact Len.rep | exact Len.set (by with_reducible assumption) | exact Len.set Len.rep | exact Len.set (Len.set Len.rep))); (case h => omega); (case hm => rfl)) | apply Pre.val))); (case hv => rfl); (case hd => exact rfl); clear hS; intro w hS) | (refine wpl (by kernel_rfl) ?_; apply wp_storeA hS 50 _ _ rfl _ rfl 103 (row_of rfl) _ _; (case hp => (repeat (first | with_reducible exact Pull.head | apply Pull.tail))); (case hy => rfl); (case hm => (repeat (first | assumption | exact Len.rep | apply Len.set | ((with_reducible show Len (_ :: _) _); exact rfl)))); (case hd => exact rfl); clear hS; intro w hS) | (refine wpl (by kernel_rfl) ?_; apply wp_storeG hS 50 _ _ rfl _ rfl 103 (row_of rfl) _ _; (case hp => (repeat (first | with_reducible exact Pull.head | apply Pull.tail))); (case hy => rfl); (case hn => rfl); (case hn' => rfl); (case hv => rfl); (case hd => exact rfl); clear hS; intro w hS))
    | ((with_reducible show wpList _ _ _ (⟨some 15, .box 77 _, _, _, _, _⟩ :: _) _ _); first | (refine wpl (by kernel_rfl) ?_; apply wp_boxG (o := ⟨some 15, _, _, _, _, _⟩) hS 77 _ rfl _ rfl; clear hS; intro g15 w hS; refine put_move ?_; go_step))
    | ((fail_if_success (with_reducible show wpList _ _ _ (_ :: _) _ _)); go_step))
  replace hS := St.rdr_close (g := g15) (p := 0) (l := l) (W := w0) (by rw [hln]; rfl) hv hS
  repeat' (first
    | ((with_reducible show wpList _ _ _ (⟨some 17, _, _, _, _, _⟩ :: _) _ _); refine wpl_call (f := 34) Try.call34 rfl ?_; refine ⟨_, (number_any _ _ _ _ g15 0 l hS (by (repeat (first | with_reducible exact Pull.head | apply Pull.tail))) hr (by omega) (by omega)), ?_⟩; rintro e w ⟨rfl, hS2⟩; clear hS; rename _ => hS; refine ⟨_, rfl, ?_⟩; refine put_move ?_; go_step)
    | ((with_reducible show wpList _ _ _ (⟨some 19, _, _, _, _, _⟩ :: _) _ _); refine wpl_call (f := 34) Try.call34 rfl ?_; refine ⟨_, (number_any _ _ _ _ g15 1 l hS (by (repeat (first | with_reducible exact Pull.head | apply Pull.tail))) hr (by omega) (by omega)), ?_⟩; rintro e w ⟨rfl, hS2⟩; clear hS; rename _ => hS; refine ⟨_, rfl, ?_⟩; refine put_move ?_; go_step)
    | ((with_reducible show wpList _ _ _ (⟨some 21, _, _, _, _, _⟩ :: _) _ _); refine wpl_call (f := 34) Try.call34 rfl ?_; refine ⟨_, (number_any _ _ _ _ g15 2 l hS (by (repeat (first | with_reducible exact Pull.head | apply Pull.tail))) hr (by omega) (by omega)), ?_⟩; rintro e w ⟨rfl, hS2⟩; clear hS; rename _ => hS; refine ⟨_, rfl, ?_⟩; refine put_move ?_; go_step)
    | ((with_reducible show wpList _ _ _ (⟨some 23, _, _, _, _, _⟩ :: _) _ _); refine wpl_call (f := 34) Try.call34 rfl ?_; refine ⟨_, (number_any _ _ _ _ g15 3 l hS (by (repeat (first | with_reducible exact Pull.head | apply Pull.tail))) hr (by omega) (by omega)), ?_⟩; rintro e w ⟨rfl, hS2⟩; clear hS; rename _ => hS; refine ⟨_, rfl, ?_⟩; refine put_move ?_; go_step)
    | ((with_reducible show wpList _ _ _ (⟨some 25, _, _, _, _, _⟩ :: _) _ _); refine wpl_call (f := 34) Try.call34 rfl ?_; refine ⟨_, (number_any _ _ _ _ g15 4 l hS (by (repeat (first | with_reducible exact Pull.head | apply Pull.tail))) hr (by omega) (by omega)), ?_⟩; rintro e w ⟨rfl, hS2⟩; clear hS; rename _ => hS; refine ⟨_, rfl, ?_⟩; refine put_move ?_; go_step)
    | ((with_reducible show wpList _ _ _ (⟨some 27, _, _, _, _, _⟩ :: _) _ _); refine wpl_call (f := 34) Try.call34 rfl ?_; refine ⟨_, (number_any _ _ _ _ g15 5 l hS (by (repeat (first | with_reducible exact Pull.head | apply Pull.tail))) hr (by omega) (by omega)), ?_⟩; rintro e w ⟨rfl, hS2⟩; clear hS; rename _ => hS; refine ⟨_, rfl, ?_⟩; refine put_move ?_; go_step)
    | ((with_reducible show wpList _ _ _ (⟨some 28, _, _, _, _, _⟩ :: _) _ _); refine wplV _ (V.build (vs := [(0, .int .i64 (nth l 2)), (1, .int .i64 (nth l 3)), (2, .int .i64 (nth l 4)), (5, .int .i64 (nth l 5))]) rfl (build_f4 _ _ _ _)) (by kernel_rfl) ?_; go_step)
    | go_skip
    | go_big_skip
    | ((with_reducible show wpList _ _ _ (⟨_, .move _, _, _, _, _⟩ :: _) _ _); (first | go_big_want | go_step); go_step)
    | ((with_reducible show wpList _ _ _ (⟨_, .assign _, _, _, _, _⟩ :: _) _ _); (first | go_big_want | go_step); go_step)
    | ((with_reducible show wpList _ _ _ (⟨_, .pick _ _ _, _, _, _, _⟩ :: _) _ _); first | (refine wplPickT rfl (by kernel_rfl) ?_; go_step) | (refine wplPickF rfl (by kernel_rfl) ?_; go_step))
    | ((with_reducible show wpList _ _ _ (⟨some 5, .alloc 50, _, _, _, _⟩ :: _) _ _); first | (refine wpl (by kernel_rfl) ?_; apply wp_allocP (o := ⟨some 5, _, _, _, _, _⟩) hS 50 rfl _ zp50; clear hS; intro g5 w hS; refine put_move ?_; go_step))
    | ((with_reducible show wpList _ _ _ (⟨_, .store 50 _ _, _, _, _, _⟩ :: _) _ _); first | (refine wpl (by kernel_rfl) ?_; apply wp_storePP hS 50 _ _ rfl _ rfl 103 (row_of rfl) _ _; (case hp => (repeat (first | with_reducible exact Pull.head | apply Pull.tail))); (case hy => rfl); (case hn => (repeat (first | exact Pre.nil | (apply Pre.ints; (case hn => (first | (with_reducible assumption) | exact Len.rep | exact Len.set (by with_reducible assumption) | exact Len.set Len.rep | exact Len.set (Len.set Len.rep))); (case h => omega); (case hm => rfl)) | apply Pre.val))); (case hn' => (repeat (first | exact Pre.nil | (apply Pre.ints; (case hn => (first | (with_reducible assumption) | exact Len.rep | exact Len.set (by with_reducible assumption) | exact Len.set Len.rep | exact Len.set (Len.set Len.rep))); (case h => omega); (case hm => rfl)) | apply Pre.val))); (case hv => rfl); (case hd => exact rfl); clear hS; intro w hS) | (refine wpl (by kernel_rfl) ?_; apply wp_storeA hS 50 _ _ rfl _ rfl 103 (row_of rfl) _ _; (case hp => (repeat (first | with_reducible exact Pull.head | apply Pull.tail))); (case hy => rfl); (case hm => (repeat (first | assumption | exact Len.rep | apply Len.set | ((with_reducible show Len (_ :: _) _); exact rfl)))); (case hd => exact rfl); clear hS; intro w hS) | (refine wpl (by kernel_rfl) ?_; apply wp_storeG hS 50 _ _ rfl _ rfl 103 (row_of rfl) _ _; (case hp => (repeat (first | with_reducible exact Pull.head | apply Pull.tail))); (case hy => rfl); (case hn => rfl); (case hn' => rfl); (case hv => rfl); (case hd => exact rfl); clear hS; intro w hS))
    | ((fail_if_success (with_reducible show wpList _ _ _ (_ :: _) _ _)); go_step))
  dsimp only [fparts] at hS
  have hr1 := rA_in l hr.out 70 16
  go_loopg [29] 64 (fun gk kv w => ∃ k : Nat, gk + k = 64 ∧ kv = .int .i64 k ∧ St w0 w [prt g5 [.val (.int .i64 (nth l 2)), .val (.int .i64 (nth l 3)), .val (.int .i64 (nth l 4)), .ints (rQ l k ++ List.replicate (64 - k) 0), .ints (List.replicate 16 0), .val (.slice none 0 0), .ints (List.replicate 16 0), .val (.slice none 0 0), .val (.int .i64 (nth l 5)), .val (.slice none 0 0)], rdr w0 g15 l (6 + k),
    prt g2 [.val (.int .i64 0), .val (.int .i64 0), .val (.int .i64 0), .ints (List.replicate 64 0), .ints (List.replicate 16 0), .val (.slice none 0 0), .ints (List.replicate 16 0), .val (.slice none 0 0), .val (.int .i64 0), .val (.slice none 0 0)]])
  case atStart => exact ⟨0, rfl, rfl, by rw [show rQ l 0 ++ List.replicate (64 - 0) 0 = List.replicate 64 0 from rfl]; exact hS.sub (by (repeat (first | exact Sub.nil | with_reducible exact Sub.refl | (apply Sub.cons; (case p => (repeat (first | with_reducible exact Pull.head | apply Pull.tail)))) | apply Sub.skip)))⟩
  case round =>
    clear hS
    obtain ⟨k, hk, rfl, hS⟩ := hrel
    by_cases hlt : k < 64
    · have HS := hid (rQ_set l k hlt)
      have hLen2 : Len (rQ l k ++ List.replicate (64 - k) 0) 64 := hid (by simp [rQ]; omega)
      obtain ⟨R, hR⟩ : ∃ x, rQ l k ++ List.replicate (64 - k) 0 = x := ⟨_, rfl⟩
      rw [hR] at HS hS hLen2
      clear hR
      repeat' (first
        | ((with_reducible show wpList _ _ _ (⟨some 34, _, _, _, _, _⟩ :: _) _ _); refine wpl_call (f := 34) Try.call34 rfl ?_; refine ⟨_, (number_any _ _ _ _ g15 (6 + k) l hS (by (repeat (first | with_reducible exact Pull.head | apply Pull.tail))) hr (by omega) (by omega)), ?_⟩; rintro e w ⟨rfl, hS2⟩; clear hS; rename _ => hS; refine ⟨_, rfl, ?_⟩; refine put_move ?_; go_step)
        | ((with_reducible show wpList _ _ _ (⟨some 36, _, _, _, _, _⟩ :: _) _ _); refine wplV (.pointer (some ⟨g5, k + 3, none⟩)) (V.indexAr Try.underlying23 isz3 rfl rfl IsN.cast (by omega) (Nat.mul_one _) (Nat.add_comm 3 k)) (by kernel_rfl) ?_; go_step)
        | go_skip
        | go_big_skip
        | ((with_reducible show wpList _ _ _ (⟨_, .move _, _, _, _, _⟩ :: _) _ _); (first | go_big_want | go_step); go_step)
        | ((with_reducible show wpList _ _ _ (⟨_, .assign _, _, _, _, _⟩ :: _) _ _); (first | go_big_want | go_step); go_step)
        | ((with_reducible show wpList _ _ _ (⟨_, .pick _ _ _, _, _, _, _⟩ :: _) _ _); first | (refine wplPickT rfl (by kernel_rfl) ?_; go_step) | (refine wplPickF rfl (by kernel_rfl) ?_; go_step))
        | ((with_reducible show wpList _ _ _ (⟨_, .binOp .lss _ _ _ _, _, _, _, _⟩ :: _) _ _); first | (refine wplV _ (V.lss rfl rfl) (by kernel_rfl) ?_; go_step))
        | ((with_reducible show wpList _ _ _ (⟨_, .fieldAddr 50 _ 3, _, _, _, _⟩ :: _) _ _); first | (refine wplV _ (V.fieldAddr fo50_3 rfl (by first | with_reducible exact Nat.zero_add _ | with_reducible exact Nat.add_zero _ | exact rfl)) (by kernel_rfl) ?_; go_step))
        | ((with_reducible show wpList _ _ _ (⟨some 36, .indexAddr 23 _ _, _, _, _, _⟩ :: _) _ _); first | (refine wplV _ (V.indexAr Try.underlying23 isz3 rfl rfl (by (repeat (first | exact IsN.auto | with_reducible apply IsN.add | with_reducible apply IsN.sub | with_reducible apply IsN.mul | with_reducible apply IsN.div | with_reducible apply IsN.mod | with_reducible apply IsN.min | with_reducible apply IsN.max | (with_reducible show (_ : Nat) ≤ _; omega) | exact IsN.toNat (by omega)))) (by omega) (Nat.mul_one _) (by first | with_reducible exact Nat.zero_add _ | with_reducible exact Nat.add_zero _ | exact rfl)) (by kernel_rfl) ?_; go_step))
        | ((with_reducible show wpList _ _ _ (⟨_, .binOp .add _ _ _ _, _, _, _, _⟩ :: _) _ _); first | (refine wplV _ (V.addI rfl rfl (by omega)) (by kernel_rfl) ?_; go_step) | (refine wplV _ (V.addR (by decide) rfl rfl) (by kernel_rfl) ?_; go_step))
        | ((with_reducible show wpList _ _ _ (⟨_, .store 3 _ _, _, _, _, _⟩ :: _) _ _); first | (refine wpl (by kernel_rfl) ?_; apply wp_store1A hS 3 _ _ rfl _ _ rfl (one_of rfl) _ _; (case hp => (repeat (first | with_reducible exact Pull.head | apply Pull.tail))); (case hy => rfl); (case hi => omega); (case hd => exact rfl); clear hS; intro w hS) | (refine wpl (by kernel_rfl) ?_; apply wp_store1 hS 3 _ _ rfl _ _ rfl (one_of rfl) _ _; (case hp => (repeat (first | with_reducible exact Pull.head | apply Pull.tail))); (case hy => (first | exact IsV.int rfl | exact IsV.bool rfl | exact IsV.slice rfl | exact IsV.pointer rfl | exact IsV.string rfl | exact IsV.map rfl | exact IsV.func rfl)); (case hv => rfl); (case hc => (repeat (first | with_reducible exact SetAt.head | apply SetAt.tail))); (case hd => exact rfl); clear hS; intro w hS) | (refine wpl (by kernel_rfl) ?_; apply wp_store1OI hS 3 _ _ rfl _ _ rfl (one_of rfl) _ _ _ _ _; (case hp => (repeat (first | with_reducible exact Pull.head | apply Pull.tail))); (case hy => rfl); (case hi => omega); (case hd => exact rfl); clear hS; intro w hS) | (refine wpl (by kernel_rfl) ?_; apply wp_store1P hS 3 _ _ rfl _ _ rfl (one_of rfl) _ _; (case hp => (repeat (first | with_reducible exact Pull.head | apply Pull.tail))); (case hy => rfl); (case hi => (repeat (first | (apply PutI.head; (case hn => (first | (with_reducible assumption) | exact Len.rep | exact Len.set (by with_reducible assumption) | exact Len.set Len.rep | exact Len.set (Len.set Len.rep))); (case h => omega)) | (apply PutI.skipI; (case hn => (first | (with_reducible assumption) | exact Len.rep | exact Len.set (by with_reducible assumption) | exact Len.set Len.rep | exact Len.set (Len.set Len.rep))); (case h => omega); (case ho => rfl)) | apply PutI.skipV))); (case hd => exact rfl); clear hS; intro w hS) | (refine wpl (by kernel_rfl) ?_; apply wp_storeVP hS 3 _ _ rfl _ _ rfl (one_of rfl) _ _; (case hp => (repeat (first | with_reducible exact Pull.head | apply Pull.tail))); (case hy => (first | exact IsV.int rfl | exact IsV.bool rfl | exact IsV.slice rfl | exact IsV.pointer rfl | exact IsV.string rfl | exact IsV.map rfl | exact IsV.func rfl)); (case hz => rfl); (case hi => (repeat (first | exact PutV.head | (apply PutV.skipI; (case hn => (first | (with_reducible assumption) | exact Len.rep | exact Len.set (by with_reducible assumption) | exact Len.set Len.rep | exact Len.set (Len.set Len.rep))); (case h => omega); (case ho => rfl)) | apply PutV.skipV))); (case hd => exact rfl); clear hS; intro w hS) | (refine wpl (by kernel_rfl) ?_; apply wp_store1O hS 3 _ _ rfl _ _ rfl (one_of rfl) _ _ _ _ _; (case hp => (repeat (first | with_reducible exact Pull.head | apply Pull.tail))); (case hy => (first | exact IsV.int rfl | exact IsV.bool rfl | exact IsV.slice rfl | exact IsV.pointer rfl | exact IsV.string rfl | exact IsV.map rfl | exact IsV.func rfl)); (case hv => rfl); (case hi => omega); (case hd => exact rfl); clear hS; intro w hS))
        | ((fail_if_success (with_reducible show wpList _ _ _ (_ :: _) _ _)); go_step))
      rw [HS.out] at hS
      go_roundg (gk - 1)
      case measure => omega
      case rel => exact ⟨k + 1, by omega, by go_num, by rw [show 6 + (k + 1) = 6 + k + 1 from rfl]; exact hS.sub (by (repeat (first | exact Sub.nil | with_reducible exact Sub.refl | (apply Sub.cons; (case p => (repeat (first | with_reducible exact Pull.head | apply Pull.tail)))) | apply Sub.skip)))⟩
    · obtain rfl : k = 64 := by omega
      rw [show rQ l 64 ++ List.replicate (64 - 64) 0 = rQ l 64 by simp] at hS
      have hq64 : (rQ l 64).length = 64 := by simp [rQ]
      have hz64 := zfrom_len (rQ l 64)
      have HQ := hid hq64
      have hLQ : Len (rQ l 64) 64 := hid hq64
      have hLZ : Len (zfrom (rQ l 64)) 64 := hid hz64
      obtain ⟨Q0, hQ0⟩ : ∃ x, rQ l 64 = x := ⟨_, rfl⟩
      obtain ⟨Q1, hQ1⟩ : ∃ x, zfrom (rQ l 64) = x := ⟨_, rfl⟩
      rw [hQ1] at hLZ
      rw [hQ0] at hLQ hS HQ hQ1
      have HQ0 : Veil2 (rQ l 64 = Q0) := ⟨hQ0⟩
      have HQ1 : Veil2 (zfrom Q0 = Q1) := ⟨hQ1⟩
      clear hQ0 hQ1 hq64 hz64
      have hRep : Rep [.ints Q1] (gp (nth l 2) (nth l 3) (nth l 4) Q0 (List.replicate 16 0) (.slice none 0 0) (List.replicate 16 0) (.slice none 0 0) (nth l 5) (.slice none 0 0)) 3 (gp (nth l 2) (nth l 3) (nth l 4) Q1 (List.replicate 16 0) (.slice none 0 0) (List.replicate 16 0) (.slice none 0 0) (nth l 5) (.slice none 0 0)) := rep_quant hLQ hLZ
      have hl1 : (pcells [.ints Q1]).length = 64 := by simp [pcells, Part.cells, hLZ.out]
      have hLn0 : Len (List.replicate 16 0) 16 := Len.rep
      obtain ⟨C1, hC1⟩ : ∃ x, rCl l 70 16 = x := ⟨_, rfl⟩
      have hLC1 : Len C1 16 := hid (by rw [← hC1]; simp [rCl])
      obtain ⟨A1, hA1⟩ : ∃ x, rA l 70 16 = x := ⟨_, rfl⟩
      rw [hA1] at hr1
      have HC1 : Veil2 (rCl l 70 16 = C1) := ⟨hC1⟩
      have HA1 : Veil2 (rA l 70 16 = A1) := ⟨hA1⟩
      have ht1 : ∀ v, (pcells [.ints C1, .val v]).length = 17 := fun v => tabLen C1 v hLC1
      clear hC1 hA1
      repeat' (first
        | ((with_reducible show wpList _ _ _ (⟨_, .call ⟨.value (.func 35), _, _⟩, _, _, _, _⟩ :: _) _ _); refine wpl_call (f := 35) Try.call35 rfl ?_; refine ⟨_, (zfrom_any _ Q0 HQ.out), ?_⟩; rintro e w ⟨rfl, hE2⟩; rw [HQ1.out]; replace hS := hS.ext hE2; clear hE2; refine ⟨_, rfl, ?_⟩; refine put_move ?_; go_step)
        | ((with_reducible show wpList _ _ _ (⟨some 43, _, _, _, _, _⟩ :: _) _ _); refine wpl_call (f := 36) Try.call36 rfl ?_; refine ⟨_, (table_any _ _ _ _ g15 70 l hS (by (repeat (first | with_reducible exact Pull.head | apply Pull.tail))) hr (by omega) (by omega)), ?_⟩; rintro e w ⟨j1, sa1, sc1, rfl, hj1, hk1, hS2⟩; clear hS; rename _ => hS; rw [HC1.out]; rw [HA1.out] at hj1 hk1; replace hk1 : Veil2 _ := ⟨hk1⟩; refine ⟨_, rfl, ?_⟩; refine put_move ?_; go_step)
        | ((with_reducible show wpList _ _ _ (⟨_, .store 23 _ _, _, _, _, _⟩ :: _) _ _); refine wpl (by kernel_rfl) ?_; refine wp_storeMP hS 23 _ _ rfl g5 3 rfl 64 (row_of rfl) _ _ [.ints Q1] (by (repeat (first | with_reducible exact Pull.head | apply Pull.tail))) (iv_pcells Q1) hRep hl1 rfl rfl ?_; clear hS; intro w hS)
        | ((with_reducible show wpList _ _ _ (⟨_, .store 45 _ _, _, _, _, _⟩ :: _) _ _); refine wpl (by kernel_rfl) ?_; refine wp_storeMP hS 45 _ _ rfl g5 67 rfl 17 (row_of rfl) _ _ [.ints C1, .val _] (by (repeat (first | with_reducible exact Pull.head | apply Pull.tail))) rfl (rep_first hLZ hLn0 hLC1) (ht1 _) rfl rfl ?_; clear hS; intro w hS)
        | go_skip
        | go_big_skip
        | ((with_reducible show wpList _ _ _ (⟨_, .move _, _, _, _, _⟩ :: _) _ _); (first | go_big_want | go_step); go_step)
        | ((with_reducible show wpList _ _ _ (⟨_, .assign _, _, _, _, _⟩ :: _) _ _); (first | go_big_want | go_step); go_step)
        | ((with_reducible show wpList _ _ _ (⟨_, .pick _ _ _, _, _, _, _⟩ :: _) _ _); first | (refine wplPickT rfl (by kernel_rfl) ?_; go_step) | (refine wplPickF rfl (by kernel_rfl) ?_; go_step))
        | ((with_reducible show wpList _ _ _ (⟨_, .binOp .lss _ _ _ _, _, _, _, _⟩ :: _) _ _); first | (refine wplV _ (V.lss rfl rfl) (by kernel_rfl) ?_; go_step))
        | ((with_reducible show wpList _ _ _ (⟨_, .fieldAddr 50 _ 3, _, _, _, _⟩ :: _) _ _); first | (refine wplV _ (V.fieldAddr fo50_3 rfl (by first | with_reducible exact Nat.zero_add _ | with_reducible exact Nat.add_zero _ | exact rfl)) (by kernel_rfl) ?_; go_step))
        | ((with_reducible show wpList _ _ _ (⟨some 36, .indexAddr 23 _ _, _, _, _, _⟩ :: _) _ _); first | (refine wplV _ (V.indexAr Try.underlying23 isz3 rfl rfl (by (repeat (first | exact IsN.auto | with_reducible apply IsN.add | with_reducible apply IsN.sub | with_reducible apply IsN.mul | with_reducible apply IsN.div | with_reducible apply IsN.mod | with_reducible apply IsN.min | with_reducible apply IsN.max | (with_reducible show (_ : Nat) ≤ _; omega) | exact IsN.toNat (by omega)))) (by omega) (Nat.mul_one _) (by first | with_reducible exact Nat.zero_add _ | with_reducible exact Nat.add_zero _ | exact rfl)) (by kernel_rfl) ?_; go_step))
        | ((with_reducible show wpList _ _ _ (⟨_, .binOp .add _ _ _ _, _, _, _, _⟩ :: _) _ _); first | (refine wplV _ (V.addI rfl rfl (by omega)) (by kernel_rfl) ?_; go_step) | (refine wplV _ (V.addR (by decide) rfl rfl) (by kernel_rfl) ?_; go_step))
        | ((with_reducible show wpList _ _ _ (⟨_, .fieldAddr 50 _ 4, _, _, _, _⟩ :: _) _ _); first | (refine wplV _ (V.fieldAddr fo50_4 rfl (by first | with_reducible exact Nat.zero_add _ | with_reducible exact Nat.add_zero _ | exact rfl)) (by kernel_rfl) ?_; go_step))
        | ((with_reducible show wpList _ _ _ (⟨_, .fieldAddr 47 _ 0, _, _, _, _⟩ :: _) _ _); first | (refine wplV _ (V.fieldAddr fo47_0 rfl (by first | with_reducible exact Nat.zero_add _ | with_reducible exact Nat.add_zero _ | exact rfl)) (by kernel_rfl) ?_; go_step))
        | ((with_reducible show wpList _ _ _ (⟨_, .store 3 _ _, _, _, _, _⟩ :: _) _ _); first | (refine wpl (by kernel_rfl) ?_; apply wp_store1A hS 3 _ _ rfl _ _ rfl (one_of rfl) _ _; (case hp => (repeat (first | with_reducible exact Pull.head | apply Pull.tail))); (case hy => rfl); (case hi => omega); (case hd => exact rfl); clear hS; intro w hS) | (refine wpl (by kernel_rfl) ?_; apply wp_store1 hS 3 _ _ rfl _ _ rfl (one_of rfl) _ _; (case hp => (repeat (first | with_reducible exact Pull.head | apply Pull.tail))); (case hy => (first | exact IsV.int rfl | exact IsV.bool rfl | exact IsV.slice rfl | exact IsV.pointer rfl | exact IsV.string rfl | exact IsV.map rfl | exact IsV.func rfl)); (case hv => rfl); (case hc => (repeat (first | with_reducible exact SetAt.head | apply SetAt.tail))); (case hd => exact rfl); clear hS; intro w hS) | (refine wpl (by kernel_rfl) ?_; apply wp_store1OI hS 3 _ _ rfl _ _ rfl (one_of rfl) _ _ _ _ _; (case hp => (repeat (first | with_reducible exact Pull.head | apply Pull.tail))); (case hy => rfl); (case hi => omega); (case hd => exact rfl); clear hS; intro w hS) | (refine wpl (by kernel_rfl) ?_; apply wp_store1P hS 3 _ _ rfl _ _ rfl (one_of rfl) _ _; (case hp => (repeat (first | with_reducible exact Pull.head | apply Pull.tail))); (case hy => rfl); (case hi => (repeat (first | (apply PutI.head; (case hn => (first | (with_reducible assumption) | exact Len.rep | exact Len.set (by with_reducible assumption) | exact Len.set Len.rep | exact Len.set (Len.set Len.rep))); (case h => omega)) | (apply PutI.skipI; (case hn => (first | (with_reducible assumption) | exact Len.rep | exact Len.set (by with_reducible assumption) | exact Len.set Len.rep | exact Len.set (Len.set Len.rep))); (case h => omega); (case ho => rfl)) | apply PutI.skipV))); (case hd => exact rfl); clear hS; intro w hS) | (refine wpl (by kernel_rfl) ?_; apply wp_storeVP hS 3 _ _ rfl _ _ rfl (one_of rfl) _ _; (case hp => (repeat (first | with_reducible exact Pull.head | apply Pull.tail))); (case hy => (first | exact IsV.int rfl | exact IsV.bool rfl | exact IsV.slice rfl | exact IsV.pointer rfl | exact IsV.string rfl | exact IsV.map rfl | exact IsV.func rfl)); (case hz => rfl); (case hi => (repeat (first | exact PutV.head | (apply PutV.skipI; (case hn => (first | (with_reducible assumption) | exact Len.rep | exact Len.set (by with_reducible assumption) | exact Len.set Len.rep | exact Len.set (Len.set Len.rep))); (case h => omega); (case ho => rfl)) | apply PutV.skipV))); (case hd => exact rfl); clear hS; intro w hS) | (refine wpl (by kernel_rfl) ?_; apply wp_store1O hS 3 _ _ rfl _ _ rfl (one_of rfl) _ _ _ _ _; (case hp => (repeat (first | with_reducible exact Pull.head | apply Pull.tail))); (case hy => (first | exact IsV.int rfl | exact IsV.bool rfl | exact IsV.slice rfl | exact IsV.pointer rfl | exact IsV.string rfl | exact IsV.map rfl | exact IsV.func rfl)); (case hv => rfl); (case hi => omega); (case hd => exact rfl); clear hS; intro w hS))
        | ((with_reducible show wpList _ _ _ (⟨_, .load 23 _, _, _, _, _⟩ :: _) _ _); first | (refine wpl (by kernel_rfl) ?_; apply wp_loadRP hS 23 _ rfl _ _ rfl 64 (row_of rfl) _; (case hp => (repeat (first | with_reducible exact Pull.head | apply Pull.tail))); (case hi => (repeat (first | (apply AtR.head; (first | (with_reducible assumption) | exact Len.rep | exact Len.set (by with_reducible assumption) | exact Len.set Len.rep | exact Len.set (Len.set Len.rep))) | (apply AtR.skipI; (case hn => (first | (with_reducible assumption) | exact Len.rep | exact Len.set (by with_reducible assumption) | exact Len.set Len.rep | exact Len.set (Len.set Len.rep))); (case h => omega); (case ho => rfl)) | apply AtR.skipV))); refine put_move ?_; go_step) | (refine wpl (by kernel_rfl) ?_; apply wp_loadRI hS 23 _ rfl _ _ rfl 64 (row_of rfl) _; (case hl => with_reducible assumption); (case hr => with_reducible assumption); refine put_move ?_; go_step) | (refine wpl (by kernel_rfl) ?_; apply wp_loadRO hS 23 _ rfl _ _ rfl 64 (row_of rfl) _ _ _ _ _; (case hp => (repeat (first | with_reducible exact Pull.head | apply Pull.tail))); (case hi => omega); refine put_move ?_; go_step) | (refine wpl (by kernel_rfl) ?_; apply wp_loadA hS 23 _ rfl _ rfl 64 (row_of rfl) _; (case hp => (repeat (first | with_reducible exact Pull.head | apply Pull.tail))); refine put_move ?_; go_step) | (refine wpl (by kernel_rfl) ?_; apply wp_loadG hS 23 _ rfl _ rfl 64 (row_of rfl) _; (case hp => (repeat (first | with_reducible exact Pull.head | apply Pull.tail))); (case hn => rfl); refine put_move ?_; go_step) | (refine wpl (by kernel_rfl) ?_; apply wp_loadRW hS 23 _ rfl _ _ rfl 64 (row_of rfl) _; (case hc => with_reducible assumption); (case hn => rfl); refine put_move ?_; go_step))
        | ((with_reducible show wpList _ _ _ (⟨_, .store 23 _ _, _, _, _, _⟩ :: _) _ _); first | (refine wpl (by kernel_rfl) ?_; apply wp_storeA hS 23 _ _ rfl _ rfl 64 (row_of rfl) _ _; (case hp => (repeat (first | with_reducible exact Pull.head | apply Pull.tail))); (case hy => rfl); (case hm => (repeat (first | assumption | exact Len.rep | apply Len.set | ((with_reducible show Len (_ :: _) _); exact rfl)))); (case hd => exact rfl); clear hS; intro w hS) | (refine wpl (by kernel_rfl) ?_; apply wp_storeG hS 23 _ _ rfl _ rfl 64 (row_of rfl) _ _; (case hp => (repeat (first | with_reducible exact Pull.head | apply Pull.tail))); (case hy => rfl); (case hn => rfl); (case hn' => rfl); (case hv => rfl); (case hd => exact rfl); clear hS; intro w hS))
        | ((with_reducible show wpList _ _ _ (⟨_, .store 45 _ _, _, _, _, _⟩ :: _) _ _); first | (refine wpl (by kernel_rfl) ?_; apply wp_storePP hS 45 _ _ rfl _ rfl 17 (row_of rfl) _ _; (case hp => (repeat (first | with_reducible exact Pull.head | apply Pull.tail))); (case hy => rfl); (case hn => (repeat (first | exact Pre.nil | (apply Pre.ints; (case hn => (first | (with_reducible assumption) | exact Len.rep | exact Len.set (by with_reducible assumption) | exact Len.set Len.rep | exact Len.set (Len.set Len.rep))); (case h => omega); (case hm => rfl)) | apply Pre.val))); (case hn' => (repeat (first | exact Pre.nil | (apply Pre.ints; (case hn => (first | (with_reducible assumption) | exact Len.rep | exact Len.set (by with_reducible assumption) | exact Len.set Len.rep | exact Len.set (Len.set Len.rep))); (case h => omega); (case hm => rfl)) | apply Pre.val))); (case hv => rfl); (case hd => exact rfl); clear hS; intro w hS) | (refine wpl (by kernel_rfl) ?_; apply wp_storeA hS 45 _ _ rfl _ rfl 17 (row_of rfl) _ _; (case hp => (repeat (first | with_reducible exact Pull.head | apply Pull.tail))); (case hy => rfl); (case hm => (repeat (first | assumption | exact Len.rep | apply Len.set | ((with_reducible show Len (_ :: _) _); exact rfl)))); (case hd => exact rfl); clear hS; intro w hS) | (refine wpl (by kernel_rfl) ?_; apply wp_storeG hS 45 _ _ rfl _ rfl 17 (row_of rfl) _ _; (case hp => (repeat (first | with_reducible exact Pull.head | apply Pull.tail))); (case hy => rfl); (case hn => rfl); (case hn' => rfl); (case hv => rfl); (case hd => exact rfl); clear hS; intro w hS))
        | ((fail_if_success (with_reducible show wpList _ _ _ (_ :: _) _ _)); go_step))
      obtain ⟨C2, hC2⟩ : ∃ x, rCl l (102 + j1) 16 = x := ⟨_, rfl⟩
      have hLC2 : Len C2 16 := hid (by rw [← hC2]; simp [rCl])
      have hr2 := rA_in l hr.out (102 + j1) 16
      obtain ⟨A2, hA2⟩ : ∃ x, rA l (102 + j1) 16 = x := ⟨_, rfl⟩
      rw [hA2] at hr2
      have HC2 : Veil2 (rCl l (102 + j1) 16 = C2) := ⟨hC2⟩
      have HA2 : Veil2 (rA l (102 + j1) 16 = A2) := ⟨hA2⟩
      have ht2 : ∀ v, (pcells [.ints C2, .val v]).length = 17 := fun v => tabLen C2 v hLC2
      clear hC2 hA2
      rw [show 70 + 32 + j1 = 102 + j1 from rfl] at hS
      repeat' (first
        | ((with_reducible show wpList _ _ _ (⟨some 47, _, _, _, _, _⟩ :: _) _ _); refine wpl_call (f := 36) Try.call36 rfl ?_; refine ⟨_, (table_any _ _ _ _ g15 (102 + j1) l hS (by (repeat (first | with_reducible exact Pull.head | apply Pull.tail))) hr (by omega) (by omega)), ?_⟩; rintro e w ⟨j2, sa2, sc2, rfl, hj2, hk2, hS2⟩; clear hS; rename _ => hS; rw [HC2.out]; rw [HA2.out] at hj2 hk2; replace hk2 : Veil2 _ := ⟨hk2⟩; refine ⟨_, rfl, ?_⟩; refine put_move ?_; go_step)
        | ((with_reducible show wpList _ _ _ (⟨_, .store 45 _ _, _, _, _, _⟩ :: _) _ _); refine wpl (by kernel_rfl) ?_; refine wp_storeMP hS 45 _ _ rfl g5 84 rfl 17 (row_of rfl) _ _ [.ints C2, .val _] (by (repeat (first | with_reducible exact Pull.head | apply Pull.tail))) rfl (rep_rest hLZ hLC1 hLn0 hLC2) (ht2 _) rfl rfl ?_; clear hS; intro w hS)
        | go_skip
        | go_big_skip
        | ((with_reducible show wpList _ _ _ (⟨_, .move _, _, _, _, _⟩ :: _) _ _); (first | go_big_want | go_step); go_step)
        | ((with_reducible show wpList _ _ _ (⟨_, .assign _, _, _, _, _⟩ :: _) _ _); (first | go_big_want | go_step); go_step)
        | ((with_reducible show wpList _ _ _ (⟨_, .pick _ _ _, _, _, _, _⟩ :: _) _ _); first | (refine wplPickT rfl (by kernel_rfl) ?_; go_step) | (refine wplPickF rfl (by kernel_rfl) ?_; go_step))
        | ((with_reducible show wpList _ _ _ (⟨_, .fieldAddr 50 _ 4, _, _, _, _⟩ :: _) _ _); first | (refine wplV _ (V.fieldAddr fo50_4 rfl (by first | with_reducible exact Nat.zero_add _ | with_reducible exact Nat.add_zero _ | exact rfl)) (by kernel_rfl) ?_; go_step))
        | ((with_reducible show wpList _ _ _ (⟨_, .fieldAddr 47 _ 1, _, _, _, _⟩ :: _) _ _); first | (refine wplV _ (V.fieldAddr fo47_1 rfl (by first | with_reducible exact Nat.zero_add _ | with_reducible exact Nat.add_zero _ | exact rfl)) (by kernel_rfl) ?_; go_step))
        | ((with_reducible show wpList _ _ _ (⟨_, .store 45 _ _, _, _, _, _⟩ :: _) _ _); first | (refine wpl (by kernel_rfl) ?_; apply wp_storePP hS 45 _ _ rfl _ rfl 17 (row_of rfl) _ _; (case hp => (repeat (first | with_reducible exact Pull.head | apply Pull.tail))); (case hy => rfl); (case hn => (repeat (first | exact Pre.nil | (apply Pre.ints; (case hn => (first | (with_reducible assumption) | exact Len.rep | exact Len.set (by with_reducible assumption) | exact Len.set Len.rep | exact Len.set (Len.set Len.rep))); (case h => omega); (case hm => rfl)) | apply Pre.val))); (case hn' => (repeat (first | exact Pre.nil | (apply Pre.ints; (case hn => (first | (with_reducible assumption) | exact Len.rep | exact Len.set (by with_reducible assumption) | exact Len.set Len.rep | exact Len.set (Len.set Len.rep))); (case h => omega); (case hm => rfl)) | apply Pre.val))); (case hv => rfl); (case hd => exact rfl); clear hS; intro w hS) | (refine wpl (by kernel_rfl) ?_; apply wp_storeA hS 45 _ _ rfl _ rfl 17 (row_of rfl) _ _; (case hp => (repeat (first | with_reducible exact Pull.head | apply Pull.tail))); (case hy => rfl); (case hm => (repeat (first | assumption | exact Len.rep | apply Len.set | ((with_reducible show Len (_ :: _) _); exact rfl)))); (case hd => exact rfl); clear hS; intro w hS) | (refine wpl (by kernel_rfl) ?_; apply wp_storeG hS 45 _ _ rfl _ rfl 17 (row_of rfl) _ _; (case hp => (repeat (first | with_reducible exact Pull.head | apply Pull.tail))); (case hy => rfl); (case hn => rfl); (case hn' => rfl); (case hv => rfl); (case hd => exact rfl); clear hS; intro w hS))
        | ((fail_if_success (with_reducible show wpList _ _ _ (_ :: _) _ _)); go_step))
      obtain ⟨ra, rc, rm, hrm, hrv, hS⟩ := hS.rdr_open (by (repeat (first | with_reducible exact Pull.head | apply Pull.tail)))
      by_cases hsh : l.length < 102 + j1 + 32 + j2
      · have hE3 : Veil2 (parseE l = 3) := ⟨by
          rw [parseE, if_neg (by omega), if_pos (pq_short (HA1.out.symm ▸ hj1) (by rw [HA1.out]; exact hk1.out) (HA2.out.symm ▸ hj2) hsh)]⟩
        rw [decide_eq_true hsh] at hS
        repeat' (first
          | ((with_reducible show wpList _ _ _ (⟨some 54, _, _, _, _, _⟩ :: _) _ _); refine wplV _ (V.build (vs := []) rfl build_f0) (by kernel_rfl) ?_; go_step)
          | go_skip
          | go_big_skip
          | ((with_reducible show wpList _ _ _ (⟨_, .move _, _, _, _, _⟩ :: _) _ _); (first | go_big_want | go_step); go_step)
          | ((with_reducible show wpList _ _ _ (⟨_, .assign _, _, _, _, _⟩ :: _) _ _); (first | go_big_want | go_step); go_step)
          | ((with_reducible show wpList _ _ _ (⟨_, .pick _ _ _, _, _, _, _⟩ :: _) _ _); first | (refine wplPickT rfl (by kernel_rfl) ?_; go_step) | (refine wplPickF rfl (by kernel_rfl) ?_; go_step))
          | ((with_reducible show wpList _ _ _ (⟨_, .nilCheck _, _, _, _, _⟩ :: _) _ _); first | (refine wplV _ (V.nilCheck rfl) (by kernel_rfl) ?_; go_step) | (refine wplV _ (V.nilCheckF rfl) (by kernel_rfl) ?_; go_step))
          | ((with_reducible show wpList _ _ _ (⟨_, .fieldAddr 77 _ 1, _, _, _, _⟩ :: _) _ _); first | (refine wplV _ (V.fieldAddr fo77_1 rfl (by first | with_reducible exact Nat.zero_add _ | with_reducible exact Nat.add_zero _ | exact rfl)) (by kernel_rfl) ?_; go_step))
          | ((with_reducible show wpList _ _ _ (⟨_, .load 4 _, _, _, _, _⟩ :: _) _ _); first | (refine wpl (by kernel_rfl) ?_; apply wp_load1 hS 4 _ rfl _ _ rfl (one_of rfl) _; (case hp => (repeat (first | with_reducible exact Pull.head | apply Pull.tail))); (case hc => rfl); refine put_move ?_; go_step) | (refine wpl (by kernel_rfl) ?_; apply wp_load1O hS 4 _ rfl _ _ rfl (one_of rfl) _ _ _ _ _; (case hp => (repeat (first | with_reducible exact Pull.head | apply Pull.tail))); (case hv => with_reducible assumption); refine put_move ?_; go_step) | (refine wpl (by kernel_rfl) ?_; apply wp_loadW hS 4 _ rfl _ rfl (one_of rfl) _; (case hc => with_reducible assumption); refine put_move ?_; go_step) | (refine wpl (by kernel_rfl) ?_; apply wp_loadVP hS 4 _ rfl _ _ rfl (one_of rfl) _; (case hp => (repeat (first | with_reducible exact Pull.head | apply Pull.tail))); (case hi => (repeat (first | exact AtV.head | (apply AtV.skipI; (case hn => (first | (with_reducible assumption) | exact Len.rep | exact Len.set (by with_reducible assumption) | exact Len.set Len.rep | exact Len.set (Len.set Len.rep))); (case h => omega); (case ho => rfl)) | apply AtV.skipV))); refine put_move ?_; go_step))
          | ((with_reducible show wpList _ _ _ (⟨_, .store 50 _ _, _, _, _, _⟩ :: _) _ _); first | (refine wpl (by kernel_rfl) ?_; apply wp_storePP hS 50 _ _ rfl _ rfl 103 (row_of rfl) _ _; (case hp => (repeat (first | with_reducible exact Pull.head | apply Pull.tail))); (case hy => rfl); (case hn => (repeat (first | exact Pre.nil | (apply Pre.ints; (case hn => (first | (with_reducible assumption) | exact Len.rep | exact Len.set (by with_reducible assumption) | exact Len.set Len.rep | exact Len.set (Len.set Len.rep))); (case h => omega); (case hm => rfl)) | apply Pre.val))); (case hn' => (repeat (first | exact Pre.nil | (apply Pre.ints; (case hn => (first | (with_reducible assumption) | exact Len.rep | exact Len.set (by with_reducible assumption) | exact Len.set Len.rep | exact Len.set (Len.set Len.rep))); (case h => omega); (case hm => rfl)) | apply Pre.val))); (case hv => rfl); (case hd => exact rfl); clear hS; intro w hS) | (refine wpl (by kernel_rfl) ?_; apply wp_storeA hS 50 _ _ rfl _ rfl 103 (row_of rfl) _ _; (case hp => (repeat (first | with_reducible exact Pull.head | apply Pull.tail))); (case hy => rfl); (case hm => (repeat (first | assumption | exact Len.rep | apply Len.set | ((with_reducible show Len (_ :: _) _); exact rfl)))); (case hd => exact rfl); clear hS; intro w hS) | (refine wpl (by kernel_rfl) ?_; apply wp_storeG hS 50 _ _ rfl _ rfl 103 (row_of rfl) _ _; (case hp => (repeat (first | with_reducible exact Pull.head | apply Pull.tail))); (case hy => rfl); (case hn => rfl); (case hn' => rfl); (case hv => rfl); (case hd => exact rfl); clear hS; intro w hS))
          | ((fail_if_success (with_reducible show wpList _ _ _ (_ :: _) _ _)); go_step))
        refine ret_all (xs := [_, _]) rfl (.cons (OneRes.prt hS rfl (row_of (n := 103) rfl) (by (repeat (first | with_reducible exact Pull.head | apply Pull.tail))) (by (repeat (first | exact Pre.nil | (apply Pre.ints; (case hn => (first | (with_reducible assumption) | exact Len.rep | exact Len.set (by with_reducible assumption) | exact Len.set Len.rep | exact Len.set (Len.set Len.rep))); (case h => omega); (case hm => rfl)) | apply Pre.val)))) (.cons (OneRes.tmp rfl) (.nil))) (by simp) rfl ?_
        rw [hE3.out]
        exact ⟨fun _ => ⟨rfl, hS.1⟩, fun h => absurd h (by decide)⟩
      rw [decide_eq_false hsh] at hS
      obtain ⟨q1, q2, q3⟩ := pq_full (by rw [HA1.out]; exact hk1.out) (by rw [HA2.out]; exact hk2.out) (Nat.le_of_not_lt hsh)
      repeat' (first
        | ((with_reducible show wpList _ _ _ (⟨_, .call ⟨.value (.func 37), _, _⟩, _, _, _, _⟩ :: _) _ _); refine wpl_call (f := 37) Try.call37 rfl ?_; refine ⟨_, (fclone_any _ ra rm rc (l.drop (102 + j1 + 32 + j2)) (hrv.ext hS.1) (by omega)), ?_⟩; rintro e w ⟨da, dc, rfl, hS2⟩; replace hS := hS.call1 hS2; clear hS2; refine ⟨_, rfl, ?_⟩; refine put_move ?_; go_step)
        | go_skip
        | go_big_skip
        | ((with_reducible show wpList _ _ _ (⟨_, .move _, _, _, _, _⟩ :: _) _ _); (first | go_big_want | go_step); go_step)
        | ((with_reducible show wpList _ _ _ (⟨_, .assign _, _, _, _, _⟩ :: _) _ _); (first | go_big_want | go_step); go_step)
        | ((with_reducible show wpList _ _ _ (⟨_, .pick _ _ _, _, _, _, _⟩ :: _) _ _); first | (refine wplPickT rfl (by kernel_rfl) ?_; go_step) | (refine wplPickF rfl (by kernel_rfl) ?_; go_step))
        | ((with_reducible show wpList _ _ _ (⟨_, .nilCheck _, _, _, _, _⟩ :: _) _ _); first | (refine wplV _ (V.nilCheck rfl) (by kernel_rfl) ?_; go_step) | (refine wplV _ (V.nilCheckF rfl) (by kernel_rfl) ?_; go_step))
        | ((with_reducible show wpList _ _ _ (⟨_, .fieldAddr 77 _ 1, _, _, _, _⟩ :: _) _ _); first | (refine wplV _ (V.fieldAddr fo77_1 rfl (by first | with_reducible exact Nat.zero_add _ | with_reducible exact Nat.add_zero _ | exact rfl)) (by kernel_rfl) ?_; go_step))
        | ((with_reducible show wpList _ _ _ (⟨_, .fieldAddr 77 _ 0, _, _, _, _⟩ :: _) _ _); first | (refine wplV _ (V.fieldAddr fo77_0 rfl (by first | with_reducible exact Nat.zero_add _ | with_reducible exact Nat.add_zero _ | exact rfl)) (by kernel_rfl) ?_; go_step))
        | ((with_reducible show wpList _ _ _ (⟨_, .fieldAddr 50 _ 6, _, _, _, _⟩ :: _) _ _); first | (refine wplV _ (V.fieldAddr fo50_6 rfl (by first | with_reducible exact Nat.zero_add _ | with_reducible exact Nat.add_zero _ | exact rfl)) (by kernel_rfl) ?_; go_step))
        | ((with_reducible show wpList _ _ _ (⟨_, .load 4 _, _, _, _, _⟩ :: _) _ _); first | (refine wpl (by kernel_rfl) ?_; apply wp_load1 hS 4 _ rfl _ _ rfl (one_of rfl) _; (case hp => (repeat (first | with_reducible exact Pull.head | apply Pull.tail))); (case hc => rfl); refine put_move ?_; go_step) | (refine wpl (by kernel_rfl) ?_; apply wp_load1O hS 4 _ rfl _ _ rfl (one_of rfl) _ _ _ _ _; (case hp => (repeat (first | with_reducible exact Pull.head | apply Pull.tail))); (case hv => with_reducible assumption); refine put_move ?_; go_step) | (refine wpl (by kernel_rfl) ?_; apply wp_loadW hS 4 _ rfl _ rfl (one_of rfl) _; (case hc => with_reducible assumption); refine put_move ?_; go_step) | (refine wpl (by kernel_rfl) ?_; apply wp_loadVP hS 4 _ rfl _ _ rfl (one_of rfl) _; (case hp => (repeat (first | with_reducible exact Pull.head | apply Pull.tail))); (case hi => (repeat (first | exact AtV.head | (apply AtV.skipI; (case hn => (first | (with_reducible assumption) | exact Len.rep | exact Len.set (by with_reducible assumption) | exact Len.set Len.rep | exact Len.set (Len.set Len.rep))); (case h => omega); (case ho => rfl)) | apply AtV.skipV))); refine put_move ?_; go_step))
        | ((with_reducible show wpList _ _ _ (⟨_, .store 50 _ _, _, _, _, _⟩ :: _) _ _); first | (refine wpl (by kernel_rfl) ?_; apply wp_storePP hS 50 _ _ rfl _ rfl 103 (row_of rfl) _ _; (case hp => (repeat (first | with_reducible exact Pull.head | apply Pull.tail))); (case hy => rfl); (case hn => (repeat (first | exact Pre.nil | (apply Pre.ints; (case hn => (first | (with_reducible assumption) | exact Len.rep | exact Len.set (by with_reducible assumption) | exact Len.set Len.rep | exact Len.set (Len.set Len.rep))); (case h => omega); (case hm => rfl)) | apply Pre.val))); (case hn' => (repeat (first | exact Pre.nil | (apply Pre.ints; (case hn => (first | (with_reducible assumption) | exact Len.rep | exact Len.set (by with_reducible assumption) | exact Len.set Len.rep | exact Len.set (Len.set Len.rep))); (case h => omega); (case hm => rfl)) | apply Pre.val))); (case hv => rfl); (case hd => exact rfl); clear hS; intro w hS) | (refine wpl (by kernel_rfl) ?_; apply wp_storeA hS 50 _ _ rfl _ rfl 103 (row_of rfl) _ _; (case hp => (repeat (first | with_reducible exact Pull.head | apply Pull.tail))); (case hy => rfl); (case hm => (repeat (first | assumption | exact Len.rep | apply Len.set | ((with_reducible show Len (_ :: _) _); exact rfl)))); (case hd => exact rfl); clear hS; intro w hS) | (refine wpl (by kernel_rfl) ?_; apply wp_storeG hS 50 _ _ rfl _ rfl 103 (row_of rfl) _ _; (case hp => (repeat (first | with_reducible exact Pull.head | apply Pull.tail))); (case hy => rfl); (case hn => rfl); (case hn' => rfl); (case hv => rfl); (case hd => exact rfl); clear hS; intro w hS))
        | ((with_reducible show wpList _ _ _ (⟨_, .load 48 _, _, _, _, _⟩ :: _) _ _); first | (refine wpl (by kernel_rfl) ?_; apply wp_load1 hS 48 _ rfl _ _ rfl (one_of rfl) _; (case hp => (repeat (first | with_reducible exact Pull.head | apply Pull.tail))); (case hc => rfl); refine put_move ?_; go_step) | (refine wpl (by kernel_rfl) ?_; apply wp_load1O hS 48 _ rfl _ _ rfl (one_of rfl) _ _ _ _ _; (case hp => (repeat (first | with_reducible exact Pull.head | apply Pull.tail))); (case hv => with_reducible assumption); refine put_move ?_; go_step) | (refine wpl (by kernel_rfl) ?_; apply wp_loadW hS 48 _ rfl _ rfl (one_of rfl) _; (case hc => with_reducible assumption); refine put_move ?_; go_step) | (refine wpl (by kernel_rfl) ?_; apply wp_loadVP hS 48 _ rfl _ _ rfl (one_of rfl) _; (case hp => (repeat (first | with_reducible exact Pull.head | apply Pull.tail))); (case hi => (repeat (first | exact AtV.head | (apply AtV.skipI; (case hn => (first | (with_reducible assumption) | exact Len.rep | exact Len.set (by with_reducible assumption) | exact Len.set Len.rep | exact Len.set (Len.set Len.rep))); (case h => omega); (case ho => rfl)) | apply AtV.skipV))); refine put_move ?_; go_step))
        | ((with_reducible show wpList _ _ _ (⟨_, .store 48 _ _, _, _, _, _⟩ :: _) _ _); first | (refine wpl (by kernel_rfl) ?_; apply wp_store1 hS 48 _ _ rfl _ _ rfl (one_of rfl) _ _; (case hp => (repeat (first | with_reducible exact Pull.head | apply Pull.tail))); (case hy => (first | exact IsV.int rfl | exact IsV.bool rfl | exact IsV.slice rfl | exact IsV.pointer rfl | exact IsV.string rfl | exact IsV.map rfl | exact IsV.func rfl)); (case hv => rfl); (case hc => (repeat (first | with_reducible exact SetAt.head | apply SetAt.tail))); (case hd => exact rfl); clear hS; intro w hS) | (refine wpl (by kernel_rfl) ?_; apply wp_storeVP hS 48 _ _ rfl _ _ rfl (one_of rfl) _ _; (case hp => (repeat (first | with_reducible exact Pull.head | apply Pull.tail))); (case hy => (first | exact IsV.int rfl | exact IsV.bool rfl | exact IsV.slice rfl | exact IsV.pointer rfl | exact IsV.string rfl | exact IsV.map rfl | exact IsV.func rfl)); (case hz => rfl); (case hi => (repeat (first | exact PutV.head | (apply PutV.skipI; (case hn => (first | (with_reducible assumption) | exact Len.rep | exact Len.set (by with_reducible assumption) | exact Len.set Len.rep | exact Len.set (Len.set Len.rep))); (case h => omega); (case ho => rfl)) | apply PutV.skipV))); (case hd => exact rfl); clear hS; intro w hS) | (refine wpl (by kernel_rfl) ?_; apply wp_store1O hS 48 _ _ rfl _ _ rfl (one_of rfl) _ _ _ _ _; (case hp => (repeat (first | with_reducible exact Pull.head | apply Pull.tail))); (case hy => (first | exact IsV.int rfl | exact IsV.bool rfl | exact IsV.slice rfl | exact IsV.pointer rfl | exact IsV.string rfl | exact IsV.map rfl | exact IsV.func rfl)); (case hv => rfl); (case hi => omega); (case hd => exact rfl); clear hS; intro w hS))
        | ((fail_if_success (with_reducible show wpList _ _ _ (_ :: _) _ _)); go_step))
      have hdr : ∀ x ∈ l.drop (102 + j1 + 32 + j2), 0 ≤ x ∧ x < 256 := fun x hx => bytes_mem hr.out x (List.mem_of_mem_drop hx)
      have hD := toNat_cast hdr
      obtain ⟨D, hDe⟩ : ∃ x, (l.drop (102 + j1 + 32 + j2)).map Int.toNat = x := ⟨_, rfl⟩
      have hDlt : ∀ x ∈ D, x < 256 := fun x hx => by
        rw [← hDe] at hx
        obtain ⟨y, hy, rfl⟩ := List.mem_map.1 hx
        have := hdr y hy
        omega
      have hDl : D.length = rm := by rw [← hDe, hrm]; simp
      obtain ⟨f1, hf1⟩ : ∃ x : FileV, x = ⟨nth l 2, nth l 3, nth l 4, Q1, C1, rS l 102 j1, C2, rS l (102 + j1 + 32) j2, nth l 5, D⟩ := ⟨_, rfl⟩
      have HF : Veil2 (parseF l = f1) := ⟨by
        rw [hf1]; unfold parseF; rw [q1, q2, q3, HQ0.out, HQ1.out, HC1.out, HC2.out, hDe]⟩
      have HDe : Veil2 (dataI f1 = l.drop (102 + j1 + 32 + j2)) := ⟨by rw [hf1, dataI, ← hDe]; exact hD⟩
      rw [show 70 + 32 = 102 from rfl] at hS
      have HPv : Veil2 (Value.agg (pcells (gp (nth l 2) (nth l 3) (nth l 4) Q1 C1 (Value.slice sa1 j1 sc1) C2 (Value.slice sa2 j2 sc2) (nth l 5) (Value.slice da rm dc))).toArray = fv f1 (.slice sa1 j1 sc1) (.slice sa2 j2 sc2) (.slice da rm dc)) := ⟨by rw [hf1]; rfl⟩
      have e1 : f1.s1 = rS l 102 j1 := by rw [hf1]
      have e2 : f1.s2 = rS l (102 + j1 + 32) j2 := by rw [hf1]
      have e3 : f1.quant = Q1 := by rw [hf1]
      have e4 : f1.c1 = C1 := by rw [hf1]
      have e5 : f1.c2 = C2 := by rw [hf1]
      have e6 : f1.data = D := by rw [hf1]
      clear hf1 hD hDe hdr
      obtain ⟨E, hE⟩ : ∃ x, fileE f1 = x := ⟨_, rfl⟩
      by_cases hE0 : E = 0
      case neg =>
        have hE4 : Veil2 (parseE l = 4) := ⟨by
          rw [parseE, if_neg (by omega), if_neg (by omega), HF.out, if_neg (fun h => hE0 (hE ▸ h.1))]⟩
        have HPb : Veil2 (∀ w, Sl w 1 (.slice sa1 j1 sc1) j1 ((rS l 102 j1).map (Value.int .i64)) → Sl w 1 (.slice sa2 j2 sc2) j2 ((rS l (102 + j1 + 32) j2).map (Value.int .i64)) → Calls Try.prog 19 #[Value.agg (pcells (gp (nth l 2) (nth l 3) (nth l 4) Q1 C1 (Value.slice sa1 j1 sc1) C2 (Value.slice sa2 j2 sc2) (nth l 5) (Value.slice da rm dc))).toArray] w fun e w' => e = .returned (.tuple #[.slice none 0 0, .int .i64 E]) ∧ Ext w w') := ⟨fun w k1 k2 => HPv.out ▸ pack_bad w f1 sa1 sa2 da j1 j2 rm sc1 sc2 dc (e3 ▸ hLZ) (e4 ▸ hLC1) (e5 ▸ hLC2) (e1 ▸ k1) (e2 ▸ k2) (by omega) (by omega) (by omega) (e6 ▸ hDl) E hE hE0⟩
        clear hE e1 e2 e3 e4 e5 e6
        repeat' (first
          | ((with_reducible show wpList _ _ _ (⟨_, .call ⟨.value (.func 19), _, _⟩, _, _, _, _⟩ :: _) _ _); refine wpl_call (f := 19) Try.call19 rfl ?_; refine ⟨_, (HPb.out _ (hS.sl (by (repeat (first | with_reducible exact Pull.head | apply Pull.tail)))) (hS.sl (by (repeat (first | with_reducible exact Pull.head | apply Pull.tail))))), ?_⟩; rintro e w ⟨rfl, hE2⟩; replace hS := hS.ext hE2; clear hE2; refine ⟨_, rfl, ?_⟩; refine put_move ?_; go_step)
          | ((with_reducible show wpList _ _ _ (⟨some 74, _, _, _, _, _⟩ :: _) _ _); refine wplV _ (V.build (vs := []) rfl build_f0) (by kernel_rfl) ?_; go_step)
          | go_skip
          | go_big_skip
          | ((with_reducible show wpList _ _ _ (⟨_, .move _, _, _, _, _⟩ :: _) _ _); (first | go_big_want | go_step); go_step)
          | ((with_reducible show wpList _ _ _ (⟨_, .assign _, _, _, _, _⟩ :: _) _ _); (first | go_big_want | go_step); go_step)
          | ((with_reducible show wpList _ _ _ (⟨_, .pick _ _ _, _, _, _, _⟩ :: _) _ _); first | (refine wplPickT rfl (by kernel_rfl) ?_; go_step) | (refine wplPickF rfl (by kernel_rfl) ?_; go_step))
          | ((with_reducible show wpList _ _ _ (⟨some 67, .binOp .neq 26 _ _ _, _, _, _, _⟩ :: _) _ _); first | (refine wplD _ (V.neq rfl rfl) (by kernel_rfl) (fun hB => ?_) (fun hB => ?_) <;> (try (have hF : False := (by omega); cases hF)) <;> go_step) | (refine wplB _ (V.neq rfl rfl) (by kernel_rfl) (fun hB => ?_) (fun hB => ?_) <;> (try (have hF : False := (absurd hB (by decide)); cases hF)) <;> go_step))
          | ((with_reducible show wpList _ _ _ (⟨_, .extract _ _, _, _, _, _⟩ :: _) _ _); first | (refine wplV _ (V.extract rfl rfl) (by kernel_rfl) ?_; go_step))
          | ((with_reducible show wpList _ _ _ (⟨_, .unOp .not _ _, _, _, _, _⟩ :: _) _ _); first | (refine wplV _ (V.notD rfl) (by kernel_rfl) ?_; go_step) | (refine wplV _ (V.not rfl) (by kernel_rfl) ?_; go_step))
          | ((with_reducible show wpList _ _ _ (⟨_, .load 50 _, _, _, _, _⟩ :: _) _ _); first | (refine wpl (by kernel_rfl) ?_; apply wp_loadPP hS 50 _ rfl _ _ rfl 103 (row_of rfl) _; (case hp => (repeat (first | with_reducible exact Pull.head | apply Pull.tail))); (case hi => (repeat (first | (apply AtP.head; (repeat (first | exact Pre.nil | (apply Pre.ints; (case hn => (first | (with_reducible assumption) | exact Len.rep | exact Len.set (by with_reducible assumption) | exact Len.set Len.rep | exact Len.set (Len.set Len.rep))); (case h => omega); (case hm => rfl)) | apply Pre.val))) | (apply AtP.skipI; (case hn => (first | (with_reducible assumption) | exact Len.rep | exact Len.set (by with_reducible assumption) | exact Len.set Len.rep | exact Len.set (Len.set Len.rep))); (case h => omega); (case ho => rfl)) | apply AtP.skipV))); refine put_move ?_; go_step) | (refine wpl (by kernel_rfl) ?_; apply wp_loadA hS 50 _ rfl _ rfl 103 (row_of rfl) _; (case hp => (repeat (first | with_reducible exact Pull.head | apply Pull.tail))); refine put_move ?_; go_step) | (refine wpl (by kernel_rfl) ?_; apply wp_loadG hS 50 _ rfl _ rfl 103 (row_of rfl) _; (case hp => (repeat (first | with_reducible exact Pull.head | apply Pull.tail))); (case hn => rfl); refine put_move ?_; go_step) | (refine wpl (by kernel_rfl) ?_; apply wp_loadRW hS 50 _ rfl _ _ rfl 103 (row_of rfl) _; (case hc => with_reducible assumption); (case hn => rfl); refine put_move ?_; go_step))
          | ((with_reducible show wpList _ _ _ (⟨_, .store 50 _ _, _, _, _, _⟩ :: _) _ _); first | (refine wpl (by kernel_rfl) ?_; apply wp_storePP hS 50 _ _ rfl _ rfl 103 (row_of rfl) _ _; (case hp => (repeat (first | with_reducible exact Pull.head | apply Pull.tail))); (case hy => rfl); (case hn => (repeat (first | exact Pre.nil | (apply Pre.ints; (case hn => (first | (with_reducible assumption) | exact Len.rep | exact Len.set (by with_reducible assumption) | exact Len.set Len.rep | exact Len.set (Len.set Len.rep))); (case h => omega); (case hm => rfl)) | apply Pre.val))); (case hn' => (repeat (first | exact Pre.nil | (apply Pre.ints; (case hn => (first | (with_reducible assumption) | exact Len.rep | exact Len.set (by with_reducible assumption) | exact Len.set Len.rep | exact Len.set (Len.set Len.rep))); (case h => omega); (case hm => rfl)) | apply Pre.val))); (case hv => rfl); (case hd => exact rfl); clear hS; intro w hS) | (refine wpl (by kernel_rfl) ?_; apply wp_storeA hS 50 _ _ rfl _ rfl 103 (row_of rfl) _ _; (case hp => (repeat (first | with_reducible exact Pull.head | apply Pull.tail))); (case hy => rfl); (case hm => (repeat (first | assumption | exact Len.rep | apply Len.set | ((with_reducible show Len (_ :: _) _); exact rfl)))); (case hd => exact rfl); clear hS; intro w hS) | (refine wpl (by kernel_rfl) ?_; apply wp_storeG hS 50 _ _ rfl _ rfl 103 (row_of rfl) _ _; (case hp => (repeat (first | with_reducible exact Pull.head | apply Pull.tail))); (case hy => rfl); (case hn => rfl); (case hn' => rfl); (case hv => rfl); (case hd => exact rfl); clear hS; intro w hS))
          | ((fail_if_success (with_reducible show wpList _ _ _ (_ :: _) _ _)); go_step))
        refine ret_all (xs := [_, _]) rfl (.cons (OneRes.prt hS rfl (row_of (n := 103) rfl) (by (repeat (first | with_reducible exact Pull.head | apply Pull.tail))) (by (repeat (first | exact Pre.nil | (apply Pre.ints; (case hn => (first | (with_reducible assumption) | exact Len.rep | exact Len.set (by with_reducible assumption) | exact Len.set Len.rep | exact Len.set (Len.set Len.rep))); (case h => omega); (case hm => rfl)) | apply Pre.val)))) (.cons (OneRes.tmp rfl) (.nil))) (by simp) rfl ?_
        rw [hE4.out]
        exact ⟨fun _ => ⟨rfl, hS.1⟩, fun h => absurd h (by decide)⟩
      subst hE0
      obtain ⟨Pk, hPk⟩ : ∃ x, packI f1 = x := ⟨_, rfl⟩
      have hPb := bytes_nth (packI_bytes hE (e3 ▸ hLZ.out) (e6 ▸ hDlt))
      rw [hPk] at hPb
      have HPb2 := hid hPb
      have hpl := pk_len f1
      rw [hPk] at hpl
      have hl3 : Pk.length ≤ 1000000 := by
        obtain ⟨_, _, ht1, ht2, hdl⟩ := fileE_ok hE
        have k1 := (tabE_ok ht1).2.2.1
        have k2 := (tabE_ok ht2).2.2.1
        omega
      have HPg : Veil2 (∀ w, Sl w 1 (.slice sa1 j1 sc1) j1 ((rS l 102 j1).map (Value.int .i64)) → Sl w 1 (.slice sa2 j2 sc2) j2 ((rS l (102 + j1 + 32) j2).map (Value.int .i64)) → Sl w 1 (.slice da rm dc) rm ((l.drop (102 + j1 + 32 + j2)).map (Value.int .u8)) → Calls Try.prog 19 #[Value.agg (pcells (gp (nth l 2) (nth l 3) (nth l 4) Q1 C1 (Value.slice sa1 j1 sc1) C2 (Value.slice sa2 j2 sc2) (nth l 5) (Value.slice da rm dc))).toArray] w fun e w' => ∃ (ao : Option Addr) (co : Nat), e = .returned (.tuple #[.slice ao Pk.length co, .int .i64 0]) ∧ St w w' [own 5 1 ao Pk.length co (Pk.map (Value.int .u8))]) := ⟨fun w k1 k2 k3 => HPv.out ▸ hPk ▸ pack_ok w f1 sa1 sa2 da j1 j2 rm sc1 sc2 dc (e3 ▸ hLZ) (e4 ▸ hLC1) (e5 ▸ hLC2) (e1 ▸ k1) (e2 ▸ k2) (HDe.out ▸ k3) hE⟩
      by_cases hEq : Pk = l
      case neg =>
        have hE4 : Veil2 (parseE l = 4) := ⟨by
          rw [parseE, if_neg (by omega), if_neg (by omega), HF.out, if_neg (fun h => hEq (hPk ▸ h.2))]⟩
        have HEq := hid (decide_eq_false hEq)
        clear hE e1 e2 e3 e4 e5 e6 hPb hPk hpl hEq
        repeat' (first
          | ((with_reducible show wpList _ _ _ (⟨_, .call ⟨.value (.func 19), _, _⟩, _, _, _, _⟩ :: _) _ _); refine wpl_call (f := 19) Try.call19 rfl ?_; refine ⟨_, (HPg.out _ (hS.sl (by (repeat (first | with_reducible exact Pull.head | apply Pull.tail)))) (hS.sl (by (repeat (first | with_reducible exact Pull.head | apply Pull.tail)))) (hS.sl (by (repeat (first | with_reducible exact Pull.head | apply Pull.tail))))), ?_⟩; rintro e w ⟨ao, co, rfl, hS2⟩; replace hS := hS.call1 hS2; clear hS2; refine ⟨_, rfl, ?_⟩; refine put_move ?_; go_step)
          | ((with_reducible show wpList _ _ _ (⟨_, .call ⟨.value (.func 38), _, _⟩, _, _, _, _⟩ :: _) _ _); refine wpl_call (f := 38) Try.call38 rfl ?_; refine ⟨_, (fequal_any _ ao a Pk.length co n c Pk l (hS.sl (by (repeat (first | with_reducible exact Pull.head | apply Pull.tail)))) (hv.ext hS.1) HPb2.out hr.out), ?_⟩; rintro e w' ⟨rfl, rfl⟩; rw [HEq.out]; refine ⟨_, rfl, ?_⟩; refine put_move ?_; go_step)
          | ((with_reducible show wpList _ _ _ (⟨some 74, _, _, _, _, _⟩ :: _) _ _); refine wplV _ (V.build (vs := []) rfl build_f0) (by kernel_rfl) ?_; go_step)
          | go_skip
          | go_big_skip
          | ((with_reducible show wpList _ _ _ (⟨_, .move _, _, _, _, _⟩ :: _) _ _); (first | go_big_want | go_step); go_step)
          | ((with_reducible show wpList _ _ _ (⟨_, .assign _, _, _, _, _⟩ :: _) _ _); (first | go_big_want | go_step); go_step)
          | ((with_reducible show wpList _ _ _ (⟨_, .pick _ _ _, _, _, _, _⟩ :: _) _ _); first | (refine wplPickT rfl (by kernel_rfl) ?_; go_step) | (refine wplPickF rfl (by kernel_rfl) ?_; go_step))
          | ((with_reducible show wpList _ _ _ (⟨some 67, .binOp .neq 26 _ _ _, _, _, _, _⟩ :: _) _ _); first | (refine wplD _ (V.neq rfl rfl) (by kernel_rfl) (fun hB => ?_) (fun hB => ?_) <;> (try (have hF : False := (by omega); cases hF)) <;> go_step) | (refine wplB _ (V.neq rfl rfl) (by kernel_rfl) (fun hB => ?_) (fun hB => ?_) <;> (try (have hF : False := (absurd hB (by decide)); cases hF)) <;> go_step))
          | ((with_reducible show wpList _ _ _ (⟨_, .extract _ _, _, _, _, _⟩ :: _) _ _); first | (refine wplV _ (V.extract rfl rfl) (by kernel_rfl) ?_; go_step))
          | ((with_reducible show wpList _ _ _ (⟨_, .unOp .not _ _, _, _, _, _⟩ :: _) _ _); first | (refine wplV _ (V.notD rfl) (by kernel_rfl) ?_; go_step) | (refine wplV _ (V.not rfl) (by kernel_rfl) ?_; go_step))
          | ((with_reducible show wpList _ _ _ (⟨_, .load 50 _, _, _, _, _⟩ :: _) _ _); first | (refine wpl (by kernel_rfl) ?_; apply wp_loadPP hS 50 _ rfl _ _ rfl 103 (row_of rfl) _; (case hp => (repeat (first | with_reducible exact Pull.head | apply Pull.tail))); (case hi => (repeat (first | (apply AtP.head; (repeat (first | exact Pre.nil | (apply Pre.ints; (case hn => (first | (with_reducible assumption) | exact Len.rep | exact Len.set (by with_reducible assumption) | exact Len.set Len.rep | exact Len.set (Len.set Len.rep))); (case h => omega); (case hm => rfl)) | apply Pre.val))) | (apply AtP.skipI; (case hn => (first | (with_reducible assumption) | exact Len.rep | exact Len.set (by with_reducible assumption) | exact Len.set Len.rep | exact Len.set (Len.set Len.rep))); (case h => omega); (case ho => rfl)) | apply AtP.skipV))); refine put_move ?_; go_step) | (refine wpl (by kernel_rfl) ?_; apply wp_loadA hS 50 _ rfl _ rfl 103 (row_of rfl) _; (case hp => (repeat (first | with_reducible exact Pull.head | apply Pull.tail))); refine put_move ?_; go_step) | (refine wpl (by kernel_rfl) ?_; apply wp_loadG hS 50 _ rfl _ rfl 103 (row_of rfl) _; (case hp => (repeat (first | with_reducible exact Pull.head | apply Pull.tail))); (case hn => rfl); refine put_move ?_; go_step) | (refine wpl (by kernel_rfl) ?_; apply wp_loadRW hS 50 _ rfl _ _ rfl 103 (row_of rfl) _; (case hc => with_reducible assumption); (case hn => rfl); refine put_move ?_; go_step))
          | ((with_reducible show wpList _ _ _ (⟨_, .store 50 _ _, _, _, _, _⟩ :: _) _ _); first | (refine wpl (by kernel_rfl) ?_; apply wp_storePP hS 50 _ _ rfl _ rfl 103 (row_of rfl) _ _; (case hp => (repeat (first | with_reducible exact Pull.head | apply Pull.tail))); (case hy => rfl); (case hn => (repeat (first | exact Pre.nil | (apply Pre.ints; (case hn => (first | (with_reducible assumption) | exact Len.rep | exact Len.set (by with_reducible assumption) | exact Len.set Len.rep | exact Len.set (Len.set Len.rep))); (case h => omega); (case hm => rfl)) | apply Pre.val))); (case hn' => (repeat (first | exact Pre.nil | (apply Pre.ints; (case hn => (first | (with_reducible assumption) | exact Len.rep | exact Len.set (by with_reducible assumption) | exact Len.set Len.rep | exact Len.set (Len.set Len.rep))); (case h => omega); (case hm => rfl)) | apply Pre.val))); (case hv => rfl); (case hd => exact rfl); clear hS; intro w hS) | (refine wpl (by kernel_rfl) ?_; apply wp_storeA hS 50 _ _ rfl _ rfl 103 (row_of rfl) _ _; (case hp => (repeat (first | with_reducible exact Pull.head | apply Pull.tail))); (case hy => rfl); (case hm => (repeat (first | assumption | exact Len.rep | apply Len.set | ((with_reducible show Len (_ :: _) _); exact rfl)))); (case hd => exact rfl); clear hS; intro w hS) | (refine wpl (by kernel_rfl) ?_; apply wp_storeG hS 50 _ _ rfl _ rfl 103 (row_of rfl) _ _; (case hp => (repeat (first | with_reducible exact Pull.head | apply Pull.tail))); (case hy => rfl); (case hn => rfl); (case hn' => rfl); (case hv => rfl); (case hd => exact rfl); clear hS; intro w hS))
          | ((fail_if_success (with_reducible show wpList _ _ _ (_ :: _) _ _)); go_step))
        refine ret_all (xs := [_, _]) rfl (.cons (OneRes.prt hS rfl (row_of (n := 103) rfl) (by (repeat (first | with_reducible exact Pull.head | apply Pull.tail))) (by (repeat (first | exact Pre.nil | (apply Pre.ints; (case hn => (first | (with_reducible assumption) | exact Len.rep | exact Len.set (by with_reducible assumption) | exact Len.set Len.rep | exact Len.set (Len.set Len.rep))); (case h => omega); (case hm => rfl)) | apply Pre.val)))) (.cons (OneRes.tmp rfl) (.nil))) (by simp) rfl ?_
        rw [hE4.out]
        exact ⟨fun _ => ⟨rfl, hS.1⟩, fun h => absurd h (by decide)⟩
      have hE4 : Veil2 (parseE l = 0) := ⟨by
        rw [parseE, if_neg (by omega), if_neg (by omega), HF.out, if_pos ⟨hE, hPk.trans hEq⟩]⟩
      have HEq := hid (decide_eq_true hEq)
      have E1 : Veil2 (f1.s1 = rS l 102 j1) := ⟨e1⟩
      have E2 : Veil2 (f1.s2 = rS l (102 + j1 + 32) j2) := ⟨e2⟩
      clear hE e1 e2 e3 e4 e5 e6 hPb hPk hpl hEq
      repeat' (first
        | ((with_reducible show wpList _ _ _ (⟨_, .call ⟨.value (.func 19), _, _⟩, _, _, _, _⟩ :: _) _ _); refine wpl_call (f := 19) Try.call19 rfl ?_; refine ⟨_, (HPg.out _ (hS.sl (by (repeat (first | with_reducible exact Pull.head | apply Pull.tail)))) (hS.sl (by (repeat (first | with_reducible exact Pull.head | apply Pull.tail)))) (hS.sl (by (repeat (first | with_reducible exact Pull.head | apply Pull.tail))))), ?_⟩; rintro e w ⟨ao, co, rfl, hS2⟩; replace hS := hS.call1 hS2; clear hS2; refine ⟨_, rfl, ?_⟩; refine put_move ?_; go_step)
        | ((with_reducible show wpList _ _ _ (⟨_, .call ⟨.value (.func 38), _, _⟩, _, _, _, _⟩ :: _) _ _); refine wpl_call (f := 38) Try.call38 rfl ?_; refine ⟨_, (fequal_any _ ao a Pk.length co n c Pk l (hS.sl (by (repeat (first | with_reducible exact Pull.head | apply Pull.tail)))) (hv.ext hS.1) HPb2.out hr.out), ?_⟩; rintro e w' ⟨rfl, rfl⟩; rw [HEq.out]; refine ⟨_, rfl, ?_⟩; refine put_move ?_; go_step)
        | go_skip
        | go_big_skip
        | ((with_reducible show wpList _ _ _ (⟨_, .move _, _, _, _, _⟩ :: _) _ _); (first | go_big_want | go_step); go_step)
        | ((with_reducible show wpList _ _ _ (⟨_, .assign _, _, _, _, _⟩ :: _) _ _); (first | go_big_want | go_step); go_step)
        | ((with_reducible show wpList _ _ _ (⟨_, .pick _ _ _, _, _, _, _⟩ :: _) _ _); first | (refine wplPickT rfl (by kernel_rfl) ?_; go_step) | (refine wplPickF rfl (by kernel_rfl) ?_; go_step))
        | ((with_reducible show wpList _ _ _ (⟨some 67, .binOp .neq 26 _ _ _, _, _, _, _⟩ :: _) _ _); first | (refine wplD _ (V.neq rfl rfl) (by kernel_rfl) (fun hB => ?_) (fun hB => ?_) <;> (try (have hF : False := (by omega); cases hF)) <;> go_step) | (refine wplB _ (V.neq rfl rfl) (by kernel_rfl) (fun hB => ?_) (fun hB => ?_) <;> (try (have hF : False := (absurd hB (by decide)); cases hF)) <;> go_step))
        | ((with_reducible show wpList _ _ _ (⟨_, .extract _ _, _, _, _, _⟩ :: _) _ _); first | (refine wplV _ (V.extract rfl rfl) (by kernel_rfl) ?_; go_step))
        | ((with_reducible show wpList _ _ _ (⟨_, .unOp .not _ _, _, _, _, _⟩ :: _) _ _); first | (refine wplV _ (V.notD rfl) (by kernel_rfl) ?_; go_step) | (refine wplV _ (V.not rfl) (by kernel_rfl) ?_; go_step))
        | ((with_reducible show wpList _ _ _ (⟨_, .load 50 _, _, _, _, _⟩ :: _) _ _); first | (refine wpl (by kernel_rfl) ?_; apply wp_loadPP hS 50 _ rfl _ _ rfl 103 (row_of rfl) _; (case hp => (repeat (first | with_reducible exact Pull.head | apply Pull.tail))); (case hi => (repeat (first | (apply AtP.head; (repeat (first | exact Pre.nil | (apply Pre.ints; (case hn => (first | (with_reducible assumption) | exact Len.rep | exact Len.set (by with_reducible assumption) | exact Len.set Len.rep | exact Len.set (Len.set Len.rep))); (case h => omega); (case hm => rfl)) | apply Pre.val))) | (apply AtP.skipI; (case hn => (first | (with_reducible assumption) | exact Len.rep | exact Len.set (by with_reducible assumption) | exact Len.set Len.rep | exact Len.set (Len.set Len.rep))); (case h => omega); (case ho => rfl)) | apply AtP.skipV))); refine put_move ?_; go_step) | (refine wpl (by kernel_rfl) ?_; apply wp_loadA hS 50 _ rfl _ rfl 103 (row_of rfl) _; (case hp => (repeat (first | with_reducible exact Pull.head | apply Pull.tail))); refine put_move ?_; go_step) | (refine wpl (by kernel_rfl) ?_; apply wp_loadG hS 50 _ rfl _ rfl 103 (row_of rfl) _; (case hp => (repeat (first | with_reducible exact Pull.head | apply Pull.tail))); (case hn => rfl); refine put_move ?_; go_step) | (refine wpl (by kernel_rfl) ?_; apply wp_loadRW hS 50 _ rfl _ _ rfl 103 (row_of rfl) _; (case hc => with_reducible assumption); (case hn => rfl); refine put_move ?_; go_step))
        | ((with_reducible show wpList _ _ _ (⟨_, .store 50 _ _, _, _, _, _⟩ :: _) _ _); first | (refine wpl (by kernel_rfl) ?_; apply wp_storePP hS 50 _ _ rfl _ rfl 103 (row_of rfl) _ _; (case hp => (repeat (first | with_reducible exact Pull.head | apply Pull.tail))); (case hy => rfl); (case hn => (repeat (first | exact Pre.nil | (apply Pre.ints; (case hn => (first | (with_reducible assumption) | exact Len.rep | exact Len.set (by with_reducible assumption) | exact Len.set Len.rep | exact Len.set (Len.set Len.rep))); (case h => omega); (case hm => rfl)) | apply Pre.val))); (case hn' => (repeat (first | exact Pre.nil | (apply Pre.ints; (case hn => (first | (with_reducible assumption) | exact Len.rep | exact Len.set (by with_reducible assumption) | exact Len.set Len.rep | exact Len.set (Len.set Len.rep))); (case h => omega); (case hm => rfl)) | apply Pre.val))); (case hv => rfl); (case hd => exact rfl); clear hS; intro w hS) | (refine wpl (by kernel_rfl) ?_; apply wp_storeA hS 50 _ _ rfl _ rfl 103 (row_of rfl) _ _; (case hp => (repeat (first | with_reducible exact Pull.head | apply Pull.tail))); (case hy => rfl); (case hm => (repeat (first | assumption | exact Len.rep | apply Len.set | ((with_reducible show Len (_ :: _) _); exact rfl)))); (case hd => exact rfl); clear hS; intro w hS) | (refine wpl (by kernel_rfl) ?_; apply wp_storeG hS 50 _ _ rfl _ rfl 103 (row_of rfl) _ _; (case hp => (repeat (first | with_reducible exact Pull.head | apply Pull.tail))); (case hy => rfl); (case hn => rfl); (case hn' => rfl); (case hv => rfl); (case hd => exact rfl); clear hS; intro w hS))
        | ((fail_if_success (with_reducible show wpList _ _ _ (_ :: _) _ _)); go_step))
      refine ret_all (xs := [_, _]) rfl (.cons (OneRes.prt hS rfl (row_of (n := 103) rfl) (by (repeat (first | with_reducible exact Pull.head | apply Pull.tail))) (by (repeat (first | exact Pre.nil | (apply Pre.ints; (case hn => (first | (with_reducible assumption) | exact Len.rep | exact Len.set (by with_reducible assumption) | exact Len.set Len.rep | exact Len.set (Len.set Len.rep))); (case h => omega); (case hm => rfl)) | apply Pre.val)))) (.cons (OneRes.tmp rfl) (.nil))) (by simp) rfl ?_
      refine ⟨fun h => absurd hE4.out h, fun _ => ⟨sa1, sa2, da, sc1, sc2, dc, ?_, ?_⟩⟩
      · rw [HF.out, q1, q2, q3, ← hrm, ← HPv.out]
        rfl
      · rw [HF.out, q1, q2, q3, ← hrm, E1.out, E2.out, HDe.out]
        exact hS.sub (by (repeat (first | exact Sub.nil | with_reducible exact Sub.refl | (apply Sub.cons; (case p => (repeat (first | with_reducible exact Pull.head | apply Pull.tail)))) | apply Sub.skip)))
end Go.Proofs.Ythkdckmhmiebfaa
