/- The law PlaneBack: its walk, and the statement. -/
import Derived.Test.YtbihmbkkoidnbaaPlaneKeep
import Derived.Test.YtbihmbkkoidnbaaPlane4
import Derived.Test.YtbihmbkkoidnbaaEqInt
import Derived.Test.YtbihmbkkoidnbaaOpen
import Derived.Test.YtbihmbkkoidnbaaOpenSl
namespace Go.Proofs.Ytbihmbkkoidnbaa
open Go.ChangeShapes Go.WideShapes Go.ChangeAt Go.RowKit
set_option linter.unusedVariables false
theorem smp_cut (p : List Int) (M : Nat) (m h : Int) (m0 : 1 ≤ m ∧ m ≤ 64) (m1 : 1 ≤ h ∧ h ≤ 64) (hM : m * h = (M : Int)) (hp : ∀ i, 0 ≤ nth p i ∧ nth p i ≤ 255) : cutE p M m h = 0 := by
  have : sOk p = true := (allIn_iff _ _ _).2 fun i _ => hp i
  rw [cutE, if_pos ⟨m0.1, m0.2, m1.1, m1.2⟩, if_pos hM.symm, if_pos this]
theorem back_joinE (p : List Int) (m h : Int) (m0 : 1 ≤ m ∧ m ≤ 64) (m1 : 1 ≤ h ∧ h ≤ 64) (hp : ∀ i, 0 ≤ nth p i ∧ nth p i ≤ 255) (K : Nat) (hK : manyN m h = K) : joinE (cutL p m h) K m h = 0 := by
  have : joinOk (cutL p m h) = true := (allIn_iff _ _ _).2 fun i hi => by
    have h1 : i < manyN m h * 64 := by rw [cutL, tab_len] at hi; exact hi
    rw [cutL, nth_tab _ _ _ h1, cutV]
    have := hp ((min (prow ((m + 7) / 8) (i / 64 : Nat) (i % 64 : Nat)) (h - 1)) * m + min (pcol ((m + 7) / 8) (i / 64 : Nat) (i % 64 : Nat)) (m - 1)).toNat
    omega
  rw [joinE, if_pos ⟨m0.1, m0.2, m1.1, m1.2⟩, if_pos hK.symm, if_pos this]
theorem back_joinL (p : List Int) (m h : Int) (m0 : 1 ≤ m ∧ m ≤ 64) (m1 : 1 ≤ h ∧ h ≤ 64) (M : Nat) (hM : m * h = (M : Int)) (hpl : p.length = M) (hp : ∀ i, 0 ≤ nth p i ∧ nth p i ≤ 255) : joinL (cutL p m h) m h = p := by
  unfold joinL
  rw [hM, Int.toNat_natCast]
  refine (tab_of hpl fun x hx => ?_).symm
  obtain ⟨a1, a2, a3, a4, a5, a6⟩ := jblk_bd m h m0 m1 x (by rw [hM]; omega)
  obtain ⟨e1, e2⟩ := jpos_inv m (jblk m x) (jidx m x) m0 x rfl rfl
  obtain ⟨k, hk⟩ : ∃ k : Nat, jblk m x = (k : Int) := ⟨(jblk m x).toNat, by omega⟩
  obtain ⟨i, hi⟩ : ∃ i : Nat, jidx m x = (i : Int) := ⟨(jidx m x).toNat, by omega⟩
  rw [hk, hi] at e1 e2
  unfold joinV
  rw [hk, hi, show ((k : Int) * 64 + (i : Int)).toNat = k * 64 + i by omega, cutL, nth_tab _ _ _ (by omega), cutV, show (k * 64 + i) / 64 = k by omega, show (k * 64 + i) % 64 = i by omega, e1, e2]
  have q3 := Int.emod_nonneg (x : Int) (b := m) (by omega)
  have q6 := Int.mul_ediv_add_emod (x : Int) m
  rw [Int.mul_comm] at q6
  rw [show min ((x : Int) / m) (h - 1) = (x : Int) / m by omega, show min ((x : Int) % m) (m - 1) = (x : Int) % m by omega, q6, Int.toNat_natCast]
  have := hp x
  omega
theorem joinOk_call (w0 : World) (ad : Option Addr) (n c : Nat) (l : List Int) (m h : Int) (hm64 : -9223372036854775808 ≤ m ∧ m ≤ 9223372036854775807) (hn : n ≤ 9223372036854775807) (hv : Sl w0 64 (.slice ad n c) n (l.map (Value.int .i64))) (hj : joinE l n m h = 0) (M : Nat) (hM : m * h = (M : Int)) :
    Calls Try.prog 31 #[.slice ad n c, .int .i64 m, .int .i64 h] w0 fun e w => ∃ ad c, e = .returned (.tuple #[.slice ad M c, .int .i64 0]) ∧ St w0 w [own 3 1 ad M c ((joinL l m h).map (Value.int .i64))] :=
  (join_any w0 ad n c l m h hm64 hn hv).mono fun e w ⟨ad2, c2, h1, h2⟩ => by
    rw [if_pos hj, hj, hM, Int.toNat_natCast] at h1
    rw [if_pos hj, if_pos hj, hM, Int.toNat_natCast] at h2
    exact ⟨ad2, c2, h1, h2⟩
set_option maxRecDepth 100000 in
set_option maxHeartbeats 4000000 in
theorem PlaneBack_walk {H : Type} {enc : TypeId × Value → H} {d0 d1 d2 : DataW H} {p0 p1 p2 : List MemPlace} {v0 v1 v2 : Value} {base : Nat} (W : World)
    (o0 : Value.okWide Try.prog W .any base 24 v0) (h0 : DataW.Trod enc Try.prog W 0 (fun _ => true) true 24 v0 d0 p0) (lt0 : ∀ x ∈ p0, x.block < W.heap.size)
    (o1 : Value.okWide Try.prog W .any base 3 v1) (h1 : DataW.Trod enc Try.prog W 0 (fun _ => true) true 3 v1 d1 p1) (lt1 : ∀ x ∈ p1, x.block < W.heap.size)
    (o2 : Value.okWide Try.prog W .any base 3 v2) (h2 : DataW.Trod enc Try.prog W 0 (fun _ => true) true 3 v2 d2 p2) (lt2 : ∀ x ∈ p2, x.block < W.heap.size)
    :
    Calls Try.prog 14 #[v0, v1, v2] W fun e w' => e = .returned (.bool true) ∧ Ext W w' := by
  obtain ⟨n, ns, hnl, hv, hw⟩ := op_slice .i64 Try.underlying24 1 (by kernel_rfl) 1 (by kernel_rfl) (by omega) o0 h0
  obtain ⟨w0, rfl, _, _⟩ := op_int Try.underlying3 o1 h1
  obtain ⟨h0', rfl, _, _⟩ := op_int Try.underlying3 o2 h2
  clear o0 h0 lt0 o1 h1 lt1 o2 h2 lt2 hw
  obtain ⟨ad, cp, rfl, hnc, hcm⟩ : ∃ ad c, v0 = .slice ad n c ∧ n ≤ c ∧ c ≤ 9223372036854775807 := by
    obtain ⟨_, ad, c, h1, h2, h3, _⟩ := hv
    exact ⟨ad, c, h1, h2, by unfold maxLen at h3; exact h3⟩
  obtain ⟨m, hm⟩ : ∃ m, w0 % 64 + 1 = m := ⟨_, rfl⟩
  obtain ⟨h, hh⟩ : ∃ h, h0' % 64 + 1 = h := ⟨_, rfl⟩
  have m0 : 1 ≤ m ∧ m ≤ 64 := by omega
  have m1 : 1 ≤ h ∧ h ≤ 64 := by omega
  obtain ⟨k0, k1⟩ := mulb m h 64 64 (by omega) (by omega)
  have k2 : 0 < m * h := Int.mul_pos (by omega) (by omega)
  obtain ⟨M, hM⟩ : ∃ M : Nat, m * h = (M : Int) := ⟨(m * h).toNat, by omega⟩
  have hMs : M ≤ 4096 := by omega
  obtain ⟨K, hK⟩ : ∃ K, manyN m h = K := ⟨_, rfl⟩
  have HM := hid hm
  have HH := hid hh
  have HK := hid hK
  have HMM := hid hM
  have hK3 : K ≤ 64 ∧ (m + 7) / 8 * ((h + 7) / 8) = (K : Int) := by
    obtain ⟨kk0, kk1⟩ := mulb ((m + 7) / 8) ((h + 7) / 8) 8 8 (by omega) (by omega)
    have kk2 : 0 ≤ ((m + 7) / 8) * ((h + 7) / 8) := Int.mul_nonneg (by omega) (by omega)
    rw [← hK, manyN]; omega
  have hK64 := hK3.1
  have HK3 := hid hK3.2
  have hS := St.start W
  clear hm hh hK hK3
  go_enter Try.func14, Try.ntmps14
  repeat' (first
    | ((with_reducible show wpList _ _ _ (⟨some 25, .binOp .mul _ _ _ _, _, _, _, _⟩ :: _) _ _); first | (refine wplV (.int _ ((M : Int))) (V.as (V.mulI rfl rfl (by omega)) (by omega)) rfl ?_; go_step) | (refine wplV (.int _ ((M : Int))) (V.as (V.mulR (by decide) rfl rfl) (by omega)) rfl ?_; go_step))
    | ((with_reducible show wpList _ _ _ (⟨_, .call ⟨.value (.func 26), _, _⟩, _, _, _, _⟩ :: _) _ _); refine wpl_call (f := 26) Try.call26 rfl ?_; refine ⟨_, (planed_any _), ?_⟩; rintro e w ⟨rfl, hE⟩; replace hS := hS.ext hE; clear hE; refine ⟨_, rfl, ?_⟩; refine put_move ?_; go_step)
    | ((with_reducible show wpList _ _ _ (⟨_, .call ⟨.value (.func 27), _, _⟩, _, _, _, _⟩ :: _) _ _); refine wpl_call (f := 27) Try.call27 rfl ?_; refine ⟨_, (sides_any _ w0 h0'), ?_⟩; rintro e w' ⟨rfl, rfl⟩; rw [HM.out, HH.out]; refine ⟨_, rfl, ?_⟩; refine put_move ?_; go_step)
    | ((with_reducible show wpList _ _ _ (⟨_, .call ⟨.value (.func 29), _, _⟩, _, _, _, _⟩ :: _) _ _); refine wpl_call (f := 29) Try.call29 rfl ?_; refine ⟨_, (samples_any _ _ n _ M ns (by omega) (by omega) (hv.ext hS.1)), ?_⟩; rintro e w ⟨ad2, c2, p, rfl, hpl, hp, hS2⟩; replace hS := hS.call1 hS2; clear hS2; have HP := hid hp; have HPL := hid hpl; clear hp hpl; have HC := hid (smp_cut p M m h m0 m1 HMM.out HP.out); have HJ := hid (back_joinE p m h m0 m1 HP.out K HK.out); have HB := hid (back_joinL p m h m0 m1 M HMM.out HPL.out HP.out); refine ⟨_, rfl, ?_⟩; refine put_move ?_; go_step)
    | ((with_reducible show wpList _ _ _ (⟨_, .call ⟨.value (.func 28), _, _⟩, _, _, _, _⟩ :: _) _ _); refine wpl_call (f := 28) Try.call28 rfl ?_; refine ⟨_, (cutOk_any _ _ M _ p m h K (by omega) (by omega) (hS.sl (by (repeat (first | with_reducible exact Pull.head | apply Pull.tail)))) HC.out HK.out), ?_⟩; rintro e w ⟨ad3, c3, rfl, hS2⟩; replace hS := hS.call1 hS2; clear hS2; refine ⟨_, rfl, ?_⟩; refine put_move ?_; go_step)
    | ((with_reducible show wpList _ _ _ (⟨_, .call ⟨.value (.func 30), _, _⟩, _, _, _, _⟩ :: _) _ _); refine wpl_call (f := 30) Try.call30 rfl ?_; refine ⟨_, (Many_ok _ m h (by omega) (K : Int) HK3.out), ?_⟩; rintro e w ⟨rfl, hE⟩; replace hS := hS.ext hE; clear hE; refine ⟨_, rfl, ?_⟩; refine put_move ?_; go_step)
    | ((with_reducible show wpList _ _ _ (⟨_, .call ⟨.value (.func 31), _, _⟩, _, _, _, _⟩ :: _) _ _); refine wpl_call (f := 31) Try.call31 rfl ?_; refine ⟨_, (joinOk_call _ _ K _ _ m h (by omega) (by omega) (hS.sl (by (repeat (first | with_reducible exact Pull.head | apply Pull.tail)))) HJ.out M HMM.out), ?_⟩; rintro e w ⟨ad4, c4, rfl, hS2⟩; replace hS := hS.call1 hS2; clear hS2; rw [HB.out] at hS; refine ⟨_, rfl, ?_⟩; refine put_move ?_; go_step)
    | ((with_reducible show wpList _ _ _ (⟨_, .call ⟨.value (.func 32), _, _⟩, _, _, _, _⟩ :: _) _ _); refine wpl_call (f := 32) Try.call32 rfl ?_; refine ⟨_, (eqInt_any _ _ _ p p (by have := hS.sl (a := ad2) (e := 3) (s := 1) (by (repeat (first | with_reducible exact Pull.head | apply Pull.tail))); unfold ISl; rw [HPL.out]; exact this) (by have := hS.sl (a := ad4) (e := 3) (s := 1) (by (repeat (first | with_reducible exact Pull.head | apply Pull.tail))); unfold ISl; rw [HPL.out]; exact this)), ?_⟩; rintro e w' ⟨rfl, rfl⟩; refine ⟨_, rfl, ?_⟩; refine put_move ?_; go_step)
    | go_skip
    | go_big_skip
    | ((with_reducible show wpList _ _ _ (⟨_, .move _, _, _, _, _⟩ :: _) _ _); (first | go_big_want | go_step); go_step)
    | ((with_reducible show wpList _ _ _ (⟨_, .assign _, _, _, _, _⟩ :: _) _ _); (first | go_big_want | go_step); go_step)
    | ((with_reducible show wpList _ _ _ (⟨_, .pick _ _ _, _, _, _, _⟩ :: _) _ _); first | (refine wplPickT rfl (by kernel_rfl) ?_; go_step) | (refine wplPickF rfl (by kernel_rfl) ?_; go_step))
    | ((with_reducible show wpList _ _ _ (⟨some 48, .binOp .eql 27 _ _ _, _, _, _, _⟩ :: _) _ _); first | (refine wplD _ (V.eql rfl rfl) (by kernel_rfl) (fun hB => ?_) (fun hB => ?_) <;> (try (have hF : False := (by omega); cases hF)) <;> go_step) | (refine wplB _ (V.eql rfl rfl) (by kernel_rfl) (fun hB => ?_) (fun hB => ?_) <;> go_step))
    | ((with_reducible show wpList _ _ _ (⟨some 51, .binOp .eql 27 _ _ _, _, _, _, _⟩ :: _) _ _); first | (refine wplD _ (V.eql rfl rfl) (by kernel_rfl) (fun hB => ?_) (fun hB => ?_) <;> (try (have hF : False := (by omega); cases hF)) <;> go_step) | (refine wplB _ (V.eql rfl rfl) (by kernel_rfl) (fun hB => ?_) (fun hB => ?_) <;> go_step))
    | ((with_reducible show wpList _ _ _ (⟨some 55, .binOp .eql 27 _ _ _, _, _, _, _⟩ :: _) _ _); first | (refine wplD _ (V.eql rfl rfl) (by kernel_rfl) (fun hB => ?_) (fun hB => ?_) <;> (try (have hF : False := (by omega); cases hF)) <;> go_step) | (refine wplB _ (V.eql rfl rfl) (by kernel_rfl) (fun hB => ?_) (fun hB => ?_) <;> go_step))
    | ((with_reducible show wpList _ _ _ (⟨some 61, .binOp .eql 3 _ _ _, _, _, _, _⟩ :: _) _ _); first | (refine wplD _ (V.eql rfl rfl) (by kernel_rfl) (fun hB => ?_) (fun hB => ?_) <;> (try (have hF : False := (by omega); cases hF)) <;> go_step) | (refine wplB _ (V.eql rfl rfl) (by kernel_rfl) (fun hB => ?_) (fun hB => ?_) <;> go_step))
    | ((with_reducible show wpList _ _ _ (⟨_, .unOp .not _ _, _, _, _, _⟩ :: _) _ _); first | (refine wplV _ (V.notD rfl) (by kernel_rfl) ?_; go_step) | (refine wplV _ (V.not rfl) (by kernel_rfl) ?_; go_step))
    | ((with_reducible show wpList _ _ _ (⟨_, .extract _ _, _, _, _, _⟩ :: _) _ _); first | (refine wplV _ (V.extract rfl rfl) (by kernel_rfl) ?_; go_step))
    | ((with_reducible show wpList _ _ _ (⟨_, .binOp .mul _ _ _ _, _, _, _, _⟩ :: _) _ _); first | (refine wplV _ (V.mulI rfl rfl (by omega)) (by kernel_rfl) ?_; go_step) | (refine wplV _ (V.mulR (by decide) rfl rfl) (by kernel_rfl) ?_; go_step))
    | ((with_reducible show wpList _ _ _ (⟨_, .call ⟨.builtin .len, _, _⟩, _, _, _, _⟩ :: _) _ _); first | (refine wplV _ (V.len Try.underlying46 rfl) (by kernel_rfl) ?_; go_step))
    | ((fail_if_success (with_reducible show wpList _ _ _ (_ :: _) _ _)); go_step))
  all_goals (go_ret; first | exact ⟨rfl, hS.1⟩ | exact ⟨ret_bool (by simp), hS.1⟩)
end Go.Proofs.Ytbihmbkkoidnbaa
