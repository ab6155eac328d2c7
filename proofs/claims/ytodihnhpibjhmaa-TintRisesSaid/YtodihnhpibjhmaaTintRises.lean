/- The law TintRises: its walk, and the statement. -/
import Derived.Test.YtodihnhpibjhmaaRows
import Derived.Test.YtodihnhpibjhmaaTintKeep
import Derived.Test.YtodihnhpibjhmaaOpen
namespace Go.Proofs.Ytodihnhpibjhmaa
open Go.ChangeShapes Go.WideShapes Go.ChangeAt Go.RowKit
set_option linter.unusedVariables false

theorem tintUp (n m : Int) (a : Addr) (w : World) (hc : w.cell? a = some (.int .i64 m)) (h0 : 0 ≤ n) (h1 : n ≤ 255) :
    Calls Try.prog 17 #[.int .i64 n, .pointer (some a)] w fun e w' => e = .returned (.int .i64 (min 255 (n + m % 30))) ∧ w = w' := by
  have hb0 := Int.emod_nonneg m (b := 30) (by omega)
  have hb1 := Int.emod_lt_of_pos m (b := 30) (by omega)
  go_enter Try.func17, Try.ntmps17
  go_wp2_with (go_at_call 16; refine (rest_any _ _ _ (by omega) (by omega)).mono ?_; rintro e w' ⟨rfl, rfl⟩)
  go_ret
  exact ⟨rfl, rfl⟩
theorem rises (r g b k : Int) (hr : 0 ≤ r) (hg : 0 ≤ g) (hb : 0 ≤ b) (hk : 0 ≤ k) (hr1 : r ≤ 255) (hg1 : g ≤ 255) (hb1 : b ≤ 255) :
    toY r g b ≤ toY (min 255 (r + k)) g b ∧ toY r g b ≤ toY r (min 255 (g + k)) b ∧ toY r g b ≤ toY r g (min 255 (b + k)) ∧
    toU r g b ≤ toU r g (min 255 (b + k)) ∧ toV r g b ≤ toV (min 255 (r + k)) g b := by
  refine ⟨?_, ?_, ?_, ?_, ?_⟩ <;> (simp only [toY, toU, toV]; exact samp_mono _ _ (rnd_mono _ _ _ (by omega) (by omega)))
set_option maxRecDepth 100000 in
set_option maxHeartbeats 4000000 in
theorem TintRises_walk {H : Type} {enc : TypeId × Value → H} {d0 d1 d2 d3 : DataW H} {p0 p1 p2 p3 : List MemPlace} {v0 v1 v2 v3 : Value} {base : Nat} (W : World)
    (o0 : Value.okWide Try.prog W .any base 3 v0) (h0 : DataW.Trod enc Try.prog W 0 (fun _ => true) true 3 v0 d0 p0) (lt0 : ∀ x ∈ p0, x.block < W.heap.size)
    (o1 : Value.okWide Try.prog W .any base 3 v1) (h1 : DataW.Trod enc Try.prog W 0 (fun _ => true) true 3 v1 d1 p1) (lt1 : ∀ x ∈ p1, x.block < W.heap.size)
    (o2 : Value.okWide Try.prog W .any base 3 v2) (h2 : DataW.Trod enc Try.prog W 0 (fun _ => true) true 3 v2 d2 p2) (lt2 : ∀ x ∈ p2, x.block < W.heap.size)
    (o3 : Value.okWide Try.prog W .any base 3 v3) (h3 : DataW.Trod enc Try.prog W 0 (fun _ => true) true 3 v3 d3 p3) (lt3 : ∀ x ∈ p3, x.block < W.heap.size)
    :
    Calls Try.prog 3 #[v0, v1, v2, v3] W fun e w' => e = .returned (.bool true) ∧ Ext W w' := by
  obtain ⟨r, rfl, _, _⟩ := op_int Try.underlying3 o0 h0
  obtain ⟨g, rfl, _, _⟩ := op_int Try.underlying3 o1 h1
  obtain ⟨b, rfl, _, _⟩ := op_int Try.underlying3 o2 h2
  obtain ⟨m, rfl, _, _⟩ := op_int Try.underlying3 o3 h3
  clear o0 o1 o2 o3 h0 h1 h2 h3 lt0 lt1 lt2 lt3
  have r0 := Int.emod_nonneg r (b := 256) (by omega)
  have r1 := Int.emod_lt_of_pos r (b := 256) (by omega)
  have g0 := Int.emod_nonneg g (b := 256) (by omega)
  have g1 := Int.emod_lt_of_pos g (b := 256) (by omega)
  have b0 := Int.emod_nonneg b (b := 256) (by omega)
  have b1 := Int.emod_lt_of_pos b (b := 256) (by omega)
  have m0 := Int.emod_nonneg m (b := 30) (by omega)
  have m1 := Int.emod_lt_of_pos m (b := 30) (by omega)
  have ⟨k1, k2, k3, k4, k5⟩ := rises (r % 256) (g % 256) (b % 256) (m % 30) r0 g0 b0 m0 (by omega) (by omega) (by omega)
  have hmf : ∀ (fn : Fn) (first cap : Array Value) (w : World), (Instr.makeFunc fn first cap).run Try.prog w = .ok (.func fn first cap) w := fun _ _ _ _ => rfl
  go_enter Try.func3, Try.ntmps3
  go_wp2_with fail
  have hc : (W.alloc (Obj.cells #[Value.int IntKind.i64 m] 3)).cell? ⟨W.heap.size, 0, none⟩ = some (.int .i64 m) := by simp [go_sem]
  have hE : Ext W (W.alloc (Obj.cells #[Value.int IntKind.i64 m] 3)) := (Ext.refl W).alloc _
  refine (tinted_any _).mono ?_
  rintro e w' ⟨rfl, hE2⟩
  replace hc := hE2.cell hc
  replace hE := hE.trans hE2
  clear hE2
  go_wp2_with (first
    | (go_at_call 18; refine (tintTo_any _ _ _ _ (by omega) (by omega) (by omega)).mono ?_; rintro e w' ⟨rfl, hE2⟩; replace hc := hE2.cell hc; replace hE := hE.trans hE2; clear hE2)
    | (go_at_call 16; refine (rest_any _ _ _ (by omega) (by omega)).mono ?_; rintro e w' ⟨rfl, rfl⟩)
    | (go_at_call 17; refine (tintUp _ m _ _ hc (by omega) (by omega)).mono ?_; rintro e w' ⟨rfl, rfl⟩))
  go_ret
  exact ⟨rfl, hE⟩
theorem TintRises_own : ownKnob Try.prog.godebug = none := by kernel_rfl
theorem TintRises_laidOut : laidOutB Try.prog = true := by kernel_rfl
set_option maxRecDepth 100000 in
theorem TintRises_lifted (os : Os) (started : os.Started) (H : Type) (enc : TypeId × Value → H) :
    ReturnsInHanded {} Try.checked os 3 .any (Rows.tintRisesSpec.pre6 enc Try.prog Try.f3 Rows.tintRisesRow.domain false) (Rows.tintRisesSpec.post enc Try.prog Try.f3 false true false false) := by
  refine returnsInHanded_of_change (C := Try.checked) TintRises_own started (by kernel_rfl) Try.func3
    (ChangeSpec.witness6 (enc := enc) (C := Try.checked) false ⟨#[], #[.int .i64 0, .int .i64 0, .int .i64 0, .int .i64 0], []⟩ 8 (by kernel_rfl) (by kernel_rfl) (by kernel_rfl) (by kernel_rfl)) ?_
  intro W base args ds gs before hval0 hW hcnd _
  have hval : ∀ (j : Nat) t v, Try.f3.params[j]? = some t → args[j]? = some v → Value.okWide Try.prog W .any base t v := hval0
  have hW' := hW
  obtain ⟨p, q, hA0, hV, rfl, hfz, hnd⟩ := hW
  have hA : DataW.TrodAll enc Try.prog W 0 (fun _ => true) true Try.f3.params.toList args.toList ds p := hA0
  rw [Try.params3] at hA hval
  obtain ⟨v0, vs0, d0, ds0, p0, q0, hargs, rfl, rfl, h0, r0⟩ := trodAll_cons hA
  obtain ⟨v1, vs1, d1, ds1, p1, q1, rfl, rfl, rfl, h1, r1⟩ := trodAll_cons r0
  obtain ⟨v2, vs2, d2, ds2, p2, q2, rfl, rfl, rfl, h2, r2⟩ := trodAll_cons r1
  obtain ⟨v3, vs3, d3, ds3, p3, q3, rfl, rfl, rfl, h3, r3⟩ := trodAll_cons r2
  obtain ⟨rfl, rfl, rfl⟩ := trodAll_nil r3
  obtain rfl : args = #[v0, v1, v2, v3] := by cases args; simp_all
  obtain ⟨rfl, rfl⟩ := trodVars_none hV
  have lt0 : ∀ x ∈ p0, x.block < W.heap.size := by obtain ⟨m, hm⟩ := h0; exact DataW.trod_lt m _ _ _ hm
  have lt1 : ∀ x ∈ p1, x.block < W.heap.size := by obtain ⟨m, hm⟩ := h1; exact DataW.trod_lt m _ _ _ hm
  have lt2 : ∀ x ∈ p2, x.block < W.heap.size := by obtain ⟨m, hm⟩ := h2; exact DataW.trod_lt m _ _ _ hm
  have lt3 : ∀ x ∈ p3, x.block < W.heap.size := by obtain ⟨m, hm⟩ := h3; exact DataW.trod_lt m _ _ _ hm
  refine (TintRises_walk W (hval 0 3 v0 rfl rfl) h0 lt0 (hval 1 3 v1 rfl rfl) h1 lt1 (hval 2 3 v2 rfl rfl) h2 lt2 (hval 3 3 v3 rfl rfl) h3 lt3).mono fun e W' ⟨he, bel⟩ => ?_
  subst he
  exact ⟨_, rfl, _, _, _, [], _, [], hW', trodAll_mk1 (shut_bool Try.underlying4 _), (trodAll_cons_mk (Below.trod TintRises_laidOut (by kernel_rfl) (of_decide_eq_true (by kernel_rfl)) h0 bel lt0) (trodAll_cons_mk (Below.trod TintRises_laidOut (by kernel_rfl) (of_decide_eq_true (by kernel_rfl)) h1 bel lt1) (trodAll_cons_mk (Below.trod TintRises_laidOut (by kernel_rfl) (of_decide_eq_true (by kernel_rfl)) h2 bel lt2) (trodAll_cons_mk (Below.trod TintRises_laidOut (by kernel_rfl) (of_decide_eq_true (by kernel_rfl)) h3 bel lt3) trodAll_mk0)))), rfl, bel.frame _, fun h => by cases h⟩
/-- The statement. -/
theorem TintRises_proved : Rows.TintRisesSaid :=
  OpenClaim.holds_of_wide 3 Try.f3 rfl rfl rfl rfl rfl rfl rfl ⟨rfl, rfl, rfl, rfl, rfl⟩ rfl rfl rfl rfl rfl (by kernel_rfl) Try.func3 (by kernel_rfl)
    (of_decide_eq_true (by kernel_rfl)) (by unfold Func.isWrapper; rw [if_neg (by decide +kernel)]; exact ⟨rfl, rfl⟩)
    (fun os started H enc _ => TintRises_lifted os started H enc)
end Go.Proofs.Ytodihnhpibjhmaa
