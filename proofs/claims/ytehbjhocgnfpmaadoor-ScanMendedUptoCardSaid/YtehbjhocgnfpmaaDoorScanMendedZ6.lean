/- The law ScanMended: what its proof needs, part 6. -/
import Derived.Test.YtehbjhocgnfpmaaDoorScanMendedZ5
import Derived.Test.YtehbjhocgnfpmaaDoorRows
import Derived.JoinedCond
import Derived.Test.YtehbjhocgnfpmaaDoorCards
import Derived.Test.YtehbjhocgnfpmaaDoorTie
import Derived.Deep.DeepHandedRow
import Derived.Lay
import Derived.SevenTiedAt
/- The law ScanMended: the frame round its walk, and the statement. -/
namespace Go.Proofs.YtehbjhocgnfpmaaDoor
open Go.ChangeShapes Go.WideShapes Go.ChangeAt Go.RowKit
set_option linter.unusedVariables false
def ScanMended_args : Array Value := #[.agg #[.int .i64 0, .int .i64 0, .int .i64 0, .int .i64 0, .int .i64 0, .int .i64 0, .int .i64 0, .int .i64 0, .int .i64 0, .int .i64 0, .int .i64 0, .int .i64 0, .int .i64 0, .int .i64 0, .int .i64 0, .int .i64 0, .slice none 0 0, .int .i64 0, .int .i64 0, .int .i64 0, .int .i64 0, .int .i64 0, .int .i64 0, .int .i64 0, .int .i64 0, .int .i64 0, .int .i64 0, .int .i64 0, .int .i64 0, .int .i64 0, .int .i64 0, .int .i64 0, .int .i64 0, .slice none 0 0], .slice none 0 0, .int .i64 0, .int .i64 0]
theorem ScanMended_own : ownKnob Tryd.prog.godebug = none := by kernel_rfl
theorem ScanMended_laidOut : laidOutB Tryd.prog = true := by kernel_rfl
theorem ScanMended_met (os : Os) (args : Array Value) : laidMetH Tryd.prog Rows.scanMendedUptoRow.laid ((World.laidAll Tryd.prog os Rows.scanMendedUptoRow.laid).forCall (fun _ _ => 0) ⟨#[], args, []⟩).memory := by
 rw [MakeChecks.laidMetH_plain _ _ _ kr9]; exact laidMet_laidAll _ kr9 kr9
theorem ScanMended_reads (os : Os) {H : Type} (enc : TypeId × Value → H) : ∃ places, DataW.whole enc Tryd.prog ((World.laidAll Tryd.prog os Rows.scanMendedUptoRow.laid).forCall (fun _ _ => 0) ⟨#[], ScanMended_args, []⟩).memory Tryd.f11.params.toList Rows.scanMendedSpec.vars false (ScanMended_args : Array Value).toList 8 = some ([.agg [.agg [.agg [.lit (.int .i64 0), .lit (.int .i64 0), .lit (.int .i64 0), .lit (.int .i64 0), .lit (.int .i64 0), .lit (.int .i64 0), .lit (.int .i64 0), .lit (.int .i64 0), .lit (.int .i64 0), .lit (.int .i64 0), .lit (.int .i64 0), .lit (.int .i64 0), .lit (.int .i64 0), .lit (.int .i64 0), .lit (.int .i64 0), .lit (.int .i64 0)], .nil], .agg [.agg [.lit (.int .i64 0), .lit (.int .i64 0), .lit (.int .i64 0), .lit (.int .i64 0), .lit (.int .i64 0), .lit (.int .i64 0), .lit (.int .i64 0), .lit (.int .i64 0), .lit (.int .i64 0), .lit (.int .i64 0), .lit (.int .i64 0), .lit (.int .i64 0), .lit (.int .i64 0), .lit (.int .i64 0), .lit (.int .i64 0), .lit (.int .i64 0)], .nil]], .nil, .lit (.int .i64 0), .lit (.int .i64 0)], [], places) :=
 ⟨[], by kernel_rfl⟩
set_option maxRecDepth 100000 in
theorem ScanMended_lifted (os : Os) (started : os.Started) (H : Type) (enc : TypeId × Value → H) (F : Stop.Interp) :
 ReturnsInHanded {} Tryd.checked os 11 .any ((Rows.OpenSpec.upto Rows.scanMendedSpec).preRow enc Tryd.prog Tryd.f11 Rows.scanMendedUptoRow.domain false Rows.scanMendedUptoRow.laid) (((Rows.OpenSpec.upto Rows.scanMendedSpec).at F).post enc Tryd.prog Tryd.f11 false true false false) := by
 obtain ⟨places, hx⟩ := ScanMended_reads os enc
 have hok : Input.okWideB Tryd.prog ((World.laidAll Tryd.prog os Rows.scanMendedUptoRow.laid).forCall (fun _ _ => 0) ⟨#[], ScanMended_args, []⟩) 11 ⟨#[], ScanMended_args, []⟩ = true := by kernel_rfl
 refine returnsInHanded_of_row (C := Tryd.checked) (s := Rows.OpenSpec.upto Rows.scanMendedSpec) ScanMended_own started kr9 Tryd.func11
  ⟨(World.laidAll Tryd.prog os Rows.scanMendedUptoRow.laid), fun _ _ => 0, ⟨#[], ScanMended_args, []⟩, World.laidAll_os _ _ _, World.shaped_of_ZipB kr9 kr9, (Input.okWide_of_okWideB (base := 0) hok).1, (Input.okWide_of_okWideB hok).2,
   OpenSpec.preRow_of_cond 8 hx kr9 (fun k hk => by cases hk; kernel_rfl) kr9 (ScanMended_met os _), by
   simp only [Assume.holds]
   exact ⟨by simp, by simp, by simp, by simp, by simp⟩⟩ ?_
 intro W base args ds gs before hval0 hW _ hk _ hL hsh _
 have hval : ∀ (j : Nat) t v, Tryd.f11.params[j]? = some t → args[j]? = some v → Value.okWide Tryd.prog W .any base t v := hval0
 have hW' := hW
 obtain ⟨p, q, hA0, hV, rfl, hfz, hnd⟩ := hW
 have hA : DataW.TrodAll enc Tryd.prog W 0 (fun _ => true) true Tryd.f11.params.toList args.toList ds p := hA0
 rw [Tryd.params11] at hA hval
 obtain ⟨v0, vs0, d0, ds0, p0, q0, hargs, rfl, rfl, h0, r0⟩ := trodAll_cons hA
 obtain ⟨v1, vs1, d1, ds1, p1, q1, rfl, rfl, rfl, h1, r1⟩ := trodAll_cons r0
 obtain ⟨v2, vs2, d2, ds2, p2, q2, rfl, rfl, rfl, h2, r2⟩ := trodAll_cons r1
 obtain ⟨v3, vs3, d3, ds3, p3, q3, rfl, rfl, rfl, h3, r3⟩ := trodAll_cons r2
 obtain ⟨rfl, rfl, rfl⟩ := trodAll_nil r3
 obtain rfl : args = #[v0, v1, v2, v3] := by cases args; simp_all
 obtain ⟨rfl, rfl⟩ := trodVars_none hV
 have lt0 : ∀ x ∈ p0, x.block < W.heap.size := by obtain ⟨m, hm⟩ := h0; exact DataW.trod_lt m _ _ _ hm
 have lt1 : ∀ x ∈ p1, x.block < W.heap.size := by obtain ⟨m, hm⟩ := h1; exact DataW.trod_lt m _ _ _ hm
 have lt2 : ∀ x ∈ p2, x.block < W.heap.size := by obtain ⟨m, hm⟩ := h2; exact DataW.trod_lt m _ _ _ hm
 have lt3 : ∀ x ∈ p3, x.block < W.heap.size := by obtain ⟨m, hm⟩ := h3; exact DataW.trod_lt m _ _ _ hm
 refine (ScanMended_walk W (hval 0 33 v0 rfl rfl) h0 lt0 (hval 1 34 v1 rfl rfl) h1 lt1 (hval 2 3 v2 rfl rfl) h2 lt2 (hval 3 3 v3 rfl rfl) h3 lt3 (by have := hk _ rfl; simpa only [List.append_nil, List.cons_append, List.nil_append] using this) hsh).mono fun e W' ⟨he, bel⟩ => ?_
 subst he
 exact ⟨_, rfl, _, _, _, [], _, [], hW', trodAll_mk1 (shut_bool Tryd.underlying4 _), (trodAll_cons_mk (Below.trod ScanMended_laidOut kr9 (of_decide_eq_true kr9) h0 bel lt0) (trodAll_cons_mk (Below.trod ScanMended_laidOut kr9 (of_decide_eq_true kr9) h1 bel lt1) (trodAll_cons_mk (Below.trod ScanMended_laidOut kr9 (of_decide_eq_true kr9) h2 bel lt2) (trodAll_cons_mk (Below.trod ScanMended_laidOut kr9 (of_decide_eq_true kr9) h3 bel lt3) trodAll_mk0)))), rfl, bel.frame _, fun h => by cases h⟩
theorem ScanMended_said : Rows.ScanMendedUptoSaid :=
 OpenClaim.holds_of_cond 11 Tryd.f11 rfl rfl rfl rfl rfl rfl rfl ⟨rfl, rfl, rfl, rfl, rfl⟩ rfl rfl rfl rfl rfl kr9 Tryd.func11 kr9
  (of_decide_eq_true kr9) (by unfold Func.isWrapper; rw [if_neg (by decide +kernel)]; exact ⟨rfl, rfl⟩)
  (fun os started H enc _ F => by rw [OpenClaim.pre_eq_preRow]; exact ScanMended_lifted os started H enc F)
theorem ScanMended_plainly (f : FuncId) (fn : Func) (hf : Tryd.pinned.checked.prog.funcNamed "mezzotint/mezzotintkeep.ScanMended" = some f) (hfn : Tryd.pinned.checked.prog.funcs[f]? = some fn) :
 false = Tryd.pinned.checked.prog.looks [] ∧ ∀ (j : Nat) t, fn.params[j]? = some t → Tryd.pinned.checked.prog.wantsStandIn t = false := by
 obtain rfl : f = 11 := Option.some.inj ((show Tryd.prog.funcNamed "mezzotint/mezzotintkeep.ScanMended" = some 11 by kernel_rfl).symm.trans hf) |>.symm
 obtain rfl : fn = Tryd.f11 := (Option.some.inj (Tryd.func11.symm.trans hfn)).symm
 refine ⟨by kernel_rfl, fun j t ht => ?_⟩
 rw [Tryd.params11] at ht
 have hm : t ∈ ([33, 34, 3, 3] : List Nat) := by simpa using Array.mem_of_getElem? ht
 have hall : (([33, 34, 3, 3] : List Nat).all fun u => !Tryd.prog.wantsStandIn u) = true := by kernel_rfl
 exact (show Tryd.prog.wantsStandIn t = false by simpa using List.all_eq_true.1 hall t hm)
theorem ScanMended_proved : Rows.ScanMendedUptoCardSaid :=
 Claim7.holds_tied_plain_at .later [] _ _ _ _ ScanMended_said (fun _ h => by cases h) kr9 (fun _ h => by cases h) scanMendedUpto_row_tie rfl ⟨rfl, rfl⟩ kr9 rfl ScanMended_plainly kr9

end Go.Proofs.YtehbjhocgnfpmaaDoor