/- The law StuffSize: the frame round its walk, and the statement. -/
import Derived.Test.YthmkhpijdpbfbaaDoorRows
import Derived.Test.YthmkhpijdpbfbaaDoorStuffSize
import Derived.Test.YthmkhpijdpbfbaaDoorOpen
import Derived.Test.YthmkhpijdpbfbaaDoorCards
import Derived.Test.YthmkhpijdpbfbaaDoorTie
import Derived.Deep.DeepHandedRow
import Derived.Lay
import Derived.SevenTiedAt
namespace Go.Proofs.YthmkhpijdpbfbaaDoor
open Go.ChangeShapes Go.WideShapes Go.ChangeAt Go.RowKit
set_option linter.unusedVariables false
def StuffSize_args : Array Value := #[.slice none 0 0]
theorem StuffSize_own : ownKnob Tryd.prog.godebug = none := by kernel_rfl
theorem StuffSize_laidOut : laidOutB Tryd.prog = true := by kernel_rfl
theorem StuffSize_met (os : Os) (args : Array Value) : laidMetH Tryd.prog Rows.stuffSizeRow.laid ((World.laidAll Tryd.prog os Rows.stuffSizeRow.laid).forCall (fun _ _ => 0) ⟨#[], args, []⟩).memory := by
  rw [MakeChecks.laidMetH_plain _ _ _ (by kernel_rfl)]; exact laidMet_laidAll _ (by kernel_rfl) (by kernel_rfl)
theorem StuffSize_reads (os : Os) {H : Type} (enc : TypeId × Value → H) : ∃ places, DataW.whole enc Tryd.prog ((World.laidAll Tryd.prog os Rows.stuffSizeRow.laid).forCall (fun _ _ => 0) ⟨#[], StuffSize_args, []⟩).memory Tryd.f3.params.toList Rows.stuffSizeSpec.vars false (StuffSize_args : Array Value).toList 8 = some ([.nil], [], places) :=
  ⟨[], by kernel_rfl⟩
set_option maxRecDepth 100000 in
theorem StuffSize_lifted (os : Os) (started : os.Started) (H : Type) (enc : TypeId × Value → H) (F : Stop.Interp) :
    ReturnsInHanded {} Tryd.checked os 3 .any ((OpenSpec.ofChange Rows.stuffSizeSpec).preRow enc Tryd.prog Tryd.f3 Rows.stuffSizeRow.domain false Rows.stuffSizeRow.laid) (((OpenSpec.ofChange Rows.stuffSizeSpec).at F).post enc Tryd.prog Tryd.f3 false true false false) := by
  obtain ⟨places, hx⟩ := StuffSize_reads os enc
  have hok : Input.okWideB Tryd.prog ((World.laidAll Tryd.prog os Rows.stuffSizeRow.laid).forCall (fun _ _ => 0) ⟨#[], StuffSize_args, []⟩) 3 ⟨#[], StuffSize_args, []⟩ = true := by kernel_rfl
  refine returnsInHanded_of_row (C := Tryd.checked) (s := OpenSpec.ofChange Rows.stuffSizeSpec) StuffSize_own started (by kernel_rfl) Tryd.func3
    ⟨(World.laidAll Tryd.prog os Rows.stuffSizeRow.laid), fun _ _ => 0, ⟨#[], StuffSize_args, []⟩, World.laidAll_os _ _ _, World.shaped_of_ZipB (by kernel_rfl) (by kernel_rfl), (Input.okWide_of_okWideB (base := 0) hok).1, (Input.okWide_of_okWideB hok).2,
      OpenSpec.preRow_of_cond 8 hx (by kernel_rfl) (fun k hk => by cases hk) (by kernel_rfl) (StuffSize_met os _), by
      simp only [Assume.holds]
      exact ⟨by simp, by simp, by simp, by simp, by simp⟩⟩ ?_
  intro W base args ds gs before hval0 hW _ hk hwt hL hsh _
  have hval : ∀ (j : Nat) t v, Tryd.f3.params[j]? = some t → args[j]? = some v → Value.okWide Tryd.prog W .any base t v := hval0
  have hW' := hW
  obtain ⟨p, q, hA0, hV, rfl, hfz, hnd⟩ := hW
  have hA : DataW.TrodAll enc Tryd.prog W 0 (fun _ => true) true Tryd.f3.params.toList args.toList ds p := hA0
  rw [Tryd.params3] at hA hval
  obtain ⟨v0, vs0, d0, ds0, p0, q0, hargs, rfl, rfl, h0, r0⟩ := trodAll_cons hA
  obtain ⟨rfl, rfl, rfl⟩ := trodAll_nil r0
  obtain rfl : args = #[v0] := by cases args; simp_all
  obtain ⟨rfl, rfl⟩ := trodVars_none hV
  have lt0 : ∀ x ∈ p0, x.block < W.heap.size := by obtain ⟨m, hm⟩ := h0; exact DataW.trod_lt m _ _ _ hm
  refine (StuffSize_walk W (hval 0 22 v0 rfl rfl) h0 lt0 (by have hw9 := hwt; rw [Tryd.params3] at hw9; first | exact hw9 | simpa only [List.append_nil, List.cons_append, List.nil_append] using hw9) hsh).mono fun e W' ⟨he, bel⟩ => ?_
  subst he
  exact ⟨_, rfl, _, _, _, [], _, [], hW', trodAll_mk1 (shut_bool Tryd.underlying4 _), (trodAll_cons_mk (Below.trod StuffSize_laidOut (by kernel_rfl) (of_decide_eq_true (by kernel_rfl)) h0 bel lt0) trodAll_mk0), rfl, bel.frame _, fun h => by cases h⟩
/-- The row. -/
theorem StuffSize_said : Rows.StuffSizeSaid :=
  OpenClaim.holds_of_cond 3 Tryd.f3 rfl rfl rfl rfl rfl rfl rfl ⟨rfl, rfl, rfl, rfl, rfl⟩ rfl rfl rfl rfl rfl (by kernel_rfl) Tryd.func3 (by kernel_rfl)
    (of_decide_eq_true (by kernel_rfl)) (by unfold Func.isWrapper; rw [if_neg (by decide +kernel)]; exact ⟨rfl, rfl⟩)
    (fun os started H enc _ F => by rw [OpenClaim.pre_eq_preRow]; exact StuffSize_lifted os started H enc F)
theorem StuffSize_plainly (f : FuncId) (fn : Func) (hf : Tryd.pinned.checked.prog.funcNamed "mezzotint/mezzotintkeep.StuffSize" = some f) (hfn : Tryd.pinned.checked.prog.funcs[f]? = some fn) :
    false = Tryd.pinned.checked.prog.looks [] ∧ ∀ (j : Nat) t, fn.params[j]? = some t → Tryd.pinned.checked.prog.wantsStandIn t = false := by
  obtain rfl : f = 3 := Option.some.inj ((show Tryd.prog.funcNamed "mezzotint/mezzotintkeep.StuffSize" = some 3 by kernel_rfl).symm.trans hf) |>.symm
  obtain rfl : fn = Tryd.f3 := (Option.some.inj (Tryd.func3.symm.trans hfn)).symm
  refine ⟨by kernel_rfl, fun j t ht => ?_⟩
  rw [Tryd.params3] at ht
  have hm : t ∈ ([22] : List Nat) := by simpa using Array.mem_of_getElem? ht
  have hall : (([22] : List Nat).all fun u => !Tryd.prog.wantsStandIn u) = true := by kernel_rfl
  exact (show Tryd.prog.wantsStandIn t = false by simpa using List.all_eq_true.1 hall t hm)
/-- The card. -/
theorem StuffSize_proved : Rows.StuffSizeCardSaid :=
  Claim7.holds_tied_plain_at .later [] _ _ _ _ StuffSize_said (fun _ h => by cases h) (by kernel_rfl) (fun _ h => by cases h) stuffSize_row_tie rfl ⟨rfl, rfl⟩ (by kernel_rfl) rfl StuffSize_plainly (by kernel_rfl)
end Go.Proofs.YthmkhpijdpbfbaaDoor
