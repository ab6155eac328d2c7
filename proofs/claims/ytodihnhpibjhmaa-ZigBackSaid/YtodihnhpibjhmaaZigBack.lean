/- The law ZigBack: its walk, and the statement. -/
import Derived.Test.YtodihnhpibjhmaaZigKeep
import Derived.Test.YtodihnhpibjhmaaFree
import Derived.Test.YtodihnhpibjhmaaOpenBlock
namespace Go.Proofs.Ytodihnhpibjhmaa
open Go.ChangeShapes Go.WideShapes Go.ChangeAt Go.RowKit
set_option linter.unusedVariables false
set_option maxRecDepth 100000 in
set_option maxHeartbeats 1000000 in
theorem ZigBack_walk {H : Type} {enc : TypeId × Value → H} {d0 : DataW H} {p0 : List MemPlace} {v0 : Value} {base : Nat} (W : World)
    (o0 : Value.okWide Try.prog W .any base 46 v0) (h0 : DataW.Trod enc Try.prog W 0 (fun _ => true) true 46 v0 d0 p0) (lt0 : ∀ x ∈ p0, x.block < W.heap.size)
    :
    Calls Try.prog 13 #[v0] W fun e w' => e = .returned (.bool true) ∧ Ext W w' := by
  obtain ⟨l, hl, rfl, _⟩ := op_block o0
  clear o0 h0 lt0
  have q : ∀ w, (Op.equalIn 10000 46 (.agg (iv l)) (.agg (iv l))).run Try.prog w = .ok true w := fun w => by
    have h := run_equalIn_iv (P := Try.prog) w 9998 46 3 64 Try.underlying46 Try.underlying3 (fun w => Try.sizeOf3 w) l l hl hl
    rw [h]; simp
  have HL := hid hl
  clear hl
  have hE : Ext W W := Ext.refl W
  go_enter Try.func13, Try.ntmps13
  go_wp2_with fail
  have hu := Try.underlying46
  have hi : (Try.prog.info? 46).map (·.size) = some l.length := by rw [HL.out]; kernel_rfl
  have hr0 := Row.new W l 46
  have hE0 : Ext W (W.alloc (.cells (iv l) 46)).drew := ((Ext.refl W).alloc _).drew
  clear hE
  refine wp_region_free (by kernel_rfl) (by kernel_rfl) (fun w' => Row w' W.heap.size l ∧ Ext W w') ⟨hr0, hE0⟩ ?_
  clear hE0 hr0
  iterate 16 (
    apply FreeWalk.cons
    case h =>
      intro w1 hI1
      obtain ⟨hr1, hE1⟩ := hI1
      go_wp2_with (first
        | (refine wpList_load_iv rfl 46 _ rfl W.heap.size rfl l _ hr1 hu rfl hi ?_)
        | (go_at_call 19; refine (zigged_any _).mono ?_; rintro e w' ⟨rfl, hE2⟩; replace hr1 := hr1.ext hE2; replace hE1 := hE1.trans hE2; clear hE2)
        | (go_at_call 26; ((with_reducible (first | refine (zto_any _ l HL.out).mono ?_ | refine (zto_any _ (zfrom l) (zfrom_len l)).mono ?_)); rintro e w' ⟨rfl, hE2⟩); (try rw [zto_zfrom l HL.out]); replace hr1 := hr1.ext hE2; replace hE1 := hE1.trans hE2; clear hE2)
        | (go_at_call 27; ((with_reducible (first | refine (zfrom_any _ l HL.out).mono ?_ | refine (zfrom_any _ (zto l) (zto_len l)).mono ?_)); rintro e w' ⟨rfl, hE2⟩); (try rw [zfrom_zto l HL.out]); replace hr1 := hr1.ext hE2; replace hE1 := hE1.trans hE2; clear hE2))
      exact ⟨rfl, hr1, hE1⟩
    case hd => rfl)
  refine FreeWalk.nil fun w1 hI1 => ?_
  go_wp2_with fail
  go_ret
  exact ⟨rfl, hI1.2⟩
end Go.Proofs.Ytodihnhpibjhmaa
