/- The closed fact of the laws on tint. -/
import Derived.Test.YtodihnhpibjhmaaTintMath
namespace Go.Proofs.Ytodihnhpibjhmaa
open Go.RowKit
theorem tinted_any (w : World) : Calls Try.prog 15 #[] w fun e w' => e = .returned (.bool true) ∧ Ext w w' := by
  have e1 : toY 255 255 255 = 255 := by decide
  have e2 : toU 255 255 255 = 128 := by decide
  have e3 : toV 255 255 255 = 128 := by decide
  go_enter Try.func15, Try.ntmps15
  go_wp2_with (go_at_call 18; refine (tintTo_any _ _ _ _ (by omega) (by omega) (by omega)).mono ?_; rintro e w' ⟨rfl, hgr⟩)
  go_ret
  exact ⟨rfl, by assumption⟩

end Go.Proofs.Ytodihnhpibjhmaa
