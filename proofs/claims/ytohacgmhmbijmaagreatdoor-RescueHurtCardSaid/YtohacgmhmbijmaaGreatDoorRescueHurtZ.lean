/- carded -/
import Derived.Test.YtohacgmhmbijmaaGreatDoorRescueHurtZ2
import Derived.Test.YtohacgmhmbijmaaGreatDoorRows
import Derived.Test.YtohacgmhmbijmaaGreatDoorCards
import Derived.Test.YtohacgmhmbijmaaGreatDoorTie
import Derived.Deep.DeepHandedRow
import Derived.Lay
import Derived.SevenTiedAt
namespace Go.Proofs.YtohacgmhmbijmaaGreatDoor
attribute [local irreducible] Region.wanted
open Go.ChangeShapes Go.WideShapes Go.ChangeAt Go.RowKit
set_option linter.unusedVariables false
set_option maxRecDepth 100000
set_option maxHeartbeats 8000000
theorem G6(f:FuncId)(fn:Func)(hf:Tryz.pinned.checked.prog.funcNamed "mezzotint/mezzotintkeep.RescueHurt" =some f)(hfn:Tryz.pinned.checked.prog.funcs[f]? =some fn):
 false=Tryz.pinned.checked.prog.looks []∧∀(j:Nat) t,fn.params[j]? =some t→Tryz.pinned.checked.prog.wantsStandIn t=false:=by
 obtain rfl:f=10:=Option.some.inj ((show Tryz.prog.funcNamed "mezzotint/mezzotintkeep.RescueHurt" =some 10 by kernel_rfl).symm.trans hf) |>.symm
 obtain rfl:fn=Tryz.f10:=(Option.some.inj (Tryz.func10.symm.trans hfn)).symm
 refine ⟨by kernel_rfl,fun j t ht=>?_⟩
 rw [Tryz.params10] at ht
 have hm:t∈([24,26,3,3]:List Nat):=by simpa using Array.mem_of_getElem? ht
 have hall:(([24,26,3,3]:List Nat).all fun u=>!Tryz.prog.wantsStandIn u)=true:=by kernel_rfl
 exact (show Tryz.prog.wantsStandIn t=false by simpa using List.all_eq_true.1 hall t hm)
theorem RescueHurt_proved:Rows.RescueHurtCardSaid:=
 Claim7.holds_tied_plain_at .later [] _ _ _ _ Jk (fun _ h=>by cases h) AA (fun _ h=>by cases h) rescueHurt_row_tie rfl ⟨rfl,rfl⟩ AA rfl G6 AA
end Go.Proofs.YtohacgmhmbijmaaGreatDoor
