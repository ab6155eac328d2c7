/-
  No cell of these rows narrows 'for every input' (looked for: loops, veiled, ifaces, maps, wideKeys, modest, calm, conditions, laid).
  DERIVED. THE GIVEN ROWS OF THIS SEAT. 12 by the template 'for every input the law returns true; each argument reads behind the call as it read before'; 0 by the template 'total and deterministic' (their statements: YtbihmbkkoidnbaaTotals.lean).
  GIVEN WITH THE SEED: the statements are not yours to turn. If you find one false, say at which input.
  Laid BY PROGRAM, IN A SANDBOX (cutbox-rows.mjs): the forced cells as the released guide's own fill.sh prints them over the translation 4eedbfbddb55f8e0… (all of the seat's roots in one cut). By AI agents, Wed Nov 11 2026. No macro, syntax, notation, axiom, sorry.
-/
import Derived.Test.YtbihmbkkoidnbaaChecked
import GoSem.Claim
import GoSem.ClaimJoined
import GoSem.ClaimMapViews
import Derived.JoinedTies
import Derived.KernelRfl
namespace Go.Proofs.Ytbihmbkkoidnbaa
/- THE CELL 'sum', in the pinned program and in every row, IS THE sha256 OF THE DUMP (.gsa) THAT YtbihmbkkoidnbaaProg.lean LOADS. Nothing in Lean hashes anything: it is a label: what it is worth is what the hold of that sum in a sandbox is worth. -/
noncomputable def Try.pinned : Pinned := { name := "ytbihmbkkoidnbaa", sum := "4eedbfbddb55f8e0d1860eb781964a84e1b6721328795b4071aa1b243cb35a23", checked := Try.checked }
namespace Rows
def none {H : Type} : Left H := { results := [], args := [] }

/-- 'mezzotintkeep.QuantRises': WHATEVER THE INPUT: true; the input reads as it did. -/
def quantRisesSpec : ChangeSpec := { name := "quantRises", fn := fun _ => fun
  | [d1, d2, d3] => { results := [.lit (.bool true)], args := [d1, d2, d3] }
  | _ => none }
def quantRisesRow : OpenClaim := { program := "ytbihmbkkoidnbaa", sum := "4eedbfbddb55f8e0d1860eb781964a84e1b6721328795b4071aa1b243cb35a23", func := "mezzotint/mezzotintkeep.QuantRises", spec := "quantRises", unfollowed := true, recurses := true, apart := false }
def QuantRisesSaid : Prop := quantRisesRow.holds Try.pinned (OpenSpec.ofChange quantRisesSpec)

/-- ITS FALSE NEIGHBOUR: 'it returns false'. Refute it at one input. -/
def quantRisesWrong : ChangeSpec := { name := "quantRises", fn := fun _ => fun
  | [d1, d2, d3] => { results := [.lit (.bool false)], args := [d1, d2, d3] }
  | _ => none }
def QuantRisesWrongFalsely : Prop := quantRisesRow.holds Try.pinned (OpenSpec.ofChange quantRisesWrong)

/-- 'mezzotintkeep.QuantSteps': WHATEVER THE INPUT: true; the input reads as it did. -/
def quantStepsSpec : ChangeSpec := { name := "quantSteps", fn := fun _ => fun
  | [d1, d2, d3] => { results := [.lit (.bool true)], args := [d1, d2, d3] }
  | _ => none }
def quantStepsRow : OpenClaim := { program := "ytbihmbkkoidnbaa", sum := "4eedbfbddb55f8e0d1860eb781964a84e1b6721328795b4071aa1b243cb35a23", func := "mezzotint/mezzotintkeep.QuantSteps", spec := "quantSteps", unfollowed := true, recurses := true, apart := false }
def QuantStepsSaid : Prop := quantStepsRow.holds Try.pinned (OpenSpec.ofChange quantStepsSpec)

/-- ITS FALSE NEIGHBOUR: 'it returns false'. Refute it at one input. -/
def quantStepsWrong : ChangeSpec := { name := "quantSteps", fn := fun _ => fun
  | [d1, d2, d3] => { results := [.lit (.bool false)], args := [d1, d2, d3] }
  | _ => none }
def QuantStepsWrongFalsely : Prop := quantStepsRow.holds Try.pinned (OpenSpec.ofChange quantStepsWrong)

/-- 'mezzotintkeep.QuantNear': WHATEVER THE INPUT: true; the input reads as it did. -/
def quantNearSpec : ChangeSpec := { name := "quantNear", fn := fun _ => fun
  | [d1, d2] => { results := [.lit (.bool true)], args := [d1, d2] }
  | _ => none }
def quantNearRow : OpenClaim := { program := "ytbihmbkkoidnbaa", sum := "4eedbfbddb55f8e0d1860eb781964a84e1b6721328795b4071aa1b243cb35a23", func := "mezzotint/mezzotintkeep.QuantNear", spec := "quantNear", unfollowed := true, recurses := true, apart := false }
def QuantNearSaid : Prop := quantNearRow.holds Try.pinned (OpenSpec.ofChange quantNearSpec)

/-- ITS FALSE NEIGHBOUR: 'it returns false'. Refute it at one input. -/
def quantNearWrong : ChangeSpec := { name := "quantNear", fn := fun _ => fun
  | [d1, d2] => { results := [.lit (.bool false)], args := [d1, d2] }
  | _ => none }
def QuantNearWrongFalsely : Prop := quantNearRow.holds Try.pinned (OpenSpec.ofChange quantNearWrong)

/-- 'mezzotintkeep.QuantBack': WHATEVER THE INPUT: true; the input reads as it did. -/
def quantBackSpec : ChangeSpec := { name := "quantBack", fn := fun _ => fun
  | [d1, d2] => { results := [.lit (.bool true)], args := [d1, d2] }
  | _ => none }
def quantBackRow : OpenClaim := { program := "ytbihmbkkoidnbaa", sum := "4eedbfbddb55f8e0d1860eb781964a84e1b6721328795b4071aa1b243cb35a23", func := "mezzotint/mezzotintkeep.QuantBack", spec := "quantBack", unfollowed := true, recurses := true, apart := false }
def QuantBackSaid : Prop := quantBackRow.holds Try.pinned (OpenSpec.ofChange quantBackSpec)

/-- ITS FALSE NEIGHBOUR: 'it returns false'. Refute it at one input. -/
def quantBackWrong : ChangeSpec := { name := "quantBack", fn := fun _ => fun
  | [d1, d2] => { results := [.lit (.bool false)], args := [d1, d2] }
  | _ => none }
def QuantBackWrongFalsely : Prop := quantBackRow.holds Try.pinned (OpenSpec.ofChange quantBackWrong)

/-- 'mezzotintkeep.QuantOnes': WHATEVER THE INPUT: true; the input reads as it did. -/
def quantOnesSpec : ChangeSpec := { name := "quantOnes", fn := fun _ => fun
  | [d1, d2] => { results := [.lit (.bool true)], args := [d1, d2] }
  | _ => none }
def quantOnesRow : OpenClaim := { program := "ytbihmbkkoidnbaa", sum := "4eedbfbddb55f8e0d1860eb781964a84e1b6721328795b4071aa1b243cb35a23", func := "mezzotint/mezzotintkeep.QuantOnes", spec := "quantOnes", unfollowed := true, recurses := true, apart := false }
def QuantOnesSaid : Prop := quantOnesRow.holds Try.pinned (OpenSpec.ofChange quantOnesSpec)

/-- ITS FALSE NEIGHBOUR: 'it returns false'. Refute it at one input. -/
def quantOnesWrong : ChangeSpec := { name := "quantOnes", fn := fun _ => fun
  | [d1, d2] => { results := [.lit (.bool false)], args := [d1, d2] }
  | _ => none }
def QuantOnesWrongFalsely : Prop := quantOnesRow.holds Try.pinned (OpenSpec.ofChange quantOnesWrong)

/-- 'mezzotintkeep.QuantScaled': WHATEVER THE INPUT: true; the input reads as it did. -/
def quantScaledSpec : ChangeSpec := { name := "quantScaled", fn := fun _ => fun
  | [d1, d2, d3] => { results := [.lit (.bool true)], args := [d1, d2, d3] }
  | _ => none }
def quantScaledRow : OpenClaim := { program := "ytbihmbkkoidnbaa", sum := "4eedbfbddb55f8e0d1860eb781964a84e1b6721328795b4071aa1b243cb35a23", func := "mezzotint/mezzotintkeep.QuantScaled", spec := "quantScaled", unfollowed := true, recurses := true, apart := false }
def QuantScaledSaid : Prop := quantScaledRow.holds Try.pinned (OpenSpec.ofChange quantScaledSpec)

/-- ITS FALSE NEIGHBOUR: 'it returns false'. Refute it at one input. -/
def quantScaledWrong : ChangeSpec := { name := "quantScaled", fn := fun _ => fun
  | [d1, d2, d3] => { results := [.lit (.bool false)], args := [d1, d2, d3] }
  | _ => none }
def QuantScaledWrongFalsely : Prop := quantScaledRow.holds Try.pinned (OpenSpec.ofChange quantScaledWrong)

/-- 'mezzotintkeep.SizeRises': WHATEVER THE INPUT: true; the input reads as it did. -/
def sizeRisesSpec : ChangeSpec := { name := "sizeRises", fn := fun _ => fun
  | [d1, d2] => { results := [.lit (.bool true)], args := [d1, d2] }
  | _ => none }
def sizeRisesRow : OpenClaim := { program := "ytbihmbkkoidnbaa", sum := "4eedbfbddb55f8e0d1860eb781964a84e1b6721328795b4071aa1b243cb35a23", func := "mezzotint/mezzotintkeep.SizeRises", spec := "sizeRises", apart := false }
def SizeRisesSaid : Prop := sizeRisesRow.holds Try.pinned (OpenSpec.ofChange sizeRisesSpec)

/-- ITS FALSE NEIGHBOUR: 'it returns false'. Refute it at one input. -/
def sizeRisesWrong : ChangeSpec := { name := "sizeRises", fn := fun _ => fun
  | [d1, d2] => { results := [.lit (.bool false)], args := [d1, d2] }
  | _ => none }
def SizeRisesWrongFalsely : Prop := sizeRisesRow.holds Try.pinned (OpenSpec.ofChange sizeRisesWrong)

/-- 'mezzotintkeep.SizeDoubles': WHATEVER THE INPUT: true; the input reads as it did. -/
def sizeDoublesSpec : ChangeSpec := { name := "sizeDoubles", fn := fun _ => fun
  | [d] => { results := [.lit (.bool true)], args := [d] }
  | _ => none }
def sizeDoublesRow : OpenClaim := { program := "ytbihmbkkoidnbaa", sum := "4eedbfbddb55f8e0d1860eb781964a84e1b6721328795b4071aa1b243cb35a23", func := "mezzotint/mezzotintkeep.SizeDoubles", spec := "sizeDoubles", apart := false }
def SizeDoublesSaid : Prop := sizeDoublesRow.holds Try.pinned (OpenSpec.ofChange sizeDoublesSpec)

/-- ITS FALSE NEIGHBOUR: 'it returns false'. Refute it at one input. -/
def sizeDoublesWrong : ChangeSpec := { name := "sizeDoubles", fn := fun _ => fun
  | [d] => { results := [.lit (.bool false)], args := [d] }
  | _ => none }
def SizeDoublesWrongFalsely : Prop := sizeDoublesRow.holds Try.pinned (OpenSpec.ofChange sizeDoublesWrong)

/-- 'mezzotintkeep.SizeBack': WHATEVER THE INPUT: true; the input reads as it did. -/
def sizeBackSpec : ChangeSpec := { name := "sizeBack", fn := fun _ => fun
  | [d1, d2, d3] => { results := [.lit (.bool true)], args := [d1, d2, d3] }
  | _ => none }
def sizeBackRow : OpenClaim := { program := "ytbihmbkkoidnbaa", sum := "4eedbfbddb55f8e0d1860eb781964a84e1b6721328795b4071aa1b243cb35a23", func := "mezzotint/mezzotintkeep.SizeBack", spec := "sizeBack", apart := false }
def SizeBackSaid : Prop := sizeBackRow.holds Try.pinned (OpenSpec.ofChange sizeBackSpec)

/-- ITS FALSE NEIGHBOUR: 'it returns false'. Refute it at one input. -/
def sizeBackWrong : ChangeSpec := { name := "sizeBack", fn := fun _ => fun
  | [d1, d2, d3] => { results := [.lit (.bool false)], args := [d1, d2, d3] }
  | _ => none }
def SizeBackWrongFalsely : Prop := sizeBackRow.holds Try.pinned (OpenSpec.ofChange sizeBackWrong)

/-- 'mezzotintkeep.PlaneEdge': WHATEVER THE INPUT: true; the input reads as it did. -/
def planeEdgeSpec : ChangeSpec := { name := "planeEdge", fn := fun _ => fun
  | [d1, d2, d3] => { results := [.lit (.bool true)], args := [d1, d2, d3] }
  | _ => none }
def planeEdgeRow : OpenClaim := { program := "ytbihmbkkoidnbaa", sum := "4eedbfbddb55f8e0d1860eb781964a84e1b6721328795b4071aa1b243cb35a23", func := "mezzotint/mezzotintkeep.PlaneEdge", spec := "planeEdge", unfollowed := true, recurses := true, apart := false }
def PlaneEdgeSaid : Prop := planeEdgeRow.holds Try.pinned (OpenSpec.ofChange planeEdgeSpec)

/-- ITS FALSE NEIGHBOUR: 'it returns false'. Refute it at one input. -/
def planeEdgeWrong : ChangeSpec := { name := "planeEdge", fn := fun _ => fun
  | [d1, d2, d3] => { results := [.lit (.bool false)], args := [d1, d2, d3] }
  | _ => none }
def PlaneEdgeWrongFalsely : Prop := planeEdgeRow.holds Try.pinned (OpenSpec.ofChange planeEdgeWrong)

/-- 'mezzotintkeep.PlaneMany': WHATEVER THE INPUT: true; the input reads as it did. -/
def planeManySpec : ChangeSpec := { name := "planeMany", fn := fun _ => fun
  | [d1, d2] => { results := [.lit (.bool true)], args := [d1, d2] }
  | _ => none }
def planeManyRow : OpenClaim := { program := "ytbihmbkkoidnbaa", sum := "4eedbfbddb55f8e0d1860eb781964a84e1b6721328795b4071aa1b243cb35a23", func := "mezzotint/mezzotintkeep.PlaneMany", spec := "planeMany", unfollowed := true, recurses := true, apart := false }
def PlaneManySaid : Prop := planeManyRow.holds Try.pinned (OpenSpec.ofChange planeManySpec)

/-- ITS FALSE NEIGHBOUR: 'it returns false'. Refute it at one input. -/
def planeManyWrong : ChangeSpec := { name := "planeMany", fn := fun _ => fun
  | [d1, d2] => { results := [.lit (.bool false)], args := [d1, d2] }
  | _ => none }
def PlaneManyWrongFalsely : Prop := planeManyRow.holds Try.pinned (OpenSpec.ofChange planeManyWrong)

/-- 'mezzotintkeep.PlaneBack': WHATEVER THE INPUT: true; the input reads as it did. -/
def planeBackSpec : ChangeSpec := { name := "planeBack", fn := fun _ => fun
  | [d1, d2, d3] => { results := [.lit (.bool true)], args := [d1, d2, d3] }
  | _ => none }
def planeBackRow : OpenClaim := { program := "ytbihmbkkoidnbaa", sum := "4eedbfbddb55f8e0d1860eb781964a84e1b6721328795b4071aa1b243cb35a23", func := "mezzotint/mezzotintkeep.PlaneBack", spec := "planeBack", unfollowed := true, recurses := true, apart := false }
def PlaneBackSaid : Prop := planeBackRow.holds Try.pinned (OpenSpec.ofChange planeBackSpec)

/-- ITS FALSE NEIGHBOUR: 'it returns false'. Refute it at one input. -/
def planeBackWrong : ChangeSpec := { name := "planeBack", fn := fun _ => fun
  | [d1, d2, d3] => { results := [.lit (.bool false)], args := [d1, d2, d3] }
  | _ => none }
def PlaneBackWrongFalsely : Prop := planeBackRow.holds Try.pinned (OpenSpec.ofChange planeBackWrong)

/- THE SECOND FORM. 'bulk': how many values and letters a reading holds, each counted each time it is reached (what is shared counts as often as it is met; a slice's spare places count too). A statement '..UptoSaid' is the law's where the arguments, and the package variables that the reading takes, are together of bulk at most 1048576: NARROWER than '..Said'. Prove '..Said' where nothing that the law and all that it calls make is longer than what came in: it says more and counts as full. Else prove '..UptoSaid'. A law counts once. -/
mutual
def uptoBulk {H : Type} : DataW H → Nat
  | .lit (.string bytes) => bytes.length + 1
  | .lit _ => 1
  | .nil => 1
  | .ptr d => uptoBulk d + 1
  | .slice elems spare => uptoBulkAll elems + uptoBulkAll spare + 1
  | .agg parts => uptoBulkAll parts + 1
  | .iface _ d => uptoBulk d + 1
  | .map entries => uptoBulkEntries entries + 1
  | .held _ => 1
def uptoBulkAll {H : Type} : List (DataW H) → Nat
  | [] => 0
  | d :: r => uptoBulk d + uptoBulkAll r
def uptoBulkEntries {H : Type} : List (Lit × DataW H) → Nat
  | [] => 0
  | x :: r => uptoBulkEntry x + uptoBulkEntries r
def uptoBulkEntry {H : Type} : Lit × DataW H → Nat
  | (.string bytes, d) => bytes.length + uptoBulk d + 1
  | (_, d) => uptoBulk d + 1
 end
def uptoSmall : (H : Type) → List (DataW H) → Bool := fun _ ds => decide (uptoBulkAll ds ≤ 1048576)
def OpenSpec.upto (s : _root_.Go.ChangeSpec) : _root_.Go.OpenSpec := { _root_.Go.OpenSpec.ofChange s with cond := some uptoSmall }

/-- 'mezzotintkeep.QuantRises', WHERE WHAT IT READS IS OF BULK AT MOST 1048576: true; the input reads as it did. -/
def quantRisesUptoRow : OpenClaim := { program := "ytbihmbkkoidnbaa", sum := "4eedbfbddb55f8e0d1860eb781964a84e1b6721328795b4071aa1b243cb35a23", func := "mezzotint/mezzotintkeep.QuantRises", spec := "quantRises", unfollowed := true, recurses := true, apart := false, narrowed := true }
def QuantRisesUptoSaid : Prop := quantRisesUptoRow.holds Try.pinned (OpenSpec.upto quantRisesSpec)

/-- 'mezzotintkeep.QuantSteps', WHERE WHAT IT READS IS OF BULK AT MOST 1048576: true; the input reads as it did. -/
def quantStepsUptoRow : OpenClaim := { program := "ytbihmbkkoidnbaa", sum := "4eedbfbddb55f8e0d1860eb781964a84e1b6721328795b4071aa1b243cb35a23", func := "mezzotint/mezzotintkeep.QuantSteps", spec := "quantSteps", unfollowed := true, recurses := true, apart := false, narrowed := true }
def QuantStepsUptoSaid : Prop := quantStepsUptoRow.holds Try.pinned (OpenSpec.upto quantStepsSpec)

/-- 'mezzotintkeep.QuantNear', WHERE WHAT IT READS IS OF BULK AT MOST 1048576: true; the input reads as it did. -/
def quantNearUptoRow : OpenClaim := { program := "ytbihmbkkoidnbaa", sum := "4eedbfbddb55f8e0d1860eb781964a84e1b6721328795b4071aa1b243cb35a23", func := "mezzotint/mezzotintkeep.QuantNear", spec := "quantNear", unfollowed := true, recurses := true, apart := false, narrowed := true }
def QuantNearUptoSaid : Prop := quantNearUptoRow.holds Try.pinned (OpenSpec.upto quantNearSpec)

/-- 'mezzotintkeep.QuantBack', WHERE WHAT IT READS IS OF BULK AT MOST 1048576: true; the input reads as it did. -/
def quantBackUptoRow : OpenClaim := { program := "ytbihmbkkoidnbaa", sum := "4eedbfbddb55f8e0d1860eb781964a84e1b6721328795b4071aa1b243cb35a23", func := "mezzotint/mezzotintkeep.QuantBack", spec := "quantBack", unfollowed := true, recurses := true, apart := false, narrowed := true }
def QuantBackUptoSaid : Prop := quantBackUptoRow.holds Try.pinned (OpenSpec.upto quantBackSpec)

/-- 'mezzotintkeep.QuantOnes', WHERE WHAT IT READS IS OF BULK AT MOST 1048576: true; the input reads as it did. -/
def quantOnesUptoRow : OpenClaim := { program := "ytbihmbkkoidnbaa", sum := "4eedbfbddb55f8e0d1860eb781964a84e1b6721328795b4071aa1b243cb35a23", func := "mezzotint/mezzotintkeep.QuantOnes", spec := "quantOnes", unfollowed := true, recurses := true, apart := false, narrowed := true }
def QuantOnesUptoSaid : Prop := quantOnesUptoRow.holds Try.pinned (OpenSpec.upto quantOnesSpec)

/-- 'mezzotintkeep.QuantScaled', WHERE WHAT IT READS IS OF BULK AT MOST 1048576: true; the input reads as it did. -/
def quantScaledUptoRow : OpenClaim := { program := "ytbihmbkkoidnbaa", sum := "4eedbfbddb55f8e0d1860eb781964a84e1b6721328795b4071aa1b243cb35a23", func := "mezzotint/mezzotintkeep.QuantScaled", spec := "quantScaled", unfollowed := true, recurses := true, apart := false, narrowed := true }
def QuantScaledUptoSaid : Prop := quantScaledUptoRow.holds Try.pinned (OpenSpec.upto quantScaledSpec)

/-- 'mezzotintkeep.SizeRises', WHERE WHAT IT READS IS OF BULK AT MOST 1048576: true; the input reads as it did. -/
def sizeRisesUptoRow : OpenClaim := { program := "ytbihmbkkoidnbaa", sum := "4eedbfbddb55f8e0d1860eb781964a84e1b6721328795b4071aa1b243cb35a23", func := "mezzotint/mezzotintkeep.SizeRises", spec := "sizeRises", apart := false, narrowed := true }
def SizeRisesUptoSaid : Prop := sizeRisesUptoRow.holds Try.pinned (OpenSpec.upto sizeRisesSpec)

/-- 'mezzotintkeep.SizeDoubles', WHERE WHAT IT READS IS OF BULK AT MOST 1048576: true; the input reads as it did. -/
def sizeDoublesUptoRow : OpenClaim := { program := "ytbihmbkkoidnbaa", sum := "4eedbfbddb55f8e0d1860eb781964a84e1b6721328795b4071aa1b243cb35a23", func := "mezzotint/mezzotintkeep.SizeDoubles", spec := "sizeDoubles", apart := false, narrowed := true }
def SizeDoublesUptoSaid : Prop := sizeDoublesUptoRow.holds Try.pinned (OpenSpec.upto sizeDoublesSpec)

/-- 'mezzotintkeep.SizeBack', WHERE WHAT IT READS IS OF BULK AT MOST 1048576: true; the input reads as it did. -/
def sizeBackUptoRow : OpenClaim := { program := "ytbihmbkkoidnbaa", sum := "4eedbfbddb55f8e0d1860eb781964a84e1b6721328795b4071aa1b243cb35a23", func := "mezzotint/mezzotintkeep.SizeBack", spec := "sizeBack", apart := false, narrowed := true }
def SizeBackUptoSaid : Prop := sizeBackUptoRow.holds Try.pinned (OpenSpec.upto sizeBackSpec)

/-- 'mezzotintkeep.PlaneEdge', WHERE WHAT IT READS IS OF BULK AT MOST 1048576: true; the input reads as it did. -/
def planeEdgeUptoRow : OpenClaim := { program := "ytbihmbkkoidnbaa", sum := "4eedbfbddb55f8e0d1860eb781964a84e1b6721328795b4071aa1b243cb35a23", func := "mezzotint/mezzotintkeep.PlaneEdge", spec := "planeEdge", unfollowed := true, recurses := true, apart := false, narrowed := true }
def PlaneEdgeUptoSaid : Prop := planeEdgeUptoRow.holds Try.pinned (OpenSpec.upto planeEdgeSpec)

/-- 'mezzotintkeep.PlaneMany', WHERE WHAT IT READS IS OF BULK AT MOST 1048576: true; the input reads as it did. -/
def planeManyUptoRow : OpenClaim := { program := "ytbihmbkkoidnbaa", sum := "4eedbfbddb55f8e0d1860eb781964a84e1b6721328795b4071aa1b243cb35a23", func := "mezzotint/mezzotintkeep.PlaneMany", spec := "planeMany", unfollowed := true, recurses := true, apart := false, narrowed := true }
def PlaneManyUptoSaid : Prop := planeManyUptoRow.holds Try.pinned (OpenSpec.upto planeManySpec)

/-- 'mezzotintkeep.PlaneBack', WHERE WHAT IT READS IS OF BULK AT MOST 1048576: true; the input reads as it did. -/
def planeBackUptoRow : OpenClaim := { program := "ytbihmbkkoidnbaa", sum := "4eedbfbddb55f8e0d1860eb781964a84e1b6721328795b4071aa1b243cb35a23", func := "mezzotint/mezzotintkeep.PlaneBack", spec := "planeBack", unfollowed := true, recurses := true, apart := false, narrowed := true }
def PlaneBackUptoSaid : Prop := planeBackUptoRow.holds Try.pinned (OpenSpec.upto planeBackSpec)

end Rows
end Go.Proofs.Ytbihmbkkoidnbaa
