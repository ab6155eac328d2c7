/-
  No cell of these rows narrows 'for every input' (looked for: loops, veiled, ifaces, maps, wideKeys, modest, calm, conditions, laid).
  DERIVED. THE GIVEN ROWS OF THIS SEAT. 8 by the template 'for every input the law returns true; each argument reads behind the call as it read before'; 0 by the template 'total and deterministic' (their statements: YtembekkanggciaaTotals.lean).
  GIVEN WITH THE SEED: the statements are not yours to turn. If you find one false, say at which input.
  Laid BY PROGRAM, IN A SANDBOX (cutbox-rows.mjs): the forced cells as the released guide's own fill.sh prints them over the translation 6f4984e4b16f3d84… (all of the seat's roots in one cut). By AI agents, Wed Nov 11 2026. No macro, syntax, notation, axiom, sorry.
-/
import Derived.Test.YtembekkanggciaaChecked
import GoSem.Claim
import GoSem.ClaimJoined
import GoSem.ClaimMapViews
import Derived.JoinedTies
import Derived.KernelRfl
namespace Go.Proofs.Ytembekkanggciaa
/- THE CELL 'sum', in the pinned program and in every row, IS THE sha256 OF THE DUMP (.gsa) THAT YtembekkanggciaaProg.lean LOADS. Nothing in Lean hashes anything: it is a label: what it is worth is what the hold of that sum in a sandbox is worth. -/
noncomputable def Try.pinned : Pinned := { name := "ytembekkanggciaa", sum := "6f4984e4b16f3d84c32b83cd42ca15e61f4a2dea5a9f5d658a13efd2f35f68c7", checked := Try.checked }
namespace Rows
def none {H : Type} : Left H := { results := [], args := [] }

/-- 'mezzotintkeep.BestBelow': WHATEVER THE INPUT: true; the input reads as it did. -/
def bestBelowSpec : ChangeSpec := { name := "bestBelow", fn := fun _ => fun
  | [d1, d2] => { results := [.lit (.bool true)], args := [d1, d2] }
  | _ => none }
def bestBelowRow : OpenClaim := { program := "ytembekkanggciaa", sum := "6f4984e4b16f3d84c32b83cd42ca15e61f4a2dea5a9f5d658a13efd2f35f68c7", func := "mezzotint/mezzotintkeep.BestBelow", spec := "bestBelow", unfollowed := true, recurses := true, apart := false }
def BestBelowSaid : Prop := bestBelowRow.holds Try.pinned (OpenSpec.ofChange bestBelowSpec)

/-- ITS FALSE NEIGHBOUR: 'it returns false'. Refute it at one input. -/
def bestBelowWrong : ChangeSpec := { name := "bestBelow", fn := fun _ => fun
  | [d1, d2] => { results := [.lit (.bool false)], args := [d1, d2] }
  | _ => none }
def BestBelowWrongFalsely : Prop := bestBelowRow.holds Try.pinned (OpenSpec.ofChange bestBelowWrong)

/-- 'mezzotintkeep.BestOrder': WHATEVER THE INPUT: true; the input reads as it did. -/
def bestOrderSpec : ChangeSpec := { name := "bestOrder", fn := fun _ => fun
  | [d] => { results := [.lit (.bool true)], args := [d] }
  | _ => none }
def bestOrderRow : OpenClaim := { program := "ytembekkanggciaa", sum := "6f4984e4b16f3d84c32b83cd42ca15e61f4a2dea5a9f5d658a13efd2f35f68c7", func := "mezzotint/mezzotintkeep.BestOrder", spec := "bestOrder", unfollowed := true, recurses := true, apart := false }
def BestOrderSaid : Prop := bestOrderRow.holds Try.pinned (OpenSpec.ofChange bestOrderSpec)

/-- ITS FALSE NEIGHBOUR: 'it returns false'. Refute it at one input. -/
def bestOrderWrong : ChangeSpec := { name := "bestOrder", fn := fun _ => fun
  | [d] => { results := [.lit (.bool false)], args := [d] }
  | _ => none }
def BestOrderWrongFalsely : Prop := bestOrderRow.holds Try.pinned (OpenSpec.ofChange bestOrderWrong)

/-- 'mezzotintkeep.BestTurned': WHATEVER THE INPUT: true; the input reads as it did. -/
def bestTurnedSpec : ChangeSpec := { name := "bestTurned", fn := fun _ => fun
  | [d1, d2] => { results := [.lit (.bool true)], args := [d1, d2] }
  | _ => none }
def bestTurnedRow : OpenClaim := { program := "ytembekkanggciaa", sum := "6f4984e4b16f3d84c32b83cd42ca15e61f4a2dea5a9f5d658a13efd2f35f68c7", func := "mezzotint/mezzotintkeep.BestTurned", spec := "bestTurned", unfollowed := true, recurses := true, apart := false }
def BestTurnedSaid : Prop := bestTurnedRow.holds Try.pinned (OpenSpec.ofChange bestTurnedSpec)

/-- ITS FALSE NEIGHBOUR: 'it returns false'. Refute it at one input. -/
def bestTurnedWrong : ChangeSpec := { name := "bestTurned", fn := fun _ => fun
  | [d1, d2] => { results := [.lit (.bool false)], args := [d1, d2] }
  | _ => none }
def BestTurnedWrongFalsely : Prop := bestTurnedRow.holds Try.pinned (OpenSpec.ofChange bestTurnedWrong)

/-- 'mezzotintkeep.BestRises': WHATEVER THE INPUT: true; the input reads as it did. -/
def bestRisesSpec : ChangeSpec := { name := "bestRises", fn := fun _ => fun
  | [d1, d2, d3] => { results := [.lit (.bool true)], args := [d1, d2, d3] }
  | _ => none }
def bestRisesRow : OpenClaim := { program := "ytembekkanggciaa", sum := "6f4984e4b16f3d84c32b83cd42ca15e61f4a2dea5a9f5d658a13efd2f35f68c7", func := "mezzotint/mezzotintkeep.BestRises", spec := "bestRises", unfollowed := true, recurses := true, apart := false }
def BestRisesSaid : Prop := bestRisesRow.holds Try.pinned (OpenSpec.ofChange bestRisesSpec)

/-- ITS FALSE NEIGHBOUR: 'it returns false'. Refute it at one input. -/
def bestRisesWrong : ChangeSpec := { name := "bestRises", fn := fun _ => fun
  | [d1, d2, d3] => { results := [.lit (.bool false)], args := [d1, d2, d3] }
  | _ => none }
def BestRisesWrongFalsely : Prop := bestRisesRow.holds Try.pinned (OpenSpec.ofChange bestRisesWrong)

/-- 'mezzotintkeep.BestFlat': WHATEVER THE INPUT: true; the input reads as it did. -/
def bestFlatSpec : ChangeSpec := { name := "bestFlat", fn := fun _ => fun
  | [d] => { results := [.lit (.bool true)], args := [d] }
  | _ => none }
def bestFlatRow : OpenClaim := { program := "ytembekkanggciaa", sum := "6f4984e4b16f3d84c32b83cd42ca15e61f4a2dea5a9f5d658a13efd2f35f68c7", func := "mezzotint/mezzotintkeep.BestFlat", spec := "bestFlat", unfollowed := true, recurses := true, apart := false }
def BestFlatSaid : Prop := bestFlatRow.holds Try.pinned (OpenSpec.ofChange bestFlatSpec)

/-- ITS FALSE NEIGHBOUR: 'it returns false'. Refute it at one input. -/
def bestFlatWrong : ChangeSpec := { name := "bestFlat", fn := fun _ => fun
  | [d] => { results := [.lit (.bool false)], args := [d] }
  | _ => none }
def BestFlatWrongFalsely : Prop := bestFlatRow.holds Try.pinned (OpenSpec.ofChange bestFlatWrong)

/-- 'mezzotintkeep.BestTwo': WHATEVER THE INPUT: true; the input reads as it did. -/
def bestTwoSpec : ChangeSpec := { name := "bestTwo", fn := fun _ => fun
  | [d1, d2] => { results := [.lit (.bool true)], args := [d1, d2] }
  | _ => none }
def bestTwoRow : OpenClaim := { program := "ytembekkanggciaa", sum := "6f4984e4b16f3d84c32b83cd42ca15e61f4a2dea5a9f5d658a13efd2f35f68c7", func := "mezzotint/mezzotintkeep.BestTwo", spec := "bestTwo", unfollowed := true, recurses := true, apart := false }
def BestTwoSaid : Prop := bestTwoRow.holds Try.pinned (OpenSpec.ofChange bestTwoSpec)

/-- ITS FALSE NEIGHBOUR: 'it returns false'. Refute it at one input. -/
def bestTwoWrong : ChangeSpec := { name := "bestTwo", fn := fun _ => fun
  | [d1, d2] => { results := [.lit (.bool false)], args := [d1, d2] }
  | _ => none }
def BestTwoWrongFalsely : Prop := bestTwoRow.holds Try.pinned (OpenSpec.ofChange bestTwoWrong)

/-- 'mezzotintkeep.BestEqual': WHATEVER THE INPUT: true; the input reads as it did. -/
def bestEqualSpec : ChangeSpec := { name := "bestEqual", fn := fun _ => fun
  | [d1, d2] => { results := [.lit (.bool true)], args := [d1, d2] }
  | _ => none }
def bestEqualRow : OpenClaim := { program := "ytembekkanggciaa", sum := "6f4984e4b16f3d84c32b83cd42ca15e61f4a2dea5a9f5d658a13efd2f35f68c7", func := "mezzotint/mezzotintkeep.BestEqual", spec := "bestEqual", unfollowed := true, recurses := true, apart := false }
def BestEqualSaid : Prop := bestEqualRow.holds Try.pinned (OpenSpec.ofChange bestEqualSpec)

/-- ITS FALSE NEIGHBOUR: 'it returns false'. Refute it at one input. -/
def bestEqualWrong : ChangeSpec := { name := "bestEqual", fn := fun _ => fun
  | [d1, d2] => { results := [.lit (.bool false)], args := [d1, d2] }
  | _ => none }
def BestEqualWrongFalsely : Prop := bestEqualRow.holds Try.pinned (OpenSpec.ofChange bestEqualWrong)

/-- 'mezzotintkeep.BestNone': WHATEVER THE INPUT: true; the input reads as it did. -/
def bestNoneSpec : ChangeSpec := { name := "bestNone", fn := fun _ => fun
  | [d1, d2] => { results := [.lit (.bool true)], args := [d1, d2] }
  | _ => none }
def bestNoneRow : OpenClaim := { program := "ytembekkanggciaa", sum := "6f4984e4b16f3d84c32b83cd42ca15e61f4a2dea5a9f5d658a13efd2f35f68c7", func := "mezzotint/mezzotintkeep.BestNone", spec := "bestNone", unfollowed := true, recurses := true, apart := false }
def BestNoneSaid : Prop := bestNoneRow.holds Try.pinned (OpenSpec.ofChange bestNoneSpec)

/-- ITS FALSE NEIGHBOUR: 'it returns false'. Refute it at one input. -/
def bestNoneWrong : ChangeSpec := { name := "bestNone", fn := fun _ => fun
  | [d1, d2] => { results := [.lit (.bool false)], args := [d1, d2] }
  | _ => none }
def BestNoneWrongFalsely : Prop := bestNoneRow.holds Try.pinned (OpenSpec.ofChange bestNoneWrong)

/- THE SECOND FORM. 'bulk': how many values and letters a reading holds, each counted each time it is reached (what is shared counts as often as it is met; a slice's spare places count too). A statement '..UptoSaid' is the law's where the arguments, and the package variables that the reading takes, are together of bulk at most 1048576: NARROWER than '..Said'. Prove '..Said' where nothing that the law and all that it calls make is longer than what came in: it says more and counts as full. Else prove '..UptoSaid'. A law counts once. -/
mutual
def uptoBulk {H : Type} : DataW H → Nat
  | .lit (.string bytes) => bytes.length + 1
  | .lit _ => 1
  | .nil => 1
  | .ptr d => uptoBulk d + 1
  | .slice elems spare => uptoBulkAll elems + uptoBulkAll spare + 1
  | .agg parts => uptoBulkAll parts + 1
  | .iface _ d => uptoBulk d + 1
  | .map entries => uptoBulkEntries entries + 1
  | .held _ => 1
def uptoBulkAll {H : Type} : List (DataW H) → Nat
  | [] => 0
  | d :: r => uptoBulk d + uptoBulkAll r
def uptoBulkEntries {H : Type} : List (Lit × DataW H) → Nat
  | [] => 0
  | x :: r => uptoBulkEntry x + uptoBulkEntries r
def uptoBulkEntry {H : Type} : Lit × DataW H → Nat
  | (.string bytes, d) => bytes.length + uptoBulk d + 1
  | (_, d) => uptoBulk d + 1
 end
def uptoSmall : (H : Type) → List (DataW H) → Bool := fun _ ds => decide (uptoBulkAll ds ≤ 1048576)
def OpenSpec.upto (s : _root_.Go.ChangeSpec) : _root_.Go.OpenSpec := { _root_.Go.OpenSpec.ofChange s with cond := some uptoSmall }

/-- 'mezzotintkeep.BestBelow', WHERE WHAT IT READS IS OF BULK AT MOST 1048576: true; the input reads as it did. -/
def bestBelowUptoRow : OpenClaim := { program := "ytembekkanggciaa", sum := "6f4984e4b16f3d84c32b83cd42ca15e61f4a2dea5a9f5d658a13efd2f35f68c7", func := "mezzotint/mezzotintkeep.BestBelow", spec := "bestBelow", unfollowed := true, recurses := true, apart := false, narrowed := true }
def BestBelowUptoSaid : Prop := bestBelowUptoRow.holds Try.pinned (OpenSpec.upto bestBelowSpec)

/-- 'mezzotintkeep.BestOrder', WHERE WHAT IT READS IS OF BULK AT MOST 1048576: true; the input reads as it did. -/
def bestOrderUptoRow : OpenClaim := { program := "ytembekkanggciaa", sum := "6f4984e4b16f3d84c32b83cd42ca15e61f4a2dea5a9f5d658a13efd2f35f68c7", func := "mezzotint/mezzotintkeep.BestOrder", spec := "bestOrder", unfollowed := true, recurses := true, apart := false, narrowed := true }
def BestOrderUptoSaid : Prop := bestOrderUptoRow.holds Try.pinned (OpenSpec.upto bestOrderSpec)

/-- 'mezzotintkeep.BestTurned', WHERE WHAT IT READS IS OF BULK AT MOST 1048576: true; the input reads as it did. -/
def bestTurnedUptoRow : OpenClaim := { program := "ytembekkanggciaa", sum := "6f4984e4b16f3d84c32b83cd42ca15e61f4a2dea5a9f5d658a13efd2f35f68c7", func := "mezzotint/mezzotintkeep.BestTurned", spec := "bestTurned", unfollowed := true, recurses := true, apart := false, narrowed := true }
def BestTurnedUptoSaid : Prop := bestTurnedUptoRow.holds Try.pinned (OpenSpec.upto bestTurnedSpec)

/-- 'mezzotintkeep.BestRises', WHERE WHAT IT READS IS OF BULK AT MOST 1048576: true; the input reads as it did. -/
def bestRisesUptoRow : OpenClaim := { program := "ytembekkanggciaa", sum := "6f4984e4b16f3d84c32b83cd42ca15e61f4a2dea5a9f5d658a13efd2f35f68c7", func := "mezzotint/mezzotintkeep.BestRises", spec := "bestRises", unfollowed := true, recurses := true, apart := false, narrowed := true }
def BestRisesUptoSaid : Prop := bestRisesUptoRow.holds Try.pinned (OpenSpec.upto bestRisesSpec)

/-- 'mezzotintkeep.BestFlat', WHERE WHAT IT READS IS OF BULK AT MOST 1048576: true; the input reads as it did. -/
def bestFlatUptoRow : OpenClaim := { program := "ytembekkanggciaa", sum := "6f4984e4b16f3d84c32b83cd42ca15e61f4a2dea5a9f5d658a13efd2f35f68c7", func := "mezzotint/mezzotintkeep.BestFlat", spec := "bestFlat", unfollowed := true, recurses := true, apart := false, narrowed := true }
def BestFlatUptoSaid : Prop := bestFlatUptoRow.holds Try.pinned (OpenSpec.upto bestFlatSpec)

/-- 'mezzotintkeep.BestTwo', WHERE WHAT IT READS IS OF BULK AT MOST 1048576: true; the input reads as it did. -/
def bestTwoUptoRow : OpenClaim := { program := "ytembekkanggciaa", sum := "6f4984e4b16f3d84c32b83cd42ca15e61f4a2dea5a9f5d658a13efd2f35f68c7", func := "mezzotint/mezzotintkeep.BestTwo", spec := "bestTwo", unfollowed := true, recurses := true, apart := false, narrowed := true }
def BestTwoUptoSaid : Prop := bestTwoUptoRow.holds Try.pinned (OpenSpec.upto bestTwoSpec)

/-- 'mezzotintkeep.BestEqual', WHERE WHAT IT READS IS OF BULK AT MOST 1048576: true; the input reads as it did. -/
def bestEqualUptoRow : OpenClaim := { program := "ytembekkanggciaa", sum := "6f4984e4b16f3d84c32b83cd42ca15e61f4a2dea5a9f5d658a13efd2f35f68c7", func := "mezzotint/mezzotintkeep.BestEqual", spec := "bestEqual", unfollowed := true, recurses := true, apart := false, narrowed := true }
def BestEqualUptoSaid : Prop := bestEqualUptoRow.holds Try.pinned (OpenSpec.upto bestEqualSpec)

/-- 'mezzotintkeep.BestNone', WHERE WHAT IT READS IS OF BULK AT MOST 1048576: true; the input reads as it did. -/
def bestNoneUptoRow : OpenClaim := { program := "ytembekkanggciaa", sum := "6f4984e4b16f3d84c32b83cd42ca15e61f4a2dea5a9f5d658a13efd2f35f68c7", func := "mezzotint/mezzotintkeep.BestNone", spec := "bestNone", unfollowed := true, recurses := true, apart := false, narrowed := true }
def BestNoneUptoSaid : Prop := bestNoneUptoRow.holds Try.pinned (OpenSpec.upto bestNoneSpec)

end Rows
end Go.Proofs.Ytembekkanggciaa
