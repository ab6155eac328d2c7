/-
  No cell of these rows narrows 'for every input' (looked for: loops, veiled, ifaces, maps, wideKeys, modest, calm, conditions, laid).
  DERIVED. THE GIVEN ROWS OF THIS SEAT. 7 by the template 'for every input the law returns true; each argument reads behind the call as it read before'; 0 by the template 'total and deterministic' (their statements: YtndclaiobhgmbaaTotals.lean).
  GIVEN WITH THE SEED: the statements are not yours to turn. If you find one false, say at which input.
  Laid BY PROGRAM, IN A SANDBOX (cutbox-rows.mjs): the forced cells as the released guide's own fill.sh prints them over the translation 4139e1e43dbcc830… (all of the seat's roots in one cut). By AI agents, Wed Nov 11 2026. No macro, syntax, notation, axiom, sorry.
-/
import Derived.Test.YtndclaiobhgmbaaChecked
import GoSem.Claim
import GoSem.ClaimJoined
import GoSem.ClaimMapViews
import Derived.JoinedTies
import Derived.KernelRfl
namespace Go.Proofs.Ytndclaiobhgmbaa
/- THE CELL 'sum', in the pinned program and in every row, IS THE sha256 OF THE DUMP (.gsa) THAT YtndclaiobhgmbaaProg.lean LOADS. Nothing in Lean hashes anything: it is a label: what it is worth is what the hold of that sum in a sandbox is worth. -/
noncomputable def Try.pinned : Pinned := { name := "ytndclaiobhgmbaa", sum := "4139e1e43dbcc8306a1313ce30c28f2b6cbf9f69429d05118d33fa2e8c3ccc01", checked := Try.checked }
namespace Rows
def none {H : Type} : Left H := { results := [], args := [] }

/-- 'mezzotintkeep.TablePrefix': WHATEVER THE INPUT: true; the input reads as it did. -/
def tablePrefixSpec : ChangeSpec := { name := "tablePrefix", fn := fun _ => fun
  | [d] => { results := [.lit (.bool true)], args := [d] }
  | _ => none }
def tablePrefixRow : OpenClaim := { program := "ytndclaiobhgmbaa", sum := "4139e1e43dbcc8306a1313ce30c28f2b6cbf9f69429d05118d33fa2e8c3ccc01", func := "mezzotint/mezzotintkeep.TablePrefix", spec := "tablePrefix", plainKeys := false, apart := false }
def TablePrefixSaid : Prop := tablePrefixRow.holds Try.pinned (OpenSpec.ofChange tablePrefixSpec)

/-- ITS FALSE NEIGHBOUR: 'it returns false'. Refute it at one input. -/
def tablePrefixWrong : ChangeSpec := { name := "tablePrefix", fn := fun _ => fun
  | [d] => { results := [.lit (.bool false)], args := [d] }
  | _ => none }
def TablePrefixWrongFalsely : Prop := tablePrefixRow.holds Try.pinned (OpenSpec.ofChange tablePrefixWrong)

/-- 'mezzotintkeep.TableKraft': WHATEVER THE INPUT: true; the input reads as it did. -/
def tableKraftSpec : ChangeSpec := { name := "tableKraft", fn := fun _ => fun
  | [d] => { results := [.lit (.bool true)], args := [d] }
  | _ => none }
def tableKraftRow : OpenClaim := { program := "ytndclaiobhgmbaa", sum := "4139e1e43dbcc8306a1313ce30c28f2b6cbf9f69429d05118d33fa2e8c3ccc01", func := "mezzotint/mezzotintkeep.TableKraft", spec := "tableKraft", plainKeys := false, apart := false }
def TableKraftSaid : Prop := tableKraftRow.holds Try.pinned (OpenSpec.ofChange tableKraftSpec)

/-- ITS FALSE NEIGHBOUR: 'it returns false'. Refute it at one input. -/
def tableKraftWrong : ChangeSpec := { name := "tableKraft", fn := fun _ => fun
  | [d] => { results := [.lit (.bool false)], args := [d] }
  | _ => none }
def TableKraftWrongFalsely : Prop := tableKraftRow.holds Try.pinned (OpenSpec.ofChange tableKraftWrong)

/-- 'mezzotintkeep.TableMay': WHATEVER THE INPUT: true; the input reads as it did. -/
def tableMaySpec : ChangeSpec := { name := "tableMay", fn := fun _ => fun
  | [d] => { results := [.lit (.bool true)], args := [d] }
  | _ => none }
def tableMayRow : OpenClaim := { program := "ytndclaiobhgmbaa", sum := "4139e1e43dbcc8306a1313ce30c28f2b6cbf9f69429d05118d33fa2e8c3ccc01", func := "mezzotint/mezzotintkeep.TableMay", spec := "tableMay", plainKeys := false, apart := false }
def TableMaySaid : Prop := tableMayRow.holds Try.pinned (OpenSpec.ofChange tableMaySpec)

/-- ITS FALSE NEIGHBOUR: 'it returns false'. Refute it at one input. -/
def tableMayWrong : ChangeSpec := { name := "tableMay", fn := fun _ => fun
  | [d] => { results := [.lit (.bool false)], args := [d] }
  | _ => none }
def TableMayWrongFalsely : Prop := tableMayRow.holds Try.pinned (OpenSpec.ofChange tableMayWrong)

/-- 'mezzotintkeep.TableRenamed': WHATEVER THE INPUT: true; the input reads as it did. -/
def tableRenamedSpec : ChangeSpec := { name := "tableRenamed", fn := fun _ => fun
  | [d1, d2] => { results := [.lit (.bool true)], args := [d1, d2] }
  | _ => none }
def tableRenamedRow : OpenClaim := { program := "ytndclaiobhgmbaa", sum := "4139e1e43dbcc8306a1313ce30c28f2b6cbf9f69429d05118d33fa2e8c3ccc01", func := "mezzotint/mezzotintkeep.TableRenamed", spec := "tableRenamed", plainKeys := false, apart := false }
def TableRenamedSaid : Prop := tableRenamedRow.holds Try.pinned (OpenSpec.ofChange tableRenamedSpec)

/-- ITS FALSE NEIGHBOUR: 'it returns false'. Refute it at one input. -/
def tableRenamedWrong : ChangeSpec := { name := "tableRenamed", fn := fun _ => fun
  | [d1, d2] => { results := [.lit (.bool false)], args := [d1, d2] }
  | _ => none }
def TableRenamedWrongFalsely : Prop := tableRenamedRow.holds Try.pinned (OpenSpec.ofChange tableRenamedWrong)

/-- 'mezzotintkeep.TableNone': WHATEVER THE INPUT: true; the input reads as it did. -/
def tableNoneSpec : ChangeSpec := { name := "tableNone", fn := fun _ => fun
  | [d1, d2] => { results := [.lit (.bool true)], args := [d1, d2] }
  | _ => none }
def tableNoneRow : OpenClaim := { program := "ytndclaiobhgmbaa", sum := "4139e1e43dbcc8306a1313ce30c28f2b6cbf9f69429d05118d33fa2e8c3ccc01", func := "mezzotint/mezzotintkeep.TableNone", spec := "tableNone", plainKeys := false, apart := false }
def TableNoneSaid : Prop := tableNoneRow.holds Try.pinned (OpenSpec.ofChange tableNoneSpec)

/-- ITS FALSE NEIGHBOUR: 'it returns false'. Refute it at one input. -/
def tableNoneWrong : ChangeSpec := { name := "tableNone", fn := fun _ => fun
  | [d1, d2] => { results := [.lit (.bool false)], args := [d1, d2] }
  | _ => none }
def TableNoneWrongFalsely : Prop := tableNoneRow.holds Try.pinned (OpenSpec.ofChange tableNoneWrong)

/-- 'mezzotintkeep.TableBack': WHATEVER THE INPUT: true; the input reads as it did. -/
def tableBackSpec : ChangeSpec := { name := "tableBack", fn := fun _ => fun
  | [d1, d2] => { results := [.lit (.bool true)], args := [d1, d2] }
  | _ => none }
def tableBackRow : OpenClaim := { program := "ytndclaiobhgmbaa", sum := "4139e1e43dbcc8306a1313ce30c28f2b6cbf9f69429d05118d33fa2e8c3ccc01", func := "mezzotint/mezzotintkeep.TableBack", spec := "tableBack", plainKeys := false, apart := false }
def TableBackSaid : Prop := tableBackRow.holds Try.pinned (OpenSpec.ofChange tableBackSpec)

/-- ITS FALSE NEIGHBOUR: 'it returns false'. Refute it at one input. -/
def tableBackWrong : ChangeSpec := { name := "tableBack", fn := fun _ => fun
  | [d1, d2] => { results := [.lit (.bool false)], args := [d1, d2] }
  | _ => none }
def TableBackWrongFalsely : Prop := tableBackRow.holds Try.pinned (OpenSpec.ofChange tableBackWrong)

/-- 'mezzotintkeep.TableFront': WHATEVER THE INPUT: true; the input reads as it did. -/
def tableFrontSpec : ChangeSpec := { name := "tableFront", fn := fun _ => fun
  | [d1, d2, d3, d4] => { results := [.lit (.bool true)], args := [d1, d2, d3, d4] }
  | _ => none }
def tableFrontRow : OpenClaim := { program := "ytndclaiobhgmbaa", sum := "4139e1e43dbcc8306a1313ce30c28f2b6cbf9f69429d05118d33fa2e8c3ccc01", func := "mezzotint/mezzotintkeep.TableFront", spec := "tableFront", plainKeys := false, apart := false }
def TableFrontSaid : Prop := tableFrontRow.holds Try.pinned (OpenSpec.ofChange tableFrontSpec)

/-- ITS FALSE NEIGHBOUR: 'it returns false'. Refute it at one input. -/
def tableFrontWrong : ChangeSpec := { name := "tableFront", fn := fun _ => fun
  | [d1, d2, d3, d4] => { results := [.lit (.bool false)], args := [d1, d2, d3, d4] }
  | _ => none }
def TableFrontWrongFalsely : Prop := tableFrontRow.holds Try.pinned (OpenSpec.ofChange tableFrontWrong)

/- THE SECOND FORM. 'bulk': how many values and letters a reading holds, each counted each time it is reached (what is shared counts as often as it is met; a slice's spare places count too). A statement '..UptoSaid' is the law's where the arguments, and the package variables that the reading takes, are together of bulk at most 1048576: NARROWER than '..Said'. Prove '..Said' where nothing that the law and all that it calls make is longer than what came in: it says more and counts as full. Else prove '..UptoSaid'. A law counts once. -/
mutual
def uptoBulk {H : Type} : DataW H → Nat
  | .lit (.string bytes) => bytes.length + 1
  | .lit _ => 1
  | .nil => 1
  | .ptr d => uptoBulk d + 1
  | .slice elems spare => uptoBulkAll elems + uptoBulkAll spare + 1
  | .agg parts => uptoBulkAll parts + 1
  | .iface _ d => uptoBulk d + 1
  | .map entries => uptoBulkEntries entries + 1
  | .held _ => 1
def uptoBulkAll {H : Type} : List (DataW H) → Nat
  | [] => 0
  | d :: r => uptoBulk d + uptoBulkAll r
def uptoBulkEntries {H : Type} : List (Lit × DataW H) → Nat
  | [] => 0
  | x :: r => uptoBulkEntry x + uptoBulkEntries r
def uptoBulkEntry {H : Type} : Lit × DataW H → Nat
  | (.string bytes, d) => bytes.length + uptoBulk d + 1
  | (_, d) => uptoBulk d + 1
 end
def uptoSmall : (H : Type) → List (DataW H) → Bool := fun _ ds => decide (uptoBulkAll ds ≤ 1048576)
def OpenSpec.upto (s : _root_.Go.ChangeSpec) : _root_.Go.OpenSpec := { _root_.Go.OpenSpec.ofChange s with cond := some uptoSmall }

/-- 'mezzotintkeep.TablePrefix', WHERE WHAT IT READS IS OF BULK AT MOST 1048576: true; the input reads as it did. -/
def tablePrefixUptoRow : OpenClaim := { program := "ytndclaiobhgmbaa", sum := "4139e1e43dbcc8306a1313ce30c28f2b6cbf9f69429d05118d33fa2e8c3ccc01", func := "mezzotint/mezzotintkeep.TablePrefix", spec := "tablePrefix", plainKeys := false, apart := false, narrowed := true }
def TablePrefixUptoSaid : Prop := tablePrefixUptoRow.holds Try.pinned (OpenSpec.upto tablePrefixSpec)

/-- 'mezzotintkeep.TableKraft', WHERE WHAT IT READS IS OF BULK AT MOST 1048576: true; the input reads as it did. -/
def tableKraftUptoRow : OpenClaim := { program := "ytndclaiobhgmbaa", sum := "4139e1e43dbcc8306a1313ce30c28f2b6cbf9f69429d05118d33fa2e8c3ccc01", func := "mezzotint/mezzotintkeep.TableKraft", spec := "tableKraft", plainKeys := false, apart := false, narrowed := true }
def TableKraftUptoSaid : Prop := tableKraftUptoRow.holds Try.pinned (OpenSpec.upto tableKraftSpec)

/-- 'mezzotintkeep.TableMay', WHERE WHAT IT READS IS OF BULK AT MOST 1048576: true; the input reads as it did. -/
def tableMayUptoRow : OpenClaim := { program := "ytndclaiobhgmbaa", sum := "4139e1e43dbcc8306a1313ce30c28f2b6cbf9f69429d05118d33fa2e8c3ccc01", func := "mezzotint/mezzotintkeep.TableMay", spec := "tableMay", plainKeys := false, apart := false, narrowed := true }
def TableMayUptoSaid : Prop := tableMayUptoRow.holds Try.pinned (OpenSpec.upto tableMaySpec)

/-- 'mezzotintkeep.TableRenamed', WHERE WHAT IT READS IS OF BULK AT MOST 1048576: true; the input reads as it did. -/
def tableRenamedUptoRow : OpenClaim := { program := "ytndclaiobhgmbaa", sum := "4139e1e43dbcc8306a1313ce30c28f2b6cbf9f69429d05118d33fa2e8c3ccc01", func := "mezzotint/mezzotintkeep.TableRenamed", spec := "tableRenamed", plainKeys := false, apart := false, narrowed := true }
def TableRenamedUptoSaid : Prop := tableRenamedUptoRow.holds Try.pinned (OpenSpec.upto tableRenamedSpec)

/-- 'mezzotintkeep.TableNone', WHERE WHAT IT READS IS OF BULK AT MOST 1048576: true; the input reads as it did. -/
def tableNoneUptoRow : OpenClaim := { program := "ytndclaiobhgmbaa", sum := "4139e1e43dbcc8306a1313ce30c28f2b6cbf9f69429d05118d33fa2e8c3ccc01", func := "mezzotint/mezzotintkeep.TableNone", spec := "tableNone", plainKeys := false, apart := false, narrowed := true }
def TableNoneUptoSaid : Prop := tableNoneUptoRow.holds Try.pinned (OpenSpec.upto tableNoneSpec)

/-- 'mezzotintkeep.TableBack', WHERE WHAT IT READS IS OF BULK AT MOST 1048576: true; the input reads as it did. -/
def tableBackUptoRow : OpenClaim := { program := "ytndclaiobhgmbaa", sum := "4139e1e43dbcc8306a1313ce30c28f2b6cbf9f69429d05118d33fa2e8c3ccc01", func := "mezzotint/mezzotintkeep.TableBack", spec := "tableBack", plainKeys := false, apart := false, narrowed := true }
def TableBackUptoSaid : Prop := tableBackUptoRow.holds Try.pinned (OpenSpec.upto tableBackSpec)

/-- 'mezzotintkeep.TableFront', WHERE WHAT IT READS IS OF BULK AT MOST 1048576: true; the input reads as it did. -/
def tableFrontUptoRow : OpenClaim := { program := "ytndclaiobhgmbaa", sum := "4139e1e43dbcc8306a1313ce30c28f2b6cbf9f69429d05118d33fa2e8c3ccc01", func := "mezzotint/mezzotintkeep.TableFront", spec := "tableFront", plainKeys := false, apart := false, narrowed := true }
def TableFrontUptoSaid : Prop := tableFrontUptoRow.holds Try.pinned (OpenSpec.upto tableFrontSpec)

end Rows
end Go.Proofs.Ytndclaiobhgmbaa
