/-
  No cell of these rows narrows 'for every input' (looked for: loops, veiled, ifaces, maps, wideKeys, modest, calm, conditions, laid).
  DERIVED. THE GIVEN ROWS OF THIS SEAT. 9 by the template 'for every input the law returns true; each argument reads behind the call as it read before'; 0 by the template 'total and deterministic' (their statements: YthkdckmhmiebfaaTotals.lean).
  GIVEN WITH THE SEED: the statements are not yours to turn. If you find one false, say at which input.
  Laid BY PROGRAM, IN A SANDBOX (cutbox-rows.mjs): the forced cells as the released guide's own fill.sh prints them over the translation a3cbf3958e703303… (all of the seat's roots in one cut). By AI agents, Wed Nov 11 2026. No macro, syntax, notation, axiom, sorry.
-/
import Derived.Test.YthkdckmhmiebfaaChecked
import GoSem.Claim
import GoSem.ClaimJoined
import GoSem.ClaimMapViews
import Derived.JoinedTies
import Derived.KernelRfl
namespace Go.Proofs.Ythkdckmhmiebfaa
/- THE CELL 'sum', in the pinned program and in every row, IS THE sha256 OF THE DUMP (.gsa) THAT YthkdckmhmiebfaaProg.lean LOADS. Nothing in Lean hashes anything: it is a label: what it is worth is what the hold of that sum in a sandbox is worth. -/
noncomputable def Try.pinned : Pinned := { name := "ythkdckmhmiebfaa", sum := "a3cbf3958e703303076231e543eb46764b1b8f02b8976a04957353498ff38e82", checked := Try.checked }
namespace Rows
def none {H : Type} : Left H := { results := [], args := [] }

/-- 'mezzotintkeep.RunFew': WHATEVER THE INPUT: true; the input reads as it did. -/
def runFewSpec : ChangeSpec := { name := "runFew", fn := fun _ => fun
  | [d1, d2] => { results := [.lit (.bool true)], args := [d1, d2] }
  | _ => none }
def runFewRow : OpenClaim := { program := "ythkdckmhmiebfaa", sum := "a3cbf3958e703303076231e543eb46764b1b8f02b8976a04957353498ff38e82", func := "mezzotint/mezzotintkeep.RunFew", spec := "runFew", unfollowed := true, recurses := true, apart := false }
def RunFewSaid : Prop := runFewRow.holds Try.pinned (OpenSpec.ofChange runFewSpec)

/-- ITS FALSE NEIGHBOUR: 'it returns false'. Refute it at one input. -/
def runFewWrong : ChangeSpec := { name := "runFew", fn := fun _ => fun
  | [d1, d2] => { results := [.lit (.bool false)], args := [d1, d2] }
  | _ => none }
def RunFewWrongFalsely : Prop := runFewRow.holds Try.pinned (OpenSpec.ofChange runFewWrong)

/-- 'mezzotintkeep.RunFirst': WHATEVER THE INPUT: true; the input reads as it did. -/
def runFirstSpec : ChangeSpec := { name := "runFirst", fn := fun _ => fun
  | [d1, d2, d3] => { results := [.lit (.bool true)], args := [d1, d2, d3] }
  | _ => none }
def runFirstRow : OpenClaim := { program := "ythkdckmhmiebfaa", sum := "a3cbf3958e703303076231e543eb46764b1b8f02b8976a04957353498ff38e82", func := "mezzotint/mezzotintkeep.RunFirst", spec := "runFirst", unfollowed := true, recurses := true, apart := false }
def RunFirstSaid : Prop := runFirstRow.holds Try.pinned (OpenSpec.ofChange runFirstSpec)

/-- ITS FALSE NEIGHBOUR: 'it returns false'. Refute it at one input. -/
def runFirstWrong : ChangeSpec := { name := "runFirst", fn := fun _ => fun
  | [d1, d2, d3] => { results := [.lit (.bool false)], args := [d1, d2, d3] }
  | _ => none }
def RunFirstWrongFalsely : Prop := runFirstRow.holds Try.pinned (OpenSpec.ofChange runFirstWrong)

/-- 'mezzotintkeep.RunZero': WHATEVER THE INPUT: true; the input reads as it did. -/
def runZeroSpec : ChangeSpec := { name := "runZero", fn := fun _ => fun
  | [d] => { results := [.lit (.bool true)], args := [d] }
  | _ => none }
def runZeroRow : OpenClaim := { program := "ythkdckmhmiebfaa", sum := "a3cbf3958e703303076231e543eb46764b1b8f02b8976a04957353498ff38e82", func := "mezzotint/mezzotintkeep.RunZero", spec := "runZero", unfollowed := true, recurses := true, apart := false }
def RunZeroSaid : Prop := runZeroRow.holds Try.pinned (OpenSpec.ofChange runZeroSpec)

/-- ITS FALSE NEIGHBOUR: 'it returns false'. Refute it at one input. -/
def runZeroWrong : ChangeSpec := { name := "runZero", fn := fun _ => fun
  | [d] => { results := [.lit (.bool false)], args := [d] }
  | _ => none }
def RunZeroWrongFalsely : Prop := runZeroRow.holds Try.pinned (OpenSpec.ofChange runZeroWrong)

/-- 'mezzotintkeep.RunBack': WHATEVER THE INPUT: true; the input reads as it did. -/
def runBackSpec : ChangeSpec := { name := "runBack", fn := fun _ => fun
  | [d1, d2, d3] => { results := [.lit (.bool true)], args := [d1, d2, d3] }
  | _ => none }
def runBackRow : OpenClaim := { program := "ythkdckmhmiebfaa", sum := "a3cbf3958e703303076231e543eb46764b1b8f02b8976a04957353498ff38e82", func := "mezzotint/mezzotintkeep.RunBack", spec := "runBack", unfollowed := true, recurses := true, apart := false }
def RunBackSaid : Prop := runBackRow.holds Try.pinned (OpenSpec.ofChange runBackSpec)

/-- ITS FALSE NEIGHBOUR: 'it returns false'. Refute it at one input. -/
def runBackWrong : ChangeSpec := { name := "runBack", fn := fun _ => fun
  | [d1, d2, d3] => { results := [.lit (.bool false)], args := [d1, d2, d3] }
  | _ => none }
def RunBackWrongFalsely : Prop := runBackRow.holds Try.pinned (OpenSpec.ofChange runBackWrong)

/-- 'mezzotintkeep.RunAgain': WHATEVER THE INPUT: true; the input reads as it did. -/
def runAgainSpec : ChangeSpec := { name := "runAgain", fn := fun _ => fun
  | [d1, d2] => { results := [.lit (.bool true)], args := [d1, d2] }
  | _ => none }
def runAgainRow : OpenClaim := { program := "ythkdckmhmiebfaa", sum := "a3cbf3958e703303076231e543eb46764b1b8f02b8976a04957353498ff38e82", func := "mezzotint/mezzotintkeep.RunAgain", spec := "runAgain", unfollowed := true, recurses := true, apart := false }
def RunAgainSaid : Prop := runAgainRow.holds Try.pinned (OpenSpec.ofChange runAgainSpec)

/-- ITS FALSE NEIGHBOUR: 'it returns false'. Refute it at one input. -/
def runAgainWrong : ChangeSpec := { name := "runAgain", fn := fun _ => fun
  | [d1, d2] => { results := [.lit (.bool false)], args := [d1, d2] }
  | _ => none }
def RunAgainWrongFalsely : Prop := runAgainRow.holds Try.pinned (OpenSpec.ofChange runAgainWrong)

/-- 'mezzotintkeep.RunShort': WHATEVER THE INPUT: true; the input reads as it did. -/
def runShortSpec : ChangeSpec := { name := "runShort", fn := fun _ => fun
  | [d1, d2, d3] => { results := [.lit (.bool true)], args := [d1, d2, d3] }
  | _ => none }
def runShortRow : OpenClaim := { program := "ythkdckmhmiebfaa", sum := "a3cbf3958e703303076231e543eb46764b1b8f02b8976a04957353498ff38e82", func := "mezzotint/mezzotintkeep.RunShort", spec := "runShort", unfollowed := true, recurses := true, apart := false }
def RunShortSaid : Prop := runShortRow.holds Try.pinned (OpenSpec.ofChange runShortSpec)

/-- ITS FALSE NEIGHBOUR: 'it returns false'. Refute it at one input. -/
def runShortWrong : ChangeSpec := { name := "runShort", fn := fun _ => fun
  | [d1, d2, d3] => { results := [.lit (.bool false)], args := [d1, d2, d3] }
  | _ => none }
def RunShortWrongFalsely : Prop := runShortRow.holds Try.pinned (OpenSpec.ofChange runShortWrong)

/-- 'mezzotintkeep.FileHead': WHATEVER THE INPUT: true; the input reads as it did. -/
def fileHeadSpec : ChangeSpec := { name := "fileHead", fn := fun _ => fun
  | [d] => { results := [.lit (.bool true)], args := [d] }
  | _ => none }
def fileHeadRow : OpenClaim := { program := "ythkdckmhmiebfaa", sum := "a3cbf3958e703303076231e543eb46764b1b8f02b8976a04957353498ff38e82", func := "mezzotint/mezzotintkeep.FileHead", spec := "fileHead", unfollowed := true, recurses := true, apart := false }
def FileHeadSaid : Prop := fileHeadRow.holds Try.pinned (OpenSpec.ofChange fileHeadSpec)

/-- ITS FALSE NEIGHBOUR: 'it returns false'. Refute it at one input. -/
def fileHeadWrong : ChangeSpec := { name := "fileHead", fn := fun _ => fun
  | [d] => { results := [.lit (.bool false)], args := [d] }
  | _ => none }
def FileHeadWrongFalsely : Prop := fileHeadRow.holds Try.pinned (OpenSpec.ofChange fileHeadWrong)

/-- 'mezzotintkeep.FileBack': WHATEVER THE INPUT: true; the input reads as it did. -/
def fileBackSpec : ChangeSpec := { name := "fileBack", fn := fun _ => fun
  | [d1, d2] => { results := [.lit (.bool true)], args := [d1, d2] }
  | _ => none }
def fileBackRow : OpenClaim := { program := "ythkdckmhmiebfaa", sum := "a3cbf3958e703303076231e543eb46764b1b8f02b8976a04957353498ff38e82", func := "mezzotint/mezzotintkeep.FileBack", spec := "fileBack", unfollowed := true, recurses := true, apart := false }
def FileBackSaid : Prop := fileBackRow.holds Try.pinned (OpenSpec.ofChange fileBackSpec)

/-- ITS FALSE NEIGHBOUR: 'it returns false'. Refute it at one input. -/
def fileBackWrong : ChangeSpec := { name := "fileBack", fn := fun _ => fun
  | [d1, d2] => { results := [.lit (.bool false)], args := [d1, d2] }
  | _ => none }
def FileBackWrongFalsely : Prop := fileBackRow.holds Try.pinned (OpenSpec.ofChange fileBackWrong)

/-- 'mezzotintkeep.FileCut': WHATEVER THE INPUT: true; the input reads as it did. -/
def fileCutSpec : ChangeSpec := { name := "fileCut", fn := fun _ => fun
  | [d1, d2] => { results := [.lit (.bool true)], args := [d1, d2] }
  | _ => none }
def fileCutRow : OpenClaim := { program := "ythkdckmhmiebfaa", sum := "a3cbf3958e703303076231e543eb46764b1b8f02b8976a04957353498ff38e82", func := "mezzotint/mezzotintkeep.FileCut", spec := "fileCut", unfollowed := true, recurses := true, apart := false }
def FileCutSaid : Prop := fileCutRow.holds Try.pinned (OpenSpec.ofChange fileCutSpec)

/-- ITS FALSE NEIGHBOUR: 'it returns false'. Refute it at one input. -/
def fileCutWrong : ChangeSpec := { name := "fileCut", fn := fun _ => fun
  | [d1, d2] => { results := [.lit (.bool false)], args := [d1, d2] }
  | _ => none }
def FileCutWrongFalsely : Prop := fileCutRow.holds Try.pinned (OpenSpec.ofChange fileCutWrong)

/- THE SECOND FORM. 'bulk': how many values and letters a reading holds, each counted each time it is reached (what is shared counts as often as it is met; a slice's spare places count too). A statement '..UptoSaid' is the law's where the arguments, and the package variables that the reading takes, are together of bulk at most 1048576: NARROWER than '..Said'. Prove '..Said' where nothing that the law and all that it calls make is longer than what came in: it says more and counts as full. Else prove '..UptoSaid'. A law counts once. -/
mutual
def uptoBulk {H : Type} : DataW H → Nat
  | .lit (.string bytes) => bytes.length + 1
  | .lit _ => 1
  | .nil => 1
  | .ptr d => uptoBulk d + 1
  | .slice elems spare => uptoBulkAll elems + uptoBulkAll spare + 1
  | .agg parts => uptoBulkAll parts + 1
  | .iface _ d => uptoBulk d + 1
  | .map entries => uptoBulkEntries entries + 1
  | .held _ => 1
def uptoBulkAll {H : Type} : List (DataW H) → Nat
  | [] => 0
  | d :: r => uptoBulk d + uptoBulkAll r
def uptoBulkEntries {H : Type} : List (Lit × DataW H) → Nat
  | [] => 0
  | x :: r => uptoBulkEntry x + uptoBulkEntries r
def uptoBulkEntry {H : Type} : Lit × DataW H → Nat
  | (.string bytes, d) => bytes.length + uptoBulk d + 1
  | (_, d) => uptoBulk d + 1
 end
def uptoSmall : (H : Type) → List (DataW H) → Bool := fun _ ds => decide (uptoBulkAll ds ≤ 1048576)
def OpenSpec.upto (s : _root_.Go.ChangeSpec) : _root_.Go.OpenSpec := { _root_.Go.OpenSpec.ofChange s with cond := some uptoSmall }

/-- 'mezzotintkeep.RunFew', WHERE WHAT IT READS IS OF BULK AT MOST 1048576: true; the input reads as it did. -/
def runFewUptoRow : OpenClaim := { program := "ythkdckmhmiebfaa", sum := "a3cbf3958e703303076231e543eb46764b1b8f02b8976a04957353498ff38e82", func := "mezzotint/mezzotintkeep.RunFew", spec := "runFew", unfollowed := true, recurses := true, apart := false, narrowed := true }
def RunFewUptoSaid : Prop := runFewUptoRow.holds Try.pinned (OpenSpec.upto runFewSpec)

/-- 'mezzotintkeep.RunFirst', WHERE WHAT IT READS IS OF BULK AT MOST 1048576: true; the input reads as it did. -/
def runFirstUptoRow : OpenClaim := { program := "ythkdckmhmiebfaa", sum := "a3cbf3958e703303076231e543eb46764b1b8f02b8976a04957353498ff38e82", func := "mezzotint/mezzotintkeep.RunFirst", spec := "runFirst", unfollowed := true, recurses := true, apart := false, narrowed := true }
def RunFirstUptoSaid : Prop := runFirstUptoRow.holds Try.pinned (OpenSpec.upto runFirstSpec)

/-- 'mezzotintkeep.RunZero', WHERE WHAT IT READS IS OF BULK AT MOST 1048576: true; the input reads as it did. -/
def runZeroUptoRow : OpenClaim := { program := "ythkdckmhmiebfaa", sum := "a3cbf3958e703303076231e543eb46764b1b8f02b8976a04957353498ff38e82", func := "mezzotint/mezzotintkeep.RunZero", spec := "runZero", unfollowed := true, recurses := true, apart := false, narrowed := true }
def RunZeroUptoSaid : Prop := runZeroUptoRow.holds Try.pinned (OpenSpec.upto runZeroSpec)

/-- 'mezzotintkeep.RunBack', WHERE WHAT IT READS IS OF BULK AT MOST 1048576: true; the input reads as it did. -/
def runBackUptoRow : OpenClaim := { program := "ythkdckmhmiebfaa", sum := "a3cbf3958e703303076231e543eb46764b1b8f02b8976a04957353498ff38e82", func := "mezzotint/mezzotintkeep.RunBack", spec := "runBack", unfollowed := true, recurses := true, apart := false, narrowed := true }
def RunBackUptoSaid : Prop := runBackUptoRow.holds Try.pinned (OpenSpec.upto runBackSpec)

/-- 'mezzotintkeep.RunAgain', WHERE WHAT IT READS IS OF BULK AT MOST 1048576: true; the input reads as it did. -/
def runAgainUptoRow : OpenClaim := { program := "ythkdckmhmiebfaa", sum := "a3cbf3958e703303076231e543eb46764b1b8f02b8976a04957353498ff38e82", func := "mezzotint/mezzotintkeep.RunAgain", spec := "runAgain", unfollowed := true, recurses := true, apart := false, narrowed := true }
def RunAgainUptoSaid : Prop := runAgainUptoRow.holds Try.pinned (OpenSpec.upto runAgainSpec)

/-- 'mezzotintkeep.RunShort', WHERE WHAT IT READS IS OF BULK AT MOST 1048576: true; the input reads as it did. -/
def runShortUptoRow : OpenClaim := { program := "ythkdckmhmiebfaa", sum := "a3cbf3958e703303076231e543eb46764b1b8f02b8976a04957353498ff38e82", func := "mezzotint/mezzotintkeep.RunShort", spec := "runShort", unfollowed := true, recurses := true, apart := false, narrowed := true }
def RunShortUptoSaid : Prop := runShortUptoRow.holds Try.pinned (OpenSpec.upto runShortSpec)

/-- 'mezzotintkeep.FileHead', WHERE WHAT IT READS IS OF BULK AT MOST 1048576: true; the input reads as it did. -/
def fileHeadUptoRow : OpenClaim := { program := "ythkdckmhmiebfaa", sum := "a3cbf3958e703303076231e543eb46764b1b8f02b8976a04957353498ff38e82", func := "mezzotint/mezzotintkeep.FileHead", spec := "fileHead", unfollowed := true, recurses := true, apart := false, narrowed := true }
def FileHeadUptoSaid : Prop := fileHeadUptoRow.holds Try.pinned (OpenSpec.upto fileHeadSpec)

/-- 'mezzotintkeep.FileBack', WHERE WHAT IT READS IS OF BULK AT MOST 1048576: true; the input reads as it did. -/
def fileBackUptoRow : OpenClaim := { program := "ythkdckmhmiebfaa", sum := "a3cbf3958e703303076231e543eb46764b1b8f02b8976a04957353498ff38e82", func := "mezzotint/mezzotintkeep.FileBack", spec := "fileBack", unfollowed := true, recurses := true, apart := false, narrowed := true }
def FileBackUptoSaid : Prop := fileBackUptoRow.holds Try.pinned (OpenSpec.upto fileBackSpec)

/-- 'mezzotintkeep.FileCut', WHERE WHAT IT READS IS OF BULK AT MOST 1048576: true; the input reads as it did. -/
def fileCutUptoRow : OpenClaim := { program := "ythkdckmhmiebfaa", sum := "a3cbf3958e703303076231e543eb46764b1b8f02b8976a04957353498ff38e82", func := "mezzotint/mezzotintkeep.FileCut", spec := "fileCut", unfollowed := true, recurses := true, apart := false, narrowed := true }
def FileCutUptoSaid : Prop := fileCutUptoRow.holds Try.pinned (OpenSpec.upto fileCutSpec)

end Rows
end Go.Proofs.Ythkdckmhmiebfaa
