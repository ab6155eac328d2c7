/-
  NARROWER THAN 'FOR EVERY INPUT', by the rows' own cells (each row's printed sentence says how): SegCounted: laid · SegPure: laid · SegTables: laid · SegSize: laid · SegBack: laid · SegAgain: laid · ScanMarks: laid · ScanEach: laid · ScanMended: laid · ScanHurt: laid · ScanOne: laid · ScanBack: laid.
  DERIVED. THE GIVEN ROWS OF THIS SEAT. 12 by the template 'for every input the law returns true; each argument reads behind the call as it read before'; 0 by the template 'total and deterministic' (their statements: YtehbjhocgnfpmaaDoorTotals.lean).
  GIVEN WITH THE SEED: the statements are not yours to turn. If you find one false, say at which input.
  Laid BY PROGRAM, IN A SANDBOX (cutbox-rows.mjs): the forced cells as the released guide's own fill.sh prints them over the translation 543f496546bb06bd… (all of the seat's roots in one cut). By AI agents, Wed Nov 11 2026. No macro, syntax, notation, axiom, sorry.
-/
import Derived.Test.YtehbjhocgnfpmaaDoorChecked
import GoSem.PinnedTables
import GoSem.Claim
import GoSem.ClaimJoined
import GoSem.ClaimMapViews
import Derived.JoinedTies
import Derived.KernelRfl
namespace Go.Proofs.YtehbjhocgnfpmaaDoor
/- THE CELL 'sum', in the pinned program and in every row, IS THE sha256 OF THE DUMP (.gsa) THAT YtehbjhocgnfpmaaDoorProg.lean LOADS. Nothing in Lean hashes anything: it is a label: what it is worth is what the hold of that sum in a sandbox is worth. -/
noncomputable def Tryd.pinned : Pinned := { name := "ytehbjhocgnfpmaadoor", sum := "543f496546bb06bd326c377936ca30ed6e5b039b5db6eee43b494857174f08ab", checked := Tryd.checked }
namespace Rows
def none {H : Type} : Left H := { results := [], args := [] }

/- WHAT THE LISTED PACKAGE-LEVEL VARIABLES READ AS WHEN THE CALL BEGINS. Each datum BY PROGRAM (the guide's laid-datum.mjs) off the statement by which the dump's own 'gosem.cut.vars' lays the variable. In a bare row this is a premise. The card (YtehbjhocgnfpmaaDoorCards.lean) ties it to the program's text. -/
def laid_unicode_utf8_acceptRanges {H : Type} : DataW H := .agg [.agg [.lit (.int .u8 128), .lit (.int .u8 191)], .agg [.lit (.int .u8 160), .lit (.int .u8 191)], .agg [.lit (.int .u8 128), .lit (.int .u8 159)], .agg [.lit (.int .u8 144), .lit (.int .u8 191)], .agg [.lit (.int .u8 128), .lit (.int .u8 143)], .agg [.lit (.int .u8 0), .lit (.int .u8 0)], .agg [.lit (.int .u8 0), .lit (.int .u8 0)], .agg [.lit (.int .u8 0), .lit (.int .u8 0)], .agg [.lit (.int .u8 0), .lit (.int .u8 0)], .agg [.lit (.int .u8 0), .lit (.int .u8 0)], .agg [.lit (.int .u8 0), .lit (.int .u8 0)], .agg [.lit (.int .u8 0), .lit (.int .u8 0)], .agg [.lit (.int .u8 0), .lit (.int .u8 0)], .agg [.lit (.int .u8 0), .lit (.int .u8 0)], .agg [.lit (.int .u8 0), .lit (.int .u8 0)], .agg [.lit (.int .u8 0), .lit (.int .u8 0)]]
/-- One of Go's own tables, pinned by name: the form's constant. -/
def laid_unicode_utf8_first : DataW Unit := Go.Pinned.utf8First

/-- 'mezzotintkeep.SegCounted': WHATEVER THE INPUT: true; the input reads as it did. -/
def segCountedSpec : ChangeSpec := { name := "segCounted", fn := fun _ => fun
  | [d] => { results := [.lit (.bool true)], args := [d] }
  | _ => none }
def segCountedRow : OpenClaim := { program := "ytehbjhocgnfpmaadoor", sum := "543f496546bb06bd326c377936ca30ed6e5b039b5db6eee43b494857174f08ab", func := "mezzotint/mezzotintkeep.SegCounted", spec := "segCounted", inPlace := ["internal/bytealg.Count", "internal/bytealg.IndexByte", "internal/bytealg.Index"], unfollowed := true, recurses := true, named := ["internal/bytealg.MaxLen", "unicode/utf8.first", "unicode/utf8.acceptRanges"], plainKeys := false, apart := false, laid := [("unicode/utf8.acceptRanges", laid_unicode_utf8_acceptRanges), ("unicode/utf8.first", laid_unicode_utf8_first)] }
def SegCountedSaid : Prop := segCountedRow.holds Tryd.pinned (OpenSpec.ofChange segCountedSpec)

/-- ITS FALSE NEIGHBOUR: 'it returns false'. Refute it at one input. -/
def segCountedWrong : ChangeSpec := { name := "segCounted", fn := fun _ => fun
  | [d] => { results := [.lit (.bool false)], args := [d] }
  | _ => none }
def SegCountedWrongFalsely : Prop := segCountedRow.holds Tryd.pinned (OpenSpec.ofChange segCountedWrong)

/-- 'mezzotintkeep.SegPure': WHATEVER THE INPUT: true; the input reads as it did. -/
def segPureSpec : ChangeSpec := { name := "segPure", fn := fun _ => fun
  | [d1, d2] => { results := [.lit (.bool true)], args := [d1, d2] }
  | _ => none }
def segPureRow : OpenClaim := { program := "ytehbjhocgnfpmaadoor", sum := "543f496546bb06bd326c377936ca30ed6e5b039b5db6eee43b494857174f08ab", func := "mezzotint/mezzotintkeep.SegPure", spec := "segPure", inPlace := ["internal/bytealg.Count", "internal/bytealg.IndexByte", "internal/bytealg.Index"], unfollowed := true, recurses := true, named := ["internal/bytealg.MaxLen", "unicode/utf8.first", "unicode/utf8.acceptRanges"], plainKeys := false, apart := false, laid := [("unicode/utf8.acceptRanges", laid_unicode_utf8_acceptRanges), ("unicode/utf8.first", laid_unicode_utf8_first)] }
def SegPureSaid : Prop := segPureRow.holds Tryd.pinned (OpenSpec.ofChange segPureSpec)

/-- ITS FALSE NEIGHBOUR: 'it returns false'. Refute it at one input. -/
def segPureWrong : ChangeSpec := { name := "segPure", fn := fun _ => fun
  | [d1, d2] => { results := [.lit (.bool false)], args := [d1, d2] }
  | _ => none }
def SegPureWrongFalsely : Prop := segPureRow.holds Tryd.pinned (OpenSpec.ofChange segPureWrong)

/-- 'mezzotintkeep.SegTables': WHATEVER THE INPUT: true; the input reads as it did. -/
def segTablesSpec : ChangeSpec := { name := "segTables", fn := fun _ => fun
  | [d1, d2] => { results := [.lit (.bool true)], args := [d1, d2] }
  | _ => none }
def segTablesRow : OpenClaim := { program := "ytehbjhocgnfpmaadoor", sum := "543f496546bb06bd326c377936ca30ed6e5b039b5db6eee43b494857174f08ab", func := "mezzotint/mezzotintkeep.SegTables", spec := "segTables", inPlace := ["internal/bytealg.Count", "internal/bytealg.IndexByte", "internal/bytealg.Index"], unfollowed := true, recurses := true, named := ["internal/bytealg.MaxLen", "unicode/utf8.first", "unicode/utf8.acceptRanges"], plainKeys := false, apart := false, laid := [("unicode/utf8.acceptRanges", laid_unicode_utf8_acceptRanges), ("unicode/utf8.first", laid_unicode_utf8_first)] }
def SegTablesSaid : Prop := segTablesRow.holds Tryd.pinned (OpenSpec.ofChange segTablesSpec)

/-- ITS FALSE NEIGHBOUR: 'it returns false'. Refute it at one input. -/
def segTablesWrong : ChangeSpec := { name := "segTables", fn := fun _ => fun
  | [d1, d2] => { results := [.lit (.bool false)], args := [d1, d2] }
  | _ => none }
def SegTablesWrongFalsely : Prop := segTablesRow.holds Tryd.pinned (OpenSpec.ofChange segTablesWrong)

/-- 'mezzotintkeep.SegSize': WHATEVER THE INPUT: true; the input reads as it did. -/
def segSizeSpec : ChangeSpec := { name := "segSize", fn := fun _ => fun
  | [d1, d2] => { results := [.lit (.bool true)], args := [d1, d2] }
  | _ => none }
def segSizeRow : OpenClaim := { program := "ytehbjhocgnfpmaadoor", sum := "543f496546bb06bd326c377936ca30ed6e5b039b5db6eee43b494857174f08ab", func := "mezzotint/mezzotintkeep.SegSize", spec := "segSize", inPlace := ["internal/bytealg.Count", "internal/bytealg.IndexByte", "internal/bytealg.Index"], unfollowed := true, recurses := true, named := ["internal/bytealg.MaxLen", "unicode/utf8.first", "unicode/utf8.acceptRanges"], plainKeys := false, apart := false, laid := [("unicode/utf8.acceptRanges", laid_unicode_utf8_acceptRanges), ("unicode/utf8.first", laid_unicode_utf8_first)] }
def SegSizeSaid : Prop := segSizeRow.holds Tryd.pinned (OpenSpec.ofChange segSizeSpec)

/-- ITS FALSE NEIGHBOUR: 'it returns false'. Refute it at one input. -/
def segSizeWrong : ChangeSpec := { name := "segSize", fn := fun _ => fun
  | [d1, d2] => { results := [.lit (.bool false)], args := [d1, d2] }
  | _ => none }
def SegSizeWrongFalsely : Prop := segSizeRow.holds Tryd.pinned (OpenSpec.ofChange segSizeWrong)

/-- 'mezzotintkeep.SegBack': WHATEVER THE INPUT: true; the input reads as it did. -/
def segBackSpec : ChangeSpec := { name := "segBack", fn := fun _ => fun
  | [d] => { results := [.lit (.bool true)], args := [d] }
  | _ => none }
def segBackRow : OpenClaim := { program := "ytehbjhocgnfpmaadoor", sum := "543f496546bb06bd326c377936ca30ed6e5b039b5db6eee43b494857174f08ab", func := "mezzotint/mezzotintkeep.SegBack", spec := "segBack", inPlace := ["internal/bytealg.Count", "internal/bytealg.IndexByte", "internal/bytealg.Index"], unfollowed := true, recurses := true, named := ["internal/bytealg.MaxLen", "unicode/utf8.first", "unicode/utf8.acceptRanges"], plainKeys := false, apart := false, laid := [("unicode/utf8.acceptRanges", laid_unicode_utf8_acceptRanges), ("unicode/utf8.first", laid_unicode_utf8_first)] }
def SegBackSaid : Prop := segBackRow.holds Tryd.pinned (OpenSpec.ofChange segBackSpec)

/-- ITS FALSE NEIGHBOUR: 'it returns false'. Refute it at one input. -/
def segBackWrong : ChangeSpec := { name := "segBack", fn := fun _ => fun
  | [d] => { results := [.lit (.bool false)], args := [d] }
  | _ => none }
def SegBackWrongFalsely : Prop := segBackRow.holds Tryd.pinned (OpenSpec.ofChange segBackWrong)

/-- 'mezzotintkeep.SegAgain': WHATEVER THE INPUT: true; the input reads as it did. -/
def segAgainSpec : ChangeSpec := { name := "segAgain", fn := fun _ => fun
  | [d1, d2, d3] => { results := [.lit (.bool true)], args := [d1, d2, d3] }
  | _ => none }
def segAgainRow : OpenClaim := { program := "ytehbjhocgnfpmaadoor", sum := "543f496546bb06bd326c377936ca30ed6e5b039b5db6eee43b494857174f08ab", func := "mezzotint/mezzotintkeep.SegAgain", spec := "segAgain", inPlace := ["internal/bytealg.Count", "internal/bytealg.IndexByte", "internal/bytealg.Index"], unfollowed := true, recurses := true, named := ["internal/bytealg.MaxLen", "unicode/utf8.first", "unicode/utf8.acceptRanges"], plainKeys := false, apart := false, laid := [("unicode/utf8.acceptRanges", laid_unicode_utf8_acceptRanges), ("unicode/utf8.first", laid_unicode_utf8_first)] }
def SegAgainSaid : Prop := segAgainRow.holds Tryd.pinned (OpenSpec.ofChange segAgainSpec)

/-- ITS FALSE NEIGHBOUR: 'it returns false'. Refute it at one input. -/
def segAgainWrong : ChangeSpec := { name := "segAgain", fn := fun _ => fun
  | [d1, d2, d3] => { results := [.lit (.bool false)], args := [d1, d2, d3] }
  | _ => none }
def SegAgainWrongFalsely : Prop := segAgainRow.holds Tryd.pinned (OpenSpec.ofChange segAgainWrong)

/-- 'mezzotintkeep.ScanMarks': WHATEVER THE INPUT: true; the input reads as it did. -/
def scanMarksSpec : ChangeSpec := { name := "scanMarks", fn := fun _ => fun
  | [d1, d2] => { results := [.lit (.bool true)], args := [d1, d2] }
  | _ => none }
def scanMarksRow : OpenClaim := { program := "ytehbjhocgnfpmaadoor", sum := "543f496546bb06bd326c377936ca30ed6e5b039b5db6eee43b494857174f08ab", func := "mezzotint/mezzotintkeep.ScanMarks", spec := "scanMarks", inPlace := ["internal/bytealg.Count", "internal/bytealg.IndexByte", "internal/bytealg.Index"], unfollowed := true, recurses := true, named := ["internal/bytealg.MaxLen", "unicode/utf8.first", "unicode/utf8.acceptRanges"], plainKeys := false, apart := false, laid := [("unicode/utf8.acceptRanges", laid_unicode_utf8_acceptRanges), ("unicode/utf8.first", laid_unicode_utf8_first)] }
def ScanMarksSaid : Prop := scanMarksRow.holds Tryd.pinned (OpenSpec.ofChange scanMarksSpec)

/-- ITS FALSE NEIGHBOUR: 'it returns false'. Refute it at one input. -/
def scanMarksWrong : ChangeSpec := { name := "scanMarks", fn := fun _ => fun
  | [d1, d2] => { results := [.lit (.bool false)], args := [d1, d2] }
  | _ => none }
def ScanMarksWrongFalsely : Prop := scanMarksRow.holds Tryd.pinned (OpenSpec.ofChange scanMarksWrong)

/-- 'mezzotintkeep.ScanEach': WHATEVER THE INPUT: true; the input reads as it did. -/
def scanEachSpec : ChangeSpec := { name := "scanEach", fn := fun _ => fun
  | [d1, d2] => { results := [.lit (.bool true)], args := [d1, d2] }
  | _ => none }
def scanEachRow : OpenClaim := { program := "ytehbjhocgnfpmaadoor", sum := "543f496546bb06bd326c377936ca30ed6e5b039b5db6eee43b494857174f08ab", func := "mezzotint/mezzotintkeep.ScanEach", spec := "scanEach", inPlace := ["internal/bytealg.Count", "internal/bytealg.IndexByte", "internal/bytealg.Index"], unfollowed := true, recurses := true, named := ["internal/bytealg.MaxLen", "unicode/utf8.first", "unicode/utf8.acceptRanges"], plainKeys := false, apart := false, laid := [("unicode/utf8.acceptRanges", laid_unicode_utf8_acceptRanges), ("unicode/utf8.first", laid_unicode_utf8_first)] }
def ScanEachSaid : Prop := scanEachRow.holds Tryd.pinned (OpenSpec.ofChange scanEachSpec)

/-- ITS FALSE NEIGHBOUR: 'it returns false'. Refute it at one input. -/
def scanEachWrong : ChangeSpec := { name := "scanEach", fn := fun _ => fun
  | [d1, d2] => { results := [.lit (.bool false)], args := [d1, d2] }
  | _ => none }
def ScanEachWrongFalsely : Prop := scanEachRow.holds Tryd.pinned (OpenSpec.ofChange scanEachWrong)

/-- 'mezzotintkeep.ScanMended': WHATEVER THE INPUT: true; the input reads as it did. -/
def scanMendedSpec : ChangeSpec := { name := "scanMended", fn := fun _ => fun
  | [d1, d2, d3, d4] => { results := [.lit (.bool true)], args := [d1, d2, d3, d4] }
  | _ => none }
def scanMendedRow : OpenClaim := { program := "ytehbjhocgnfpmaadoor", sum := "543f496546bb06bd326c377936ca30ed6e5b039b5db6eee43b494857174f08ab", func := "mezzotint/mezzotintkeep.ScanMended", spec := "scanMended", inPlace := ["internal/bytealg.Count", "internal/bytealg.IndexByte", "internal/bytealg.Index"], unfollowed := true, recurses := true, named := ["internal/bytealg.MaxLen", "unicode/utf8.first", "unicode/utf8.acceptRanges"], plainKeys := false, apart := false, laid := [("unicode/utf8.acceptRanges", laid_unicode_utf8_acceptRanges), ("unicode/utf8.first", laid_unicode_utf8_first)] }
def ScanMendedSaid : Prop := scanMendedRow.holds Tryd.pinned (OpenSpec.ofChange scanMendedSpec)

/-- ITS FALSE NEIGHBOUR: 'it returns false'. Refute it at one input. -/
def scanMendedWrong : ChangeSpec := { name := "scanMended", fn := fun _ => fun
  | [d1, d2, d3, d4] => { results := [.lit (.bool false)], args := [d1, d2, d3, d4] }
  | _ => none }
def ScanMendedWrongFalsely : Prop := scanMendedRow.holds Tryd.pinned (OpenSpec.ofChange scanMendedWrong)

/-- 'mezzotintkeep.ScanHurt': WHATEVER THE INPUT: true; the input reads as it did. -/
def scanHurtSpec : ChangeSpec := { name := "scanHurt", fn := fun _ => fun
  | [d1, d2, d3, d4] => { results := [.lit (.bool true)], args := [d1, d2, d3, d4] }
  | _ => none }
def scanHurtRow : OpenClaim := { program := "ytehbjhocgnfpmaadoor", sum := "543f496546bb06bd326c377936ca30ed6e5b039b5db6eee43b494857174f08ab", func := "mezzotint/mezzotintkeep.ScanHurt", spec := "scanHurt", inPlace := ["internal/bytealg.Count", "internal/bytealg.IndexByte", "internal/bytealg.Index"], unfollowed := true, recurses := true, named := ["internal/bytealg.MaxLen", "unicode/utf8.first", "unicode/utf8.acceptRanges"], plainKeys := false, apart := false, laid := [("unicode/utf8.acceptRanges", laid_unicode_utf8_acceptRanges), ("unicode/utf8.first", laid_unicode_utf8_first)] }
def ScanHurtSaid : Prop := scanHurtRow.holds Tryd.pinned (OpenSpec.ofChange scanHurtSpec)

/-- ITS FALSE NEIGHBOUR: 'it returns false'. Refute it at one input. -/
def scanHurtWrong : ChangeSpec := { name := "scanHurt", fn := fun _ => fun
  | [d1, d2, d3, d4] => { results := [.lit (.bool false)], args := [d1, d2, d3, d4] }
  | _ => none }
def ScanHurtWrongFalsely : Prop := scanHurtRow.holds Tryd.pinned (OpenSpec.ofChange scanHurtWrong)

/-- 'mezzotintkeep.ScanOne': WHATEVER THE INPUT: true; the input reads as it did. -/
def scanOneSpec : ChangeSpec := { name := "scanOne", fn := fun _ => fun
  | [d1, d2, d3] => { results := [.lit (.bool true)], args := [d1, d2, d3] }
  | _ => none }
def scanOneRow : OpenClaim := { program := "ytehbjhocgnfpmaadoor", sum := "543f496546bb06bd326c377936ca30ed6e5b039b5db6eee43b494857174f08ab", func := "mezzotint/mezzotintkeep.ScanOne", spec := "scanOne", inPlace := ["internal/bytealg.Count", "internal/bytealg.IndexByte", "internal/bytealg.Index"], unfollowed := true, recurses := true, named := ["internal/bytealg.MaxLen", "unicode/utf8.first", "unicode/utf8.acceptRanges"], plainKeys := false, apart := false, laid := [("unicode/utf8.acceptRanges", laid_unicode_utf8_acceptRanges), ("unicode/utf8.first", laid_unicode_utf8_first)] }
def ScanOneSaid : Prop := scanOneRow.holds Tryd.pinned (OpenSpec.ofChange scanOneSpec)

/-- ITS FALSE NEIGHBOUR: 'it returns false'. Refute it at one input. -/
def scanOneWrong : ChangeSpec := { name := "scanOne", fn := fun _ => fun
  | [d1, d2, d3] => { results := [.lit (.bool false)], args := [d1, d2, d3] }
  | _ => none }
def ScanOneWrongFalsely : Prop := scanOneRow.holds Tryd.pinned (OpenSpec.ofChange scanOneWrong)

/-- 'mezzotintkeep.ScanBack': WHATEVER THE INPUT: true; the input reads as it did. -/
def scanBackSpec : ChangeSpec := { name := "scanBack", fn := fun _ => fun
  | [d1, d2] => { results := [.lit (.bool true)], args := [d1, d2] }
  | _ => none }
def scanBackRow : OpenClaim := { program := "ytehbjhocgnfpmaadoor", sum := "543f496546bb06bd326c377936ca30ed6e5b039b5db6eee43b494857174f08ab", func := "mezzotint/mezzotintkeep.ScanBack", spec := "scanBack", inPlace := ["internal/bytealg.Count", "internal/bytealg.IndexByte", "internal/bytealg.Index"], unfollowed := true, recurses := true, named := ["internal/bytealg.MaxLen", "unicode/utf8.first", "unicode/utf8.acceptRanges"], plainKeys := false, apart := false, laid := [("unicode/utf8.acceptRanges", laid_unicode_utf8_acceptRanges), ("unicode/utf8.first", laid_unicode_utf8_first)] }
def ScanBackSaid : Prop := scanBackRow.holds Tryd.pinned (OpenSpec.ofChange scanBackSpec)

/-- ITS FALSE NEIGHBOUR: 'it returns false'. Refute it at one input. -/
def scanBackWrong : ChangeSpec := { name := "scanBack", fn := fun _ => fun
  | [d1, d2] => { results := [.lit (.bool false)], args := [d1, d2] }
  | _ => none }
def ScanBackWrongFalsely : Prop := scanBackRow.holds Tryd.pinned (OpenSpec.ofChange scanBackWrong)

/- THE SECOND FORM. 'bulk': how many values and letters a reading holds, each counted each time it is reached (what is shared counts as often as it is met; a slice's spare places count too). A statement '..UptoSaid' is the law's where the arguments, and the package variables that the reading takes, are together of bulk at most 1048576: NARROWER than '..Said'. Prove '..Said' where nothing that the law and all that it calls make is longer than what came in: it says more and counts as full. Else prove '..UptoSaid'. A law counts once. -/
mutual
def uptoBulk {H : Type} : DataW H → Nat
  | .lit (.string bytes) => bytes.length + 1
  | .lit _ => 1
  | .nil => 1
  | .ptr d => uptoBulk d + 1
  | .slice elems spare => uptoBulkAll elems + uptoBulkAll spare + 1
  | .agg parts => uptoBulkAll parts + 1
  | .iface _ d => uptoBulk d + 1
  | .map entries => uptoBulkEntries entries + 1
  | .held _ => 1
def uptoBulkAll {H : Type} : List (DataW H) → Nat
  | [] => 0
  | d :: r => uptoBulk d + uptoBulkAll r
def uptoBulkEntries {H : Type} : List (Lit × DataW H) → Nat
  | [] => 0
  | x :: r => uptoBulkEntry x + uptoBulkEntries r
def uptoBulkEntry {H : Type} : Lit × DataW H → Nat
  | (.string bytes, d) => bytes.length + uptoBulk d + 1
  | (_, d) => uptoBulk d + 1
 end
def uptoSmall : (H : Type) → List (DataW H) → Bool := fun _ ds => decide (uptoBulkAll ds ≤ 1048576)
def OpenSpec.upto (s : _root_.Go.ChangeSpec) : _root_.Go.OpenSpec := { _root_.Go.OpenSpec.ofChange s with cond := some uptoSmall }

/-- 'mezzotintkeep.SegCounted', WHERE WHAT IT READS IS OF BULK AT MOST 1048576: true; the input reads as it did. -/
def segCountedUptoRow : OpenClaim := { program := "ytehbjhocgnfpmaadoor", sum := "543f496546bb06bd326c377936ca30ed6e5b039b5db6eee43b494857174f08ab", func := "mezzotint/mezzotintkeep.SegCounted", spec := "segCounted", inPlace := ["internal/bytealg.Count", "internal/bytealg.IndexByte", "internal/bytealg.Index"], unfollowed := true, recurses := true, named := ["internal/bytealg.MaxLen", "unicode/utf8.first", "unicode/utf8.acceptRanges"], plainKeys := false, apart := false, laid := [("unicode/utf8.acceptRanges", laid_unicode_utf8_acceptRanges), ("unicode/utf8.first", laid_unicode_utf8_first)], narrowed := true }
def SegCountedUptoSaid : Prop := segCountedUptoRow.holds Tryd.pinned (OpenSpec.upto segCountedSpec)

/-- 'mezzotintkeep.SegPure', WHERE WHAT IT READS IS OF BULK AT MOST 1048576: true; the input reads as it did. -/
def segPureUptoRow : OpenClaim := { program := "ytehbjhocgnfpmaadoor", sum := "543f496546bb06bd326c377936ca30ed6e5b039b5db6eee43b494857174f08ab", func := "mezzotint/mezzotintkeep.SegPure", spec := "segPure", inPlace := ["internal/bytealg.Count", "internal/bytealg.IndexByte", "internal/bytealg.Index"], unfollowed := true, recurses := true, named := ["internal/bytealg.MaxLen", "unicode/utf8.first", "unicode/utf8.acceptRanges"], plainKeys := false, apart := false, laid := [("unicode/utf8.acceptRanges", laid_unicode_utf8_acceptRanges), ("unicode/utf8.first", laid_unicode_utf8_first)], narrowed := true }
def SegPureUptoSaid : Prop := segPureUptoRow.holds Tryd.pinned (OpenSpec.upto segPureSpec)

/-- 'mezzotintkeep.SegTables', WHERE WHAT IT READS IS OF BULK AT MOST 1048576: true; the input reads as it did. -/
def segTablesUptoRow : OpenClaim := { program := "ytehbjhocgnfpmaadoor", sum := "543f496546bb06bd326c377936ca30ed6e5b039b5db6eee43b494857174f08ab", func := "mezzotint/mezzotintkeep.SegTables", spec := "segTables", inPlace := ["internal/bytealg.Count", "internal/bytealg.IndexByte", "internal/bytealg.Index"], unfollowed := true, recurses := true, named := ["internal/bytealg.MaxLen", "unicode/utf8.first", "unicode/utf8.acceptRanges"], plainKeys := false, apart := false, laid := [("unicode/utf8.acceptRanges", laid_unicode_utf8_acceptRanges), ("unicode/utf8.first", laid_unicode_utf8_first)], narrowed := true }
def SegTablesUptoSaid : Prop := segTablesUptoRow.holds Tryd.pinned (OpenSpec.upto segTablesSpec)

/-- 'mezzotintkeep.SegSize', WHERE WHAT IT READS IS OF BULK AT MOST 1048576: true; the input reads as it did. -/
def segSizeUptoRow : OpenClaim := { program := "ytehbjhocgnfpmaadoor", sum := "543f496546bb06bd326c377936ca30ed6e5b039b5db6eee43b494857174f08ab", func := "mezzotint/mezzotintkeep.SegSize", spec := "segSize", inPlace := ["internal/bytealg.Count", "internal/bytealg.IndexByte", "internal/bytealg.Index"], unfollowed := true, recurses := true, named := ["internal/bytealg.MaxLen", "unicode/utf8.first", "unicode/utf8.acceptRanges"], plainKeys := false, apart := false, laid := [("unicode/utf8.acceptRanges", laid_unicode_utf8_acceptRanges), ("unicode/utf8.first", laid_unicode_utf8_first)], narrowed := true }
def SegSizeUptoSaid : Prop := segSizeUptoRow.holds Tryd.pinned (OpenSpec.upto segSizeSpec)

/-- 'mezzotintkeep.SegBack', WHERE WHAT IT READS IS OF BULK AT MOST 1048576: true; the input reads as it did. -/
def segBackUptoRow : OpenClaim := { program := "ytehbjhocgnfpmaadoor", sum := "543f496546bb06bd326c377936ca30ed6e5b039b5db6eee43b494857174f08ab", func := "mezzotint/mezzotintkeep.SegBack", spec := "segBack", inPlace := ["internal/bytealg.Count", "internal/bytealg.IndexByte", "internal/bytealg.Index"], unfollowed := true, recurses := true, named := ["internal/bytealg.MaxLen", "unicode/utf8.first", "unicode/utf8.acceptRanges"], plainKeys := false, apart := false, laid := [("unicode/utf8.acceptRanges", laid_unicode_utf8_acceptRanges), ("unicode/utf8.first", laid_unicode_utf8_first)], narrowed := true }
def SegBackUptoSaid : Prop := segBackUptoRow.holds Tryd.pinned (OpenSpec.upto segBackSpec)

/-- 'mezzotintkeep.SegAgain', WHERE WHAT IT READS IS OF BULK AT MOST 1048576: true; the input reads as it did. -/
def segAgainUptoRow : OpenClaim := { program := "ytehbjhocgnfpmaadoor", sum := "543f496546bb06bd326c377936ca30ed6e5b039b5db6eee43b494857174f08ab", func := "mezzotint/mezzotintkeep.SegAgain", spec := "segAgain", inPlace := ["internal/bytealg.Count", "internal/bytealg.IndexByte", "internal/bytealg.Index"], unfollowed := true, recurses := true, named := ["internal/bytealg.MaxLen", "unicode/utf8.first", "unicode/utf8.acceptRanges"], plainKeys := false, apart := false, laid := [("unicode/utf8.acceptRanges", laid_unicode_utf8_acceptRanges), ("unicode/utf8.first", laid_unicode_utf8_first)], narrowed := true }
def SegAgainUptoSaid : Prop := segAgainUptoRow.holds Tryd.pinned (OpenSpec.upto segAgainSpec)

/-- 'mezzotintkeep.ScanMarks', WHERE WHAT IT READS IS OF BULK AT MOST 1048576: true; the input reads as it did. -/
def scanMarksUptoRow : OpenClaim := { program := "ytehbjhocgnfpmaadoor", sum := "543f496546bb06bd326c377936ca30ed6e5b039b5db6eee43b494857174f08ab", func := "mezzotint/mezzotintkeep.ScanMarks", spec := "scanMarks", inPlace := ["internal/bytealg.Count", "internal/bytealg.IndexByte", "internal/bytealg.Index"], unfollowed := true, recurses := true, named := ["internal/bytealg.MaxLen", "unicode/utf8.first", "unicode/utf8.acceptRanges"], plainKeys := false, apart := false, laid := [("unicode/utf8.acceptRanges", laid_unicode_utf8_acceptRanges), ("unicode/utf8.first", laid_unicode_utf8_first)], narrowed := true }
def ScanMarksUptoSaid : Prop := scanMarksUptoRow.holds Tryd.pinned (OpenSpec.upto scanMarksSpec)

/-- 'mezzotintkeep.ScanEach', WHERE WHAT IT READS IS OF BULK AT MOST 1048576: true; the input reads as it did. -/
def scanEachUptoRow : OpenClaim := { program := "ytehbjhocgnfpmaadoor", sum := "543f496546bb06bd326c377936ca30ed6e5b039b5db6eee43b494857174f08ab", func := "mezzotint/mezzotintkeep.ScanEach", spec := "scanEach", inPlace := ["internal/bytealg.Count", "internal/bytealg.IndexByte", "internal/bytealg.Index"], unfollowed := true, recurses := true, named := ["internal/bytealg.MaxLen", "unicode/utf8.first", "unicode/utf8.acceptRanges"], plainKeys := false, apart := false, laid := [("unicode/utf8.acceptRanges", laid_unicode_utf8_acceptRanges), ("unicode/utf8.first", laid_unicode_utf8_first)], narrowed := true }
def ScanEachUptoSaid : Prop := scanEachUptoRow.holds Tryd.pinned (OpenSpec.upto scanEachSpec)

/-- 'mezzotintkeep.ScanMended', WHERE WHAT IT READS IS OF BULK AT MOST 1048576: true; the input reads as it did. -/
def scanMendedUptoRow : OpenClaim := { program := "ytehbjhocgnfpmaadoor", sum := "543f496546bb06bd326c377936ca30ed6e5b039b5db6eee43b494857174f08ab", func := "mezzotint/mezzotintkeep.ScanMended", spec := "scanMended", inPlace := ["internal/bytealg.Count", "internal/bytealg.IndexByte", "internal/bytealg.Index"], unfollowed := true, recurses := true, named := ["internal/bytealg.MaxLen", "unicode/utf8.first", "unicode/utf8.acceptRanges"], plainKeys := false, apart := false, laid := [("unicode/utf8.acceptRanges", laid_unicode_utf8_acceptRanges), ("unicode/utf8.first", laid_unicode_utf8_first)], narrowed := true }
def ScanMendedUptoSaid : Prop := scanMendedUptoRow.holds Tryd.pinned (OpenSpec.upto scanMendedSpec)

/-- 'mezzotintkeep.ScanHurt', WHERE WHAT IT READS IS OF BULK AT MOST 1048576: true; the input reads as it did. -/
def scanHurtUptoRow : OpenClaim := { program := "ytehbjhocgnfpmaadoor", sum := "543f496546bb06bd326c377936ca30ed6e5b039b5db6eee43b494857174f08ab", func := "mezzotint/mezzotintkeep.ScanHurt", spec := "scanHurt", inPlace := ["internal/bytealg.Count", "internal/bytealg.IndexByte", "internal/bytealg.Index"], unfollowed := true, recurses := true, named := ["internal/bytealg.MaxLen", "unicode/utf8.first", "unicode/utf8.acceptRanges"], plainKeys := false, apart := false, laid := [("unicode/utf8.acceptRanges", laid_unicode_utf8_acceptRanges), ("unicode/utf8.first", laid_unicode_utf8_first)], narrowed := true }
def ScanHurtUptoSaid : Prop := scanHurtUptoRow.holds Tryd.pinned (OpenSpec.upto scanHurtSpec)

/-- 'mezzotintkeep.ScanOne', WHERE WHAT IT READS IS OF BULK AT MOST 1048576: true; the input reads as it did. -/
def scanOneUptoRow : OpenClaim := { program := "ytehbjhocgnfpmaadoor", sum := "543f496546bb06bd326c377936ca30ed6e5b039b5db6eee43b494857174f08ab", func := "mezzotint/mezzotintkeep.ScanOne", spec := "scanOne", inPlace := ["internal/bytealg.Count", "internal/bytealg.IndexByte", "internal/bytealg.Index"], unfollowed := true, recurses := true, named := ["internal/bytealg.MaxLen", "unicode/utf8.first", "unicode/utf8.acceptRanges"], plainKeys := false, apart := false, laid := [("unicode/utf8.acceptRanges", laid_unicode_utf8_acceptRanges), ("unicode/utf8.first", laid_unicode_utf8_first)], narrowed := true }
def ScanOneUptoSaid : Prop := scanOneUptoRow.holds Tryd.pinned (OpenSpec.upto scanOneSpec)

/-- 'mezzotintkeep.ScanBack', WHERE WHAT IT READS IS OF BULK AT MOST 1048576: true; the input reads as it did. -/
def scanBackUptoRow : OpenClaim := { program := "ytehbjhocgnfpmaadoor", sum := "543f496546bb06bd326c377936ca30ed6e5b039b5db6eee43b494857174f08ab", func := "mezzotint/mezzotintkeep.ScanBack", spec := "scanBack", inPlace := ["internal/bytealg.Count", "internal/bytealg.IndexByte", "internal/bytealg.Index"], unfollowed := true, recurses := true, named := ["internal/bytealg.MaxLen", "unicode/utf8.first", "unicode/utf8.acceptRanges"], plainKeys := false, apart := false, laid := [("unicode/utf8.acceptRanges", laid_unicode_utf8_acceptRanges), ("unicode/utf8.first", laid_unicode_utf8_first)], narrowed := true }
def ScanBackUptoSaid : Prop := scanBackUptoRow.holds Tryd.pinned (OpenSpec.upto scanBackSpec)

end Rows
end Go.Proofs.YtehbjhocgnfpmaaDoor
