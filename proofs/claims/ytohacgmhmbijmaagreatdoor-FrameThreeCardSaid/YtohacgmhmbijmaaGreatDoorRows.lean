/-
  NARROWER THAN 'FOR EVERY INPUT', by the rows' own cells (each row's printed sentence says how): FrameBack: laid · FrameNear: laid · FrameFlat: laid · FrameGray: laid · FrameAlone: laid · FrameThree: laid · RescueWhole: laid · RescueHurt: laid · RescueAll: laid · TopMirror: laid · TopScale: laid · TopTold: laid.
  DERIVED. THE GIVEN ROWS OF THIS SEAT. 12 by the template 'for every input the law returns true; each argument reads behind the call as it read before'; 0 by the template 'total and deterministic' (their statements: YtohacgmhmbijmaaGreatDoorTotals.lean).
  GIVEN WITH THE SEED: the statements are not yours to turn. If you find one false, say at which input.
  Laid BY PROGRAM, IN A SANDBOX (cutbox-rows.mjs): the forced cells as the released guide's own fill.sh prints them over the translation 0746385f42638a37… (all of the seat's roots in one cut). By AI agents, Wed Nov 11 2026. No macro, syntax, notation, axiom, sorry.
-/
import Derived.Test.YtohacgmhmbijmaaGreatDoorChecked
import GoSem.PinnedTables
import GoSem.Claim
import GoSem.ClaimJoined
import GoSem.ClaimMapViews
import Derived.JoinedTies
import Derived.KernelRfl
namespace Go.Proofs.YtohacgmhmbijmaaGreatDoor
/- THE CELL 'sum', in the pinned program and in every row, IS THE sha256 OF THE DUMP (.gsa) THAT YtohacgmhmbijmaaGreatDoorProg.lean LOADS. Nothing in Lean hashes anything: it is a label: what it is worth is what the hold of that sum in a sandbox is worth. -/
noncomputable def Tryz.pinned : Pinned := { name := "ytohacgmhmbijmaagreatdoor", sum := "0746385f42638a37a84574de5c0b07752fad3bc01cde436eeadb42fbe6ccf54d", checked := Tryz.checked }
namespace Rows
def none {H : Type} : Left H := { results := [], args := [] }

/- WHAT THE LISTED PACKAGE-LEVEL VARIABLES READ AS WHEN THE CALL BEGINS. Each datum BY PROGRAM (the guide's laid-datum.mjs) off the statement by which the dump's own 'gosem.cut.vars' lays the variable. In a bare row this is a premise. The card (YtohacgmhmbijmaaGreatDoorCards.lean) ties it to the program's text. -/
def laid_unicode_utf8_acceptRanges {H : Type} : DataW H := .agg [.agg [.lit (.int .u8 128), .lit (.int .u8 191)], .agg [.lit (.int .u8 160), .lit (.int .u8 191)], .agg [.lit (.int .u8 128), .lit (.int .u8 159)], .agg [.lit (.int .u8 144), .lit (.int .u8 191)], .agg [.lit (.int .u8 128), .lit (.int .u8 143)], .agg [.lit (.int .u8 0), .lit (.int .u8 0)], .agg [.lit (.int .u8 0), .lit (.int .u8 0)], .agg [.lit (.int .u8 0), .lit (.int .u8 0)], .agg [.lit (.int .u8 0), .lit (.int .u8 0)], .agg [.lit (.int .u8 0), .lit (.int .u8 0)], .agg [.lit (.int .u8 0), .lit (.int .u8 0)], .agg [.lit (.int .u8 0), .lit (.int .u8 0)], .agg [.lit (.int .u8 0), .lit (.int .u8 0)], .agg [.lit (.int .u8 0), .lit (.int .u8 0)], .agg [.lit (.int .u8 0), .lit (.int .u8 0)], .agg [.lit (.int .u8 0), .lit (.int .u8 0)]]
/-- One of Go's own tables, pinned by name: the form's constant. -/
def laid_unicode_utf8_first : DataW Unit := Go.Pinned.utf8First

/-- 'mezzotintkeep.FrameBack': WHATEVER THE INPUT: true; the input reads as it did. -/
def frameBackSpec : ChangeSpec := { name := "frameBack", fn := fun _ => fun
  | [d1, d2, d3, d4] => { results := [.lit (.bool true)], args := [d1, d2, d3, d4] }
  | _ => none }
def frameBackRow : OpenClaim := { program := "ytohacgmhmbijmaagreatdoor", sum := "0746385f42638a37a84574de5c0b07752fad3bc01cde436eeadb42fbe6ccf54d", func := "mezzotint/mezzotintkeep.FrameBack", spec := "frameBack", inPlace := ["internal/bytealg.Count", "internal/bytealg.IndexByte", "internal/bytealg.Index"], unfollowed := true, recurses := true, named := ["internal/bytealg.MaxLen", "unicode/utf8.first", "unicode/utf8.acceptRanges"], plainKeys := false, apart := false, laid := [("unicode/utf8.acceptRanges", laid_unicode_utf8_acceptRanges), ("unicode/utf8.first", laid_unicode_utf8_first)] }
def FrameBackSaid : Prop := frameBackRow.holds Tryz.pinned (OpenSpec.ofChange frameBackSpec)

/-- ITS FALSE NEIGHBOUR: 'it returns false'. Refute it at one input. -/
def frameBackWrong : ChangeSpec := { name := "frameBack", fn := fun _ => fun
  | [d1, d2, d3, d4] => { results := [.lit (.bool false)], args := [d1, d2, d3, d4] }
  | _ => none }
def FrameBackWrongFalsely : Prop := frameBackRow.holds Tryz.pinned (OpenSpec.ofChange frameBackWrong)

/-- 'mezzotintkeep.FrameNear': WHATEVER THE INPUT: true; the input reads as it did. -/
def frameNearSpec : ChangeSpec := { name := "frameNear", fn := fun _ => fun
  | [d1, d2, d3, d4] => { results := [.lit (.bool true)], args := [d1, d2, d3, d4] }
  | _ => none }
def frameNearRow : OpenClaim := { program := "ytohacgmhmbijmaagreatdoor", sum := "0746385f42638a37a84574de5c0b07752fad3bc01cde436eeadb42fbe6ccf54d", func := "mezzotint/mezzotintkeep.FrameNear", spec := "frameNear", inPlace := ["internal/bytealg.Count", "internal/bytealg.IndexByte", "internal/bytealg.Index"], unfollowed := true, recurses := true, named := ["internal/bytealg.MaxLen", "unicode/utf8.first", "unicode/utf8.acceptRanges"], plainKeys := false, apart := false, laid := [("unicode/utf8.acceptRanges", laid_unicode_utf8_acceptRanges), ("unicode/utf8.first", laid_unicode_utf8_first)] }
def FrameNearSaid : Prop := frameNearRow.holds Tryz.pinned (OpenSpec.ofChange frameNearSpec)

/-- ITS FALSE NEIGHBOUR: 'it returns false'. Refute it at one input. -/
def frameNearWrong : ChangeSpec := { name := "frameNear", fn := fun _ => fun
  | [d1, d2, d3, d4] => { results := [.lit (.bool false)], args := [d1, d2, d3, d4] }
  | _ => none }
def FrameNearWrongFalsely : Prop := frameNearRow.holds Tryz.pinned (OpenSpec.ofChange frameNearWrong)

/-- 'mezzotintkeep.FrameFlat': WHATEVER THE INPUT: true; the input reads as it did. -/
def frameFlatSpec : ChangeSpec := { name := "frameFlat", fn := fun _ => fun
  | [d1, d2, d3, d4] => { results := [.lit (.bool true)], args := [d1, d2, d3, d4] }
  | _ => none }
def frameFlatRow : OpenClaim := { program := "ytohacgmhmbijmaagreatdoor", sum := "0746385f42638a37a84574de5c0b07752fad3bc01cde436eeadb42fbe6ccf54d", func := "mezzotint/mezzotintkeep.FrameFlat", spec := "frameFlat", inPlace := ["internal/bytealg.Count", "internal/bytealg.IndexByte", "internal/bytealg.Index"], unfollowed := true, recurses := true, named := ["internal/bytealg.MaxLen", "unicode/utf8.first", "unicode/utf8.acceptRanges"], plainKeys := false, apart := false, laid := [("unicode/utf8.acceptRanges", laid_unicode_utf8_acceptRanges), ("unicode/utf8.first", laid_unicode_utf8_first)] }
def FrameFlatSaid : Prop := frameFlatRow.holds Tryz.pinned (OpenSpec.ofChange frameFlatSpec)

/-- ITS FALSE NEIGHBOUR: 'it returns false'. Refute it at one input. -/
def frameFlatWrong : ChangeSpec := { name := "frameFlat", fn := fun _ => fun
  | [d1, d2, d3, d4] => { results := [.lit (.bool false)], args := [d1, d2, d3, d4] }
  | _ => none }
def FrameFlatWrongFalsely : Prop := frameFlatRow.holds Tryz.pinned (OpenSpec.ofChange frameFlatWrong)

/-- 'mezzotintkeep.FrameGray': WHATEVER THE INPUT: true; the input reads as it did. -/
def frameGraySpec : ChangeSpec := { name := "frameGray", fn := fun _ => fun
  | [d1, d2, d3, d4] => { results := [.lit (.bool true)], args := [d1, d2, d3, d4] }
  | _ => none }
def frameGrayRow : OpenClaim := { program := "ytohacgmhmbijmaagreatdoor", sum := "0746385f42638a37a84574de5c0b07752fad3bc01cde436eeadb42fbe6ccf54d", func := "mezzotint/mezzotintkeep.FrameGray", spec := "frameGray", inPlace := ["internal/bytealg.Count", "internal/bytealg.IndexByte", "internal/bytealg.Index"], unfollowed := true, recurses := true, named := ["internal/bytealg.MaxLen", "unicode/utf8.first", "unicode/utf8.acceptRanges"], plainKeys := false, apart := false, laid := [("unicode/utf8.acceptRanges", laid_unicode_utf8_acceptRanges), ("unicode/utf8.first", laid_unicode_utf8_first)] }
def FrameGraySaid : Prop := frameGrayRow.holds Tryz.pinned (OpenSpec.ofChange frameGraySpec)

/-- ITS FALSE NEIGHBOUR: 'it returns false'. Refute it at one input. -/
def frameGrayWrong : ChangeSpec := { name := "frameGray", fn := fun _ => fun
  | [d1, d2, d3, d4] => { results := [.lit (.bool false)], args := [d1, d2, d3, d4] }
  | _ => none }
def FrameGrayWrongFalsely : Prop := frameGrayRow.holds Tryz.pinned (OpenSpec.ofChange frameGrayWrong)

/-- 'mezzotintkeep.FrameAlone': WHATEVER THE INPUT: true; the input reads as it did. -/
def frameAloneSpec : ChangeSpec := { name := "frameAlone", fn := fun _ => fun
  | [d1, d2, d3, d4] => { results := [.lit (.bool true)], args := [d1, d2, d3, d4] }
  | _ => none }
def frameAloneRow : OpenClaim := { program := "ytohacgmhmbijmaagreatdoor", sum := "0746385f42638a37a84574de5c0b07752fad3bc01cde436eeadb42fbe6ccf54d", func := "mezzotint/mezzotintkeep.FrameAlone", spec := "frameAlone", inPlace := ["internal/bytealg.Count", "internal/bytealg.IndexByte", "internal/bytealg.Index"], unfollowed := true, recurses := true, named := ["internal/bytealg.MaxLen", "unicode/utf8.first", "unicode/utf8.acceptRanges"], plainKeys := false, apart := false, laid := [("unicode/utf8.acceptRanges", laid_unicode_utf8_acceptRanges), ("unicode/utf8.first", laid_unicode_utf8_first)] }
def FrameAloneSaid : Prop := frameAloneRow.holds Tryz.pinned (OpenSpec.ofChange frameAloneSpec)

/-- ITS FALSE NEIGHBOUR: 'it returns false'. Refute it at one input. -/
def frameAloneWrong : ChangeSpec := { name := "frameAlone", fn := fun _ => fun
  | [d1, d2, d3, d4] => { results := [.lit (.bool false)], args := [d1, d2, d3, d4] }
  | _ => none }
def FrameAloneWrongFalsely : Prop := frameAloneRow.holds Tryz.pinned (OpenSpec.ofChange frameAloneWrong)

/-- 'mezzotintkeep.FrameThree': WHATEVER THE INPUT: true; the input reads as it did. -/
def frameThreeSpec : ChangeSpec := { name := "frameThree", fn := fun _ => fun
  | [d1, d2] => { results := [.lit (.bool true)], args := [d1, d2] }
  | _ => none }
def frameThreeRow : OpenClaim := { program := "ytohacgmhmbijmaagreatdoor", sum := "0746385f42638a37a84574de5c0b07752fad3bc01cde436eeadb42fbe6ccf54d", func := "mezzotint/mezzotintkeep.FrameThree", spec := "frameThree", inPlace := ["internal/bytealg.Count", "internal/bytealg.IndexByte", "internal/bytealg.Index"], unfollowed := true, recurses := true, named := ["internal/bytealg.MaxLen", "unicode/utf8.first", "unicode/utf8.acceptRanges"], plainKeys := false, apart := false, laid := [("unicode/utf8.acceptRanges", laid_unicode_utf8_acceptRanges), ("unicode/utf8.first", laid_unicode_utf8_first)] }
def FrameThreeSaid : Prop := frameThreeRow.holds Tryz.pinned (OpenSpec.ofChange frameThreeSpec)

/-- ITS FALSE NEIGHBOUR: 'it returns false'. Refute it at one input. -/
def frameThreeWrong : ChangeSpec := { name := "frameThree", fn := fun _ => fun
  | [d1, d2] => { results := [.lit (.bool false)], args := [d1, d2] }
  | _ => none }
def FrameThreeWrongFalsely : Prop := frameThreeRow.holds Tryz.pinned (OpenSpec.ofChange frameThreeWrong)

/-- 'mezzotintkeep.RescueWhole': WHATEVER THE INPUT: true; the input reads as it did. -/
def rescueWholeSpec : ChangeSpec := { name := "rescueWhole", fn := fun _ => fun
  | [d] => { results := [.lit (.bool true)], args := [d] }
  | _ => none }
def rescueWholeRow : OpenClaim := { program := "ytohacgmhmbijmaagreatdoor", sum := "0746385f42638a37a84574de5c0b07752fad3bc01cde436eeadb42fbe6ccf54d", func := "mezzotint/mezzotintkeep.RescueWhole", spec := "rescueWhole", inPlace := ["internal/bytealg.Count", "internal/bytealg.IndexByte", "internal/bytealg.Index"], unfollowed := true, recurses := true, named := ["internal/bytealg.MaxLen", "unicode/utf8.first", "unicode/utf8.acceptRanges"], plainKeys := false, apart := false, laid := [("unicode/utf8.acceptRanges", laid_unicode_utf8_acceptRanges), ("unicode/utf8.first", laid_unicode_utf8_first)] }
def RescueWholeSaid : Prop := rescueWholeRow.holds Tryz.pinned (OpenSpec.ofChange rescueWholeSpec)

/-- ITS FALSE NEIGHBOUR: 'it returns false'. Refute it at one input. -/
def rescueWholeWrong : ChangeSpec := { name := "rescueWhole", fn := fun _ => fun
  | [d] => { results := [.lit (.bool false)], args := [d] }
  | _ => none }
def RescueWholeWrongFalsely : Prop := rescueWholeRow.holds Tryz.pinned (OpenSpec.ofChange rescueWholeWrong)

/-- 'mezzotintkeep.RescueHurt': WHATEVER THE INPUT: true; the input reads as it did. -/
def rescueHurtSpec : ChangeSpec := { name := "rescueHurt", fn := fun _ => fun
  | [d1, d2, d3, d4] => { results := [.lit (.bool true)], args := [d1, d2, d3, d4] }
  | _ => none }
def rescueHurtRow : OpenClaim := { program := "ytohacgmhmbijmaagreatdoor", sum := "0746385f42638a37a84574de5c0b07752fad3bc01cde436eeadb42fbe6ccf54d", func := "mezzotint/mezzotintkeep.RescueHurt", spec := "rescueHurt", inPlace := ["internal/bytealg.Count", "internal/bytealg.IndexByte", "internal/bytealg.Index"], unfollowed := true, recurses := true, named := ["internal/bytealg.MaxLen", "unicode/utf8.first", "unicode/utf8.acceptRanges"], plainKeys := false, apart := false, laid := [("unicode/utf8.acceptRanges", laid_unicode_utf8_acceptRanges), ("unicode/utf8.first", laid_unicode_utf8_first)] }
def RescueHurtSaid : Prop := rescueHurtRow.holds Tryz.pinned (OpenSpec.ofChange rescueHurtSpec)

/-- ITS FALSE NEIGHBOUR: 'it returns false'. Refute it at one input. -/
def rescueHurtWrong : ChangeSpec := { name := "rescueHurt", fn := fun _ => fun
  | [d1, d2, d3, d4] => { results := [.lit (.bool false)], args := [d1, d2, d3, d4] }
  | _ => none }
def RescueHurtWrongFalsely : Prop := rescueHurtRow.holds Tryz.pinned (OpenSpec.ofChange rescueHurtWrong)

/-- 'mezzotintkeep.RescueAll': WHATEVER THE INPUT: true; the input reads as it did. -/
def rescueAllSpec : ChangeSpec := { name := "rescueAll", fn := fun _ => fun
  | [d1, d2, d3] => { results := [.lit (.bool true)], args := [d1, d2, d3] }
  | _ => none }
def rescueAllRow : OpenClaim := { program := "ytohacgmhmbijmaagreatdoor", sum := "0746385f42638a37a84574de5c0b07752fad3bc01cde436eeadb42fbe6ccf54d", func := "mezzotint/mezzotintkeep.RescueAll", spec := "rescueAll", inPlace := ["internal/bytealg.Count", "internal/bytealg.IndexByte", "internal/bytealg.Index"], unfollowed := true, recurses := true, named := ["internal/bytealg.MaxLen", "unicode/utf8.first", "unicode/utf8.acceptRanges"], plainKeys := false, apart := false, laid := [("unicode/utf8.acceptRanges", laid_unicode_utf8_acceptRanges), ("unicode/utf8.first", laid_unicode_utf8_first)] }
def RescueAllSaid : Prop := rescueAllRow.holds Tryz.pinned (OpenSpec.ofChange rescueAllSpec)

/-- ITS FALSE NEIGHBOUR: 'it returns false'. Refute it at one input. -/
def rescueAllWrong : ChangeSpec := { name := "rescueAll", fn := fun _ => fun
  | [d1, d2, d3] => { results := [.lit (.bool false)], args := [d1, d2, d3] }
  | _ => none }
def RescueAllWrongFalsely : Prop := rescueAllRow.holds Tryz.pinned (OpenSpec.ofChange rescueAllWrong)

/-- 'mezzotinttop.TopMirror': WHATEVER THE INPUT: true; the input reads as it did. -/
def topMirrorSpec : ChangeSpec := { name := "topMirror", fn := fun _ => fun
  | [d1, d2, d3, d4] => { results := [.lit (.bool true)], args := [d1, d2, d3, d4] }
  | _ => none }
def topMirrorRow : OpenClaim := { program := "ytohacgmhmbijmaagreatdoor", sum := "0746385f42638a37a84574de5c0b07752fad3bc01cde436eeadb42fbe6ccf54d", func := "mezzotint/mezzotinttop.TopMirror", spec := "topMirror", inPlace := ["internal/bytealg.Count", "internal/bytealg.IndexByte", "internal/bytealg.Index"], unfollowed := true, recurses := true, named := ["internal/bytealg.MaxLen", "unicode/utf8.first", "unicode/utf8.acceptRanges"], plainKeys := false, apart := false, laid := [("unicode/utf8.acceptRanges", laid_unicode_utf8_acceptRanges), ("unicode/utf8.first", laid_unicode_utf8_first)] }
def TopMirrorSaid : Prop := topMirrorRow.holds Tryz.pinned (OpenSpec.ofChange topMirrorSpec)

/-- ITS FALSE NEIGHBOUR: 'it returns false'. Refute it at one input. -/
def topMirrorWrong : ChangeSpec := { name := "topMirror", fn := fun _ => fun
  | [d1, d2, d3, d4] => { results := [.lit (.bool false)], args := [d1, d2, d3, d4] }
  | _ => none }
def TopMirrorWrongFalsely : Prop := topMirrorRow.holds Tryz.pinned (OpenSpec.ofChange topMirrorWrong)

/-- 'mezzotinttop.TopScale': WHATEVER THE INPUT: true; the input reads as it did. -/
def topScaleSpec : ChangeSpec := { name := "topScale", fn := fun _ => fun
  | [d1, d2, d3] => { results := [.lit (.bool true)], args := [d1, d2, d3] }
  | _ => none }
def topScaleRow : OpenClaim := { program := "ytohacgmhmbijmaagreatdoor", sum := "0746385f42638a37a84574de5c0b07752fad3bc01cde436eeadb42fbe6ccf54d", func := "mezzotint/mezzotinttop.TopScale", spec := "topScale", inPlace := ["internal/bytealg.Count", "internal/bytealg.IndexByte", "internal/bytealg.Index"], unfollowed := true, recurses := true, named := ["internal/bytealg.MaxLen", "unicode/utf8.first", "unicode/utf8.acceptRanges"], plainKeys := false, apart := false, laid := [("unicode/utf8.acceptRanges", laid_unicode_utf8_acceptRanges), ("unicode/utf8.first", laid_unicode_utf8_first)] }
def TopScaleSaid : Prop := topScaleRow.holds Tryz.pinned (OpenSpec.ofChange topScaleSpec)

/-- ITS FALSE NEIGHBOUR: 'it returns false'. Refute it at one input. -/
def topScaleWrong : ChangeSpec := { name := "topScale", fn := fun _ => fun
  | [d1, d2, d3] => { results := [.lit (.bool false)], args := [d1, d2, d3] }
  | _ => none }
def TopScaleWrongFalsely : Prop := topScaleRow.holds Tryz.pinned (OpenSpec.ofChange topScaleWrong)

/-- 'mezzotinttop.TopTold': WHATEVER THE INPUT: true; the input reads as it did. -/
def topToldSpec : ChangeSpec := { name := "topTold", fn := fun _ => fun
  | [d] => { results := [.lit (.bool true)], args := [d] }
  | _ => none }
def topToldRow : OpenClaim := { program := "ytohacgmhmbijmaagreatdoor", sum := "0746385f42638a37a84574de5c0b07752fad3bc01cde436eeadb42fbe6ccf54d", func := "mezzotint/mezzotinttop.TopTold", spec := "topTold", inPlace := ["internal/bytealg.Count", "internal/bytealg.IndexByte", "internal/bytealg.Index"], unfollowed := true, recurses := true, named := ["internal/bytealg.MaxLen", "unicode/utf8.first", "unicode/utf8.acceptRanges"], plainKeys := false, apart := false, laid := [("unicode/utf8.acceptRanges", laid_unicode_utf8_acceptRanges), ("unicode/utf8.first", laid_unicode_utf8_first)] }
def TopToldSaid : Prop := topToldRow.holds Tryz.pinned (OpenSpec.ofChange topToldSpec)

/-- ITS FALSE NEIGHBOUR: 'it returns false'. Refute it at one input. -/
def topToldWrong : ChangeSpec := { name := "topTold", fn := fun _ => fun
  | [d] => { results := [.lit (.bool false)], args := [d] }
  | _ => none }
def TopToldWrongFalsely : Prop := topToldRow.holds Tryz.pinned (OpenSpec.ofChange topToldWrong)

/- THE SECOND FORM. 'bulk': how many values and letters a reading holds, each counted each time it is reached (what is shared counts as often as it is met; a slice's spare places count too). A statement '..UptoSaid' is the law's where the arguments, and the package variables that the reading takes, are together of bulk at most 1048576: NARROWER than '..Said'. Prove '..Said' where nothing that the law and all that it calls make is longer than what came in: it says more and counts as full. Else prove '..UptoSaid'. A law counts once. -/
mutual
def uptoBulk {H : Type} : DataW H → Nat
  | .lit (.string bytes) => bytes.length + 1
  | .lit _ => 1
  | .nil => 1
  | .ptr d => uptoBulk d + 1
  | .slice elems spare => uptoBulkAll elems + uptoBulkAll spare + 1
  | .agg parts => uptoBulkAll parts + 1
  | .iface _ d => uptoBulk d + 1
  | .map entries => uptoBulkEntries entries + 1
  | .held _ => 1
def uptoBulkAll {H : Type} : List (DataW H) → Nat
  | [] => 0
  | d :: r => uptoBulk d + uptoBulkAll r
def uptoBulkEntries {H : Type} : List (Lit × DataW H) → Nat
  | [] => 0
  | x :: r => uptoBulkEntry x + uptoBulkEntries r
def uptoBulkEntry {H : Type} : Lit × DataW H → Nat
  | (.string bytes, d) => bytes.length + uptoBulk d + 1
  | (_, d) => uptoBulk d + 1
 end
def uptoSmall : (H : Type) → List (DataW H) → Bool := fun _ ds => decide (uptoBulkAll ds ≤ 1048576)
def OpenSpec.upto (s : _root_.Go.ChangeSpec) : _root_.Go.OpenSpec := { _root_.Go.OpenSpec.ofChange s with cond := some uptoSmall }

/-- 'mezzotintkeep.FrameBack', WHERE WHAT IT READS IS OF BULK AT MOST 1048576: true; the input reads as it did. -/
def frameBackUptoRow : OpenClaim := { program := "ytohacgmhmbijmaagreatdoor", sum := "0746385f42638a37a84574de5c0b07752fad3bc01cde436eeadb42fbe6ccf54d", func := "mezzotint/mezzotintkeep.FrameBack", spec := "frameBack", inPlace := ["internal/bytealg.Count", "internal/bytealg.IndexByte", "internal/bytealg.Index"], unfollowed := true, recurses := true, named := ["internal/bytealg.MaxLen", "unicode/utf8.first", "unicode/utf8.acceptRanges"], plainKeys := false, apart := false, laid := [("unicode/utf8.acceptRanges", laid_unicode_utf8_acceptRanges), ("unicode/utf8.first", laid_unicode_utf8_first)], narrowed := true }
def FrameBackUptoSaid : Prop := frameBackUptoRow.holds Tryz.pinned (OpenSpec.upto frameBackSpec)

/-- 'mezzotintkeep.FrameNear', WHERE WHAT IT READS IS OF BULK AT MOST 1048576: true; the input reads as it did. -/
def frameNearUptoRow : OpenClaim := { program := "ytohacgmhmbijmaagreatdoor", sum := "0746385f42638a37a84574de5c0b07752fad3bc01cde436eeadb42fbe6ccf54d", func := "mezzotint/mezzotintkeep.FrameNear", spec := "frameNear", inPlace := ["internal/bytealg.Count", "internal/bytealg.IndexByte", "internal/bytealg.Index"], unfollowed := true, recurses := true, named := ["internal/bytealg.MaxLen", "unicode/utf8.first", "unicode/utf8.acceptRanges"], plainKeys := false, apart := false, laid := [("unicode/utf8.acceptRanges", laid_unicode_utf8_acceptRanges), ("unicode/utf8.first", laid_unicode_utf8_first)], narrowed := true }
def FrameNearUptoSaid : Prop := frameNearUptoRow.holds Tryz.pinned (OpenSpec.upto frameNearSpec)

/-- 'mezzotintkeep.FrameFlat', WHERE WHAT IT READS IS OF BULK AT MOST 1048576: true; the input reads as it did. -/
def frameFlatUptoRow : OpenClaim := { program := "ytohacgmhmbijmaagreatdoor", sum := "0746385f42638a37a84574de5c0b07752fad3bc01cde436eeadb42fbe6ccf54d", func := "mezzotint/mezzotintkeep.FrameFlat", spec := "frameFlat", inPlace := ["internal/bytealg.Count", "internal/bytealg.IndexByte", "internal/bytealg.Index"], unfollowed := true, recurses := true, named := ["internal/bytealg.MaxLen", "unicode/utf8.first", "unicode/utf8.acceptRanges"], plainKeys := false, apart := false, laid := [("unicode/utf8.acceptRanges", laid_unicode_utf8_acceptRanges), ("unicode/utf8.first", laid_unicode_utf8_first)], narrowed := true }
def FrameFlatUptoSaid : Prop := frameFlatUptoRow.holds Tryz.pinned (OpenSpec.upto frameFlatSpec)

/-- 'mezzotintkeep.FrameGray', WHERE WHAT IT READS IS OF BULK AT MOST 1048576: true; the input reads as it did. -/
def frameGrayUptoRow : OpenClaim := { program := "ytohacgmhmbijmaagreatdoor", sum := "0746385f42638a37a84574de5c0b07752fad3bc01cde436eeadb42fbe6ccf54d", func := "mezzotint/mezzotintkeep.FrameGray", spec := "frameGray", inPlace := ["internal/bytealg.Count", "internal/bytealg.IndexByte", "internal/bytealg.Index"], unfollowed := true, recurses := true, named := ["internal/bytealg.MaxLen", "unicode/utf8.first", "unicode/utf8.acceptRanges"], plainKeys := false, apart := false, laid := [("unicode/utf8.acceptRanges", laid_unicode_utf8_acceptRanges), ("unicode/utf8.first", laid_unicode_utf8_first)], narrowed := true }
def FrameGrayUptoSaid : Prop := frameGrayUptoRow.holds Tryz.pinned (OpenSpec.upto frameGraySpec)

/-- 'mezzotintkeep.FrameAlone', WHERE WHAT IT READS IS OF BULK AT MOST 1048576: true; the input reads as it did. -/
def frameAloneUptoRow : OpenClaim := { program := "ytohacgmhmbijmaagreatdoor", sum := "0746385f42638a37a84574de5c0b07752fad3bc01cde436eeadb42fbe6ccf54d", func := "mezzotint/mezzotintkeep.FrameAlone", spec := "frameAlone", inPlace := ["internal/bytealg.Count", "internal/bytealg.IndexByte", "internal/bytealg.Index"], unfollowed := true, recurses := true, named := ["internal/bytealg.MaxLen", "unicode/utf8.first", "unicode/utf8.acceptRanges"], plainKeys := false, apart := false, laid := [("unicode/utf8.acceptRanges", laid_unicode_utf8_acceptRanges), ("unicode/utf8.first", laid_unicode_utf8_first)], narrowed := true }
def FrameAloneUptoSaid : Prop := frameAloneUptoRow.holds Tryz.pinned (OpenSpec.upto frameAloneSpec)

/-- 'mezzotintkeep.FrameThree', WHERE WHAT IT READS IS OF BULK AT MOST 1048576: true; the input reads as it did. -/
def frameThreeUptoRow : OpenClaim := { program := "ytohacgmhmbijmaagreatdoor", sum := "0746385f42638a37a84574de5c0b07752fad3bc01cde436eeadb42fbe6ccf54d", func := "mezzotint/mezzotintkeep.FrameThree", spec := "frameThree", inPlace := ["internal/bytealg.Count", "internal/bytealg.IndexByte", "internal/bytealg.Index"], unfollowed := true, recurses := true, named := ["internal/bytealg.MaxLen", "unicode/utf8.first", "unicode/utf8.acceptRanges"], plainKeys := false, apart := false, laid := [("unicode/utf8.acceptRanges", laid_unicode_utf8_acceptRanges), ("unicode/utf8.first", laid_unicode_utf8_first)], narrowed := true }
def FrameThreeUptoSaid : Prop := frameThreeUptoRow.holds Tryz.pinned (OpenSpec.upto frameThreeSpec)

/-- 'mezzotintkeep.RescueWhole', WHERE WHAT IT READS IS OF BULK AT MOST 1048576: true; the input reads as it did. -/
def rescueWholeUptoRow : OpenClaim := { program := "ytohacgmhmbijmaagreatdoor", sum := "0746385f42638a37a84574de5c0b07752fad3bc01cde436eeadb42fbe6ccf54d", func := "mezzotint/mezzotintkeep.RescueWhole", spec := "rescueWhole", inPlace := ["internal/bytealg.Count", "internal/bytealg.IndexByte", "internal/bytealg.Index"], unfollowed := true, recurses := true, named := ["internal/bytealg.MaxLen", "unicode/utf8.first", "unicode/utf8.acceptRanges"], plainKeys := false, apart := false, laid := [("unicode/utf8.acceptRanges", laid_unicode_utf8_acceptRanges), ("unicode/utf8.first", laid_unicode_utf8_first)], narrowed := true }
def RescueWholeUptoSaid : Prop := rescueWholeUptoRow.holds Tryz.pinned (OpenSpec.upto rescueWholeSpec)

/-- 'mezzotintkeep.RescueHurt', WHERE WHAT IT READS IS OF BULK AT MOST 1048576: true; the input reads as it did. -/
def rescueHurtUptoRow : OpenClaim := { program := "ytohacgmhmbijmaagreatdoor", sum := "0746385f42638a37a84574de5c0b07752fad3bc01cde436eeadb42fbe6ccf54d", func := "mezzotint/mezzotintkeep.RescueHurt", spec := "rescueHurt", inPlace := ["internal/bytealg.Count", "internal/bytealg.IndexByte", "internal/bytealg.Index"], unfollowed := true, recurses := true, named := ["internal/bytealg.MaxLen", "unicode/utf8.first", "unicode/utf8.acceptRanges"], plainKeys := false, apart := false, laid := [("unicode/utf8.acceptRanges", laid_unicode_utf8_acceptRanges), ("unicode/utf8.first", laid_unicode_utf8_first)], narrowed := true }
def RescueHurtUptoSaid : Prop := rescueHurtUptoRow.holds Tryz.pinned (OpenSpec.upto rescueHurtSpec)

/-- 'mezzotintkeep.RescueAll', WHERE WHAT IT READS IS OF BULK AT MOST 1048576: true; the input reads as it did. -/
def rescueAllUptoRow : OpenClaim := { program := "ytohacgmhmbijmaagreatdoor", sum := "0746385f42638a37a84574de5c0b07752fad3bc01cde436eeadb42fbe6ccf54d", func := "mezzotint/mezzotintkeep.RescueAll", spec := "rescueAll", inPlace := ["internal/bytealg.Count", "internal/bytealg.IndexByte", "internal/bytealg.Index"], unfollowed := true, recurses := true, named := ["internal/bytealg.MaxLen", "unicode/utf8.first", "unicode/utf8.acceptRanges"], plainKeys := false, apart := false, laid := [("unicode/utf8.acceptRanges", laid_unicode_utf8_acceptRanges), ("unicode/utf8.first", laid_unicode_utf8_first)], narrowed := true }
def RescueAllUptoSaid : Prop := rescueAllUptoRow.holds Tryz.pinned (OpenSpec.upto rescueAllSpec)

/-- 'mezzotinttop.TopMirror', WHERE WHAT IT READS IS OF BULK AT MOST 1048576: true; the input reads as it did. -/
def topMirrorUptoRow : OpenClaim := { program := "ytohacgmhmbijmaagreatdoor", sum := "0746385f42638a37a84574de5c0b07752fad3bc01cde436eeadb42fbe6ccf54d", func := "mezzotint/mezzotinttop.TopMirror", spec := "topMirror", inPlace := ["internal/bytealg.Count", "internal/bytealg.IndexByte", "internal/bytealg.Index"], unfollowed := true, recurses := true, named := ["internal/bytealg.MaxLen", "unicode/utf8.first", "unicode/utf8.acceptRanges"], plainKeys := false, apart := false, laid := [("unicode/utf8.acceptRanges", laid_unicode_utf8_acceptRanges), ("unicode/utf8.first", laid_unicode_utf8_first)], narrowed := true }
def TopMirrorUptoSaid : Prop := topMirrorUptoRow.holds Tryz.pinned (OpenSpec.upto topMirrorSpec)

/-- 'mezzotinttop.TopScale', WHERE WHAT IT READS IS OF BULK AT MOST 1048576: true; the input reads as it did. -/
def topScaleUptoRow : OpenClaim := { program := "ytohacgmhmbijmaagreatdoor", sum := "0746385f42638a37a84574de5c0b07752fad3bc01cde436eeadb42fbe6ccf54d", func := "mezzotint/mezzotinttop.TopScale", spec := "topScale", inPlace := ["internal/bytealg.Count", "internal/bytealg.IndexByte", "internal/bytealg.Index"], unfollowed := true, recurses := true, named := ["internal/bytealg.MaxLen", "unicode/utf8.first", "unicode/utf8.acceptRanges"], plainKeys := false, apart := false, laid := [("unicode/utf8.acceptRanges", laid_unicode_utf8_acceptRanges), ("unicode/utf8.first", laid_unicode_utf8_first)], narrowed := true }
def TopScaleUptoSaid : Prop := topScaleUptoRow.holds Tryz.pinned (OpenSpec.upto topScaleSpec)

/-- 'mezzotinttop.TopTold', WHERE WHAT IT READS IS OF BULK AT MOST 1048576: true; the input reads as it did. -/
def topToldUptoRow : OpenClaim := { program := "ytohacgmhmbijmaagreatdoor", sum := "0746385f42638a37a84574de5c0b07752fad3bc01cde436eeadb42fbe6ccf54d", func := "mezzotint/mezzotinttop.TopTold", spec := "topTold", inPlace := ["internal/bytealg.Count", "internal/bytealg.IndexByte", "internal/bytealg.Index"], unfollowed := true, recurses := true, named := ["internal/bytealg.MaxLen", "unicode/utf8.first", "unicode/utf8.acceptRanges"], plainKeys := false, apart := false, laid := [("unicode/utf8.acceptRanges", laid_unicode_utf8_acceptRanges), ("unicode/utf8.first", laid_unicode_utf8_first)], narrowed := true }
def TopToldUptoSaid : Prop := topToldUptoRow.holds Tryz.pinned (OpenSpec.upto topToldSpec)

end Rows
end Go.Proofs.YtohacgmhmbijmaaGreatDoor
