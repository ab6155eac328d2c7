/-
  No cell of these rows narrows 'for every input' (looked for: loops, veiled, ifaces, maps, wideKeys, modest, calm, conditions, laid).
  DERIVED. THE GIVEN ROWS OF THIS SEAT. 12 by the template 'for every input the law returns true; each argument reads behind the call as it read before'; 0 by the template 'total and deterministic' (their statements: YtodihnhpibjhmaaTotals.lean).
  GIVEN WITH THE SEED: the statements are not yours to turn. If you find one false, say at which input.
  Laid BY PROGRAM, IN A SANDBOX (cutbox-rows.mjs): the forced cells as the released guide's own fill.sh prints them over the translation 228d9129b4b235a0… (all of the seat's roots in one cut). By AI agents, Wed Nov 11 2026. No macro, syntax, notation, axiom, sorry.
-/
import Derived.Test.YtodihnhpibjhmaaChecked
import GoSem.Claim
import GoSem.ClaimJoined
import GoSem.ClaimMapViews
import Derived.JoinedTies
import Derived.KernelRfl
namespace Go.Proofs.Ytodihnhpibjhmaa
/- THE CELL 'sum', in the pinned program and in every row, IS THE sha256 OF THE DUMP (.gsa) THAT YtodihnhpibjhmaaProg.lean LOADS. Nothing in Lean hashes anything: it is a label: what it is worth is what the hold of that sum in a sandbox is worth. -/
noncomputable def Try.pinned : Pinned := { name := "ytodihnhpibjhmaa", sum := "228d9129b4b235a00caa764d20a9cf063c28f162b6c74d14a1d065c78048c1a3", checked := Try.checked }
namespace Rows
def none {H : Type} : Left H := { results := [], args := [] }

/-- 'mezzotintkeep.TintRises': WHATEVER THE INPUT: true; the input reads as it did. -/
def tintRisesSpec : ChangeSpec := { name := "tintRises", fn := fun _ => fun
  | [d1, d2, d3, d4] => { results := [.lit (.bool true)], args := [d1, d2, d3, d4] }
  | _ => none }
def tintRisesRow : OpenClaim := { program := "ytodihnhpibjhmaa", sum := "228d9129b4b235a00caa764d20a9cf063c28f162b6c74d14a1d065c78048c1a3", func := "mezzotint/mezzotintkeep.TintRises", spec := "tintRises", unfollowed := true, recurses := true, apart := false }
def TintRisesSaid : Prop := tintRisesRow.holds Try.pinned (OpenSpec.ofChange tintRisesSpec)

/-- ITS FALSE NEIGHBOUR: 'it returns false'. Refute it at one input. -/
def tintRisesWrong : ChangeSpec := { name := "tintRises", fn := fun _ => fun
  | [d1, d2, d3, d4] => { results := [.lit (.bool false)], args := [d1, d2, d3, d4] }
  | _ => none }
def TintRisesWrongFalsely : Prop := tintRisesRow.holds Try.pinned (OpenSpec.ofChange tintRisesWrong)

/-- 'mezzotintkeep.TintLight': WHATEVER THE INPUT: true; the input reads as it did. -/
def tintLightSpec : ChangeSpec := { name := "tintLight", fn := fun _ => fun
  | [d1, d2, d3] => { results := [.lit (.bool true)], args := [d1, d2, d3] }
  | _ => none }
def tintLightRow : OpenClaim := { program := "ytodihnhpibjhmaa", sum := "228d9129b4b235a00caa764d20a9cf063c28f162b6c74d14a1d065c78048c1a3", func := "mezzotint/mezzotintkeep.TintLight", spec := "tintLight", recurses := true, apart := false }
def TintLightSaid : Prop := tintLightRow.holds Try.pinned (OpenSpec.ofChange tintLightSpec)

/-- ITS FALSE NEIGHBOUR: 'it returns false'. Refute it at one input. -/
def tintLightWrong : ChangeSpec := { name := "tintLight", fn := fun _ => fun
  | [d1, d2, d3] => { results := [.lit (.bool false)], args := [d1, d2, d3] }
  | _ => none }
def TintLightWrongFalsely : Prop := tintLightRow.holds Try.pinned (OpenSpec.ofChange tintLightWrong)

/-- 'mezzotintkeep.ZigSteps': WHATEVER THE INPUT: true; the input reads as it did. -/
def zigStepsSpec : ChangeSpec := { name := "zigSteps", fn := fun _ => fun
  | [d] => { results := [.lit (.bool true)], args := [d] }
  | _ => none }
def zigStepsRow : OpenClaim := { program := "ytodihnhpibjhmaa", sum := "228d9129b4b235a00caa764d20a9cf063c28f162b6c74d14a1d065c78048c1a3", func := "mezzotint/mezzotintkeep.ZigSteps", spec := "zigSteps", apart := false }
def ZigStepsSaid : Prop := zigStepsRow.holds Try.pinned (OpenSpec.ofChange zigStepsSpec)

/-- ITS FALSE NEIGHBOUR: 'it returns false'. Refute it at one input. -/
def zigStepsWrong : ChangeSpec := { name := "zigSteps", fn := fun _ => fun
  | [d] => { results := [.lit (.bool false)], args := [d] }
  | _ => none }
def ZigStepsWrongFalsely : Prop := zigStepsRow.holds Try.pinned (OpenSpec.ofChange zigStepsWrong)

/-- 'mezzotintkeep.ZigTriangle': WHATEVER THE INPUT: true; the input reads as it did. -/
def zigTriangleSpec : ChangeSpec := { name := "zigTriangle", fn := fun _ => fun
  | [d] => { results := [.lit (.bool true)], args := [d] }
  | _ => none }
def zigTriangleRow : OpenClaim := { program := "ytodihnhpibjhmaa", sum := "228d9129b4b235a00caa764d20a9cf063c28f162b6c74d14a1d065c78048c1a3", func := "mezzotint/mezzotintkeep.ZigTriangle", spec := "zigTriangle", apart := false }
def ZigTriangleSaid : Prop := zigTriangleRow.holds Try.pinned (OpenSpec.ofChange zigTriangleSpec)

/-- ITS FALSE NEIGHBOUR: 'it returns false'. Refute it at one input. -/
def zigTriangleWrong : ChangeSpec := { name := "zigTriangle", fn := fun _ => fun
  | [d] => { results := [.lit (.bool false)], args := [d] }
  | _ => none }
def ZigTriangleWrongFalsely : Prop := zigTriangleRow.holds Try.pinned (OpenSpec.ofChange zigTriangleWrong)

/-- 'mezzotintkeep.BitsRest': WHATEVER THE INPUT: true; the input reads as it did. -/
def bitsRestSpec : ChangeSpec := { name := "bitsRest", fn := fun _ => fun
  | [d] => { results := [.lit (.bool true)], args := [d] }
  | _ => none }
def bitsRestRow : OpenClaim := { program := "ytodihnhpibjhmaa", sum := "228d9129b4b235a00caa764d20a9cf063c28f162b6c74d14a1d065c78048c1a3", func := "mezzotint/mezzotintkeep.BitsRest", spec := "bitsRest", apart := false }
def BitsRestSaid : Prop := bitsRestRow.holds Try.pinned (OpenSpec.ofChange bitsRestSpec)

/-- ITS FALSE NEIGHBOUR: 'it returns false'. Refute it at one input. -/
def bitsRestWrong : ChangeSpec := { name := "bitsRest", fn := fun _ => fun
  | [d] => { results := [.lit (.bool false)], args := [d] }
  | _ => none }
def BitsRestWrongFalsely : Prop := bitsRestRow.holds Try.pinned (OpenSpec.ofChange bitsRestWrong)

/-- 'mezzotintkeep.BitsSplit': WHATEVER THE INPUT: true; the input reads as it did. -/
def bitsSplitSpec : ChangeSpec := { name := "bitsSplit", fn := fun _ => fun
  | [d1, d2, d3] => { results := [.lit (.bool true)], args := [d1, d2, d3] }
  | _ => none }
def bitsSplitRow : OpenClaim := { program := "ytodihnhpibjhmaa", sum := "228d9129b4b235a00caa764d20a9cf063c28f162b6c74d14a1d065c78048c1a3", func := "mezzotint/mezzotintkeep.BitsSplit", spec := "bitsSplit", apart := false }
def BitsSplitSaid : Prop := bitsSplitRow.holds Try.pinned (OpenSpec.ofChange bitsSplitSpec)

/-- ITS FALSE NEIGHBOUR: 'it returns false'. Refute it at one input. -/
def bitsSplitWrong : ChangeSpec := { name := "bitsSplit", fn := fun _ => fun
  | [d1, d2, d3] => { results := [.lit (.bool false)], args := [d1, d2, d3] }
  | _ => none }
def BitsSplitWrongFalsely : Prop := bitsSplitRow.holds Try.pinned (OpenSpec.ofChange bitsSplitWrong)

/-- 'mezzotintkeep.BitsNone': WHATEVER THE INPUT: true; the input reads as it did. -/
def bitsNoneSpec : ChangeSpec := { name := "bitsNone", fn := fun _ => fun
  | [d1, d2, d3] => { results := [.lit (.bool true)], args := [d1, d2, d3] }
  | _ => none }
def bitsNoneRow : OpenClaim := { program := "ytodihnhpibjhmaa", sum := "228d9129b4b235a00caa764d20a9cf063c28f162b6c74d14a1d065c78048c1a3", func := "mezzotint/mezzotintkeep.BitsNone", spec := "bitsNone", apart := false }
def BitsNoneSaid : Prop := bitsNoneRow.holds Try.pinned (OpenSpec.ofChange bitsNoneSpec)

/-- ITS FALSE NEIGHBOUR: 'it returns false'. Refute it at one input. -/
def bitsNoneWrong : ChangeSpec := { name := "bitsNone", fn := fun _ => fun
  | [d1, d2, d3] => { results := [.lit (.bool false)], args := [d1, d2, d3] }
  | _ => none }
def BitsNoneWrongFalsely : Prop := bitsNoneRow.holds Try.pinned (OpenSpec.ofChange bitsNoneWrong)

/-- 'mezzotintkeep.TintGray': WHATEVER THE INPUT: true; the input reads as it did. -/
def tintGraySpec : ChangeSpec := { name := "tintGray", fn := fun _ => fun
  | [d] => { results := [.lit (.bool true)], args := [d] }
  | _ => none }
def tintGrayRow : OpenClaim := { program := "ytodihnhpibjhmaa", sum := "228d9129b4b235a00caa764d20a9cf063c28f162b6c74d14a1d065c78048c1a3", func := "mezzotint/mezzotintkeep.TintGray", spec := "tintGray", recurses := true, apart := false }
def TintGraySaid : Prop := tintGrayRow.holds Try.pinned (OpenSpec.ofChange tintGraySpec)

/-- ITS FALSE NEIGHBOUR: 'it returns false'. Refute it at one input. -/
def tintGrayWrong : ChangeSpec := { name := "tintGray", fn := fun _ => fun
  | [d] => { results := [.lit (.bool false)], args := [d] }
  | _ => none }
def TintGrayWrongFalsely : Prop := tintGrayRow.holds Try.pinned (OpenSpec.ofChange tintGrayWrong)

/-- 'mezzotintkeep.TintBack': WHATEVER THE INPUT: true; the input reads as it did. -/
def tintBackSpec : ChangeSpec := { name := "tintBack", fn := fun _ => fun
  | [d1, d2, d3] => { results := [.lit (.bool true)], args := [d1, d2, d3] }
  | _ => none }
def tintBackRow : OpenClaim := { program := "ytodihnhpibjhmaa", sum := "228d9129b4b235a00caa764d20a9cf063c28f162b6c74d14a1d065c78048c1a3", func := "mezzotint/mezzotintkeep.TintBack", spec := "tintBack", unfollowed := true, recurses := true, apart := false }
def TintBackSaid : Prop := tintBackRow.holds Try.pinned (OpenSpec.ofChange tintBackSpec)

/-- ITS FALSE NEIGHBOUR: 'it returns false'. Refute it at one input. -/
def tintBackWrong : ChangeSpec := { name := "tintBack", fn := fun _ => fun
  | [d1, d2, d3] => { results := [.lit (.bool false)], args := [d1, d2, d3] }
  | _ => none }
def TintBackWrongFalsely : Prop := tintBackRow.holds Try.pinned (OpenSpec.ofChange tintBackWrong)

/-- 'mezzotintkeep.ZigMoves': WHATEVER THE INPUT: true; the input reads as it did. -/
def zigMovesSpec : ChangeSpec := { name := "zigMoves", fn := fun _ => fun
  | [d1, d2] => { results := [.lit (.bool true)], args := [d1, d2] }
  | _ => none }
def zigMovesRow : OpenClaim := { program := "ytodihnhpibjhmaa", sum := "228d9129b4b235a00caa764d20a9cf063c28f162b6c74d14a1d065c78048c1a3", func := "mezzotint/mezzotintkeep.ZigMoves", spec := "zigMoves", apart := false }
def ZigMovesSaid : Prop := zigMovesRow.holds Try.pinned (OpenSpec.ofChange zigMovesSpec)

/-- ITS FALSE NEIGHBOUR: 'it returns false'. Refute it at one input. -/
def zigMovesWrong : ChangeSpec := { name := "zigMoves", fn := fun _ => fun
  | [d1, d2] => { results := [.lit (.bool false)], args := [d1, d2] }
  | _ => none }
def ZigMovesWrongFalsely : Prop := zigMovesRow.holds Try.pinned (OpenSpec.ofChange zigMovesWrong)

/-- 'mezzotintkeep.ZigBack': WHATEVER THE INPUT: true; the input reads as it did. -/
def zigBackSpec : ChangeSpec := { name := "zigBack", fn := fun _ => fun
  | [d] => { results := [.lit (.bool true)], args := [d] }
  | _ => none }
def zigBackRow : OpenClaim := { program := "ytodihnhpibjhmaa", sum := "228d9129b4b235a00caa764d20a9cf063c28f162b6c74d14a1d065c78048c1a3", func := "mezzotint/mezzotintkeep.ZigBack", spec := "zigBack", apart := false }
def ZigBackSaid : Prop := zigBackRow.holds Try.pinned (OpenSpec.ofChange zigBackSpec)

/-- ITS FALSE NEIGHBOUR: 'it returns false'. Refute it at one input. -/
def zigBackWrong : ChangeSpec := { name := "zigBack", fn := fun _ => fun
  | [d] => { results := [.lit (.bool false)], args := [d] }
  | _ => none }
def ZigBackWrongFalsely : Prop := zigBackRow.holds Try.pinned (OpenSpec.ofChange zigBackWrong)

/-- 'mezzotintkeep.QuantOdd': WHATEVER THE INPUT: true; the input reads as it did. -/
def quantOddSpec : ChangeSpec := { name := "quantOdd", fn := fun _ => fun
  | [d1, d2] => { results := [.lit (.bool true)], args := [d1, d2] }
  | _ => none }
def quantOddRow : OpenClaim := { program := "ytodihnhpibjhmaa", sum := "228d9129b4b235a00caa764d20a9cf063c28f162b6c74d14a1d065c78048c1a3", func := "mezzotint/mezzotintkeep.QuantOdd", spec := "quantOdd", unfollowed := true, recurses := true, apart := false }
def QuantOddSaid : Prop := quantOddRow.holds Try.pinned (OpenSpec.ofChange quantOddSpec)

/-- ITS FALSE NEIGHBOUR: 'it returns false'. Refute it at one input. -/
def quantOddWrong : ChangeSpec := { name := "quantOdd", fn := fun _ => fun
  | [d1, d2] => { results := [.lit (.bool false)], args := [d1, d2] }
  | _ => none }
def QuantOddWrongFalsely : Prop := quantOddRow.holds Try.pinned (OpenSpec.ofChange quantOddWrong)

/- THE SECOND FORM. 'bulk': how many values and letters a reading holds, each counted each time it is reached (what is shared counts as often as it is met; a slice's spare places count too). A statement '..UptoSaid' is the law's where the arguments, and the package variables that the reading takes, are together of bulk at most 1048576: NARROWER than '..Said'. Prove '..Said' where nothing that the law and all that it calls make is longer than what came in: it says more and counts as full. Else prove '..UptoSaid'. A law counts once. -/
mutual
def uptoBulk {H : Type} : DataW H → Nat
  | .lit (.string bytes) => bytes.length + 1
  | .lit _ => 1
  | .nil => 1
  | .ptr d => uptoBulk d + 1
  | .slice elems spare => uptoBulkAll elems + uptoBulkAll spare + 1
  | .agg parts => uptoBulkAll parts + 1
  | .iface _ d => uptoBulk d + 1
  | .map entries => uptoBulkEntries entries + 1
  | .held _ => 1
def uptoBulkAll {H : Type} : List (DataW H) → Nat
  | [] => 0
  | d :: r => uptoBulk d + uptoBulkAll r
def uptoBulkEntries {H : Type} : List (Lit × DataW H) → Nat
  | [] => 0
  | x :: r => uptoBulkEntry x + uptoBulkEntries r
def uptoBulkEntry {H : Type} : Lit × DataW H → Nat
  | (.string bytes, d) => bytes.length + uptoBulk d + 1
  | (_, d) => uptoBulk d + 1
 end
def uptoSmall : (H : Type) → List (DataW H) → Bool := fun _ ds => decide (uptoBulkAll ds ≤ 1048576)
def OpenSpec.upto (s : _root_.Go.ChangeSpec) : _root_.Go.OpenSpec := { _root_.Go.OpenSpec.ofChange s with cond := some uptoSmall }

/-- 'mezzotintkeep.TintRises', WHERE WHAT IT READS IS OF BULK AT MOST 1048576: true; the input reads as it did. -/
def tintRisesUptoRow : OpenClaim := { program := "ytodihnhpibjhmaa", sum := "228d9129b4b235a00caa764d20a9cf063c28f162b6c74d14a1d065c78048c1a3", func := "mezzotint/mezzotintkeep.TintRises", spec := "tintRises", unfollowed := true, recurses := true, apart := false, narrowed := true }
def TintRisesUptoSaid : Prop := tintRisesUptoRow.holds Try.pinned (OpenSpec.upto tintRisesSpec)

/-- 'mezzotintkeep.TintLight', WHERE WHAT IT READS IS OF BULK AT MOST 1048576: true; the input reads as it did. -/
def tintLightUptoRow : OpenClaim := { program := "ytodihnhpibjhmaa", sum := "228d9129b4b235a00caa764d20a9cf063c28f162b6c74d14a1d065c78048c1a3", func := "mezzotint/mezzotintkeep.TintLight", spec := "tintLight", recurses := true, apart := false, narrowed := true }
def TintLightUptoSaid : Prop := tintLightUptoRow.holds Try.pinned (OpenSpec.upto tintLightSpec)

/-- 'mezzotintkeep.ZigSteps', WHERE WHAT IT READS IS OF BULK AT MOST 1048576: true; the input reads as it did. -/
def zigStepsUptoRow : OpenClaim := { program := "ytodihnhpibjhmaa", sum := "228d9129b4b235a00caa764d20a9cf063c28f162b6c74d14a1d065c78048c1a3", func := "mezzotint/mezzotintkeep.ZigSteps", spec := "zigSteps", apart := false, narrowed := true }
def ZigStepsUptoSaid : Prop := zigStepsUptoRow.holds Try.pinned (OpenSpec.upto zigStepsSpec)

/-- 'mezzotintkeep.ZigTriangle', WHERE WHAT IT READS IS OF BULK AT MOST 1048576: true; the input reads as it did. -/
def zigTriangleUptoRow : OpenClaim := { program := "ytodihnhpibjhmaa", sum := "228d9129b4b235a00caa764d20a9cf063c28f162b6c74d14a1d065c78048c1a3", func := "mezzotint/mezzotintkeep.ZigTriangle", spec := "zigTriangle", apart := false, narrowed := true }
def ZigTriangleUptoSaid : Prop := zigTriangleUptoRow.holds Try.pinned (OpenSpec.upto zigTriangleSpec)

/-- 'mezzotintkeep.BitsRest', WHERE WHAT IT READS IS OF BULK AT MOST 1048576: true; the input reads as it did. -/
def bitsRestUptoRow : OpenClaim := { program := "ytodihnhpibjhmaa", sum := "228d9129b4b235a00caa764d20a9cf063c28f162b6c74d14a1d065c78048c1a3", func := "mezzotint/mezzotintkeep.BitsRest", spec := "bitsRest", apart := false, narrowed := true }
def BitsRestUptoSaid : Prop := bitsRestUptoRow.holds Try.pinned (OpenSpec.upto bitsRestSpec)

/-- 'mezzotintkeep.BitsSplit', WHERE WHAT IT READS IS OF BULK AT MOST 1048576: true; the input reads as it did. -/
def bitsSplitUptoRow : OpenClaim := { program := "ytodihnhpibjhmaa", sum := "228d9129b4b235a00caa764d20a9cf063c28f162b6c74d14a1d065c78048c1a3", func := "mezzotint/mezzotintkeep.BitsSplit", spec := "bitsSplit", apart := false, narrowed := true }
def BitsSplitUptoSaid : Prop := bitsSplitUptoRow.holds Try.pinned (OpenSpec.upto bitsSplitSpec)

/-- 'mezzotintkeep.BitsNone', WHERE WHAT IT READS IS OF BULK AT MOST 1048576: true; the input reads as it did. -/
def bitsNoneUptoRow : OpenClaim := { program := "ytodihnhpibjhmaa", sum := "228d9129b4b235a00caa764d20a9cf063c28f162b6c74d14a1d065c78048c1a3", func := "mezzotint/mezzotintkeep.BitsNone", spec := "bitsNone", apart := false, narrowed := true }
def BitsNoneUptoSaid : Prop := bitsNoneUptoRow.holds Try.pinned (OpenSpec.upto bitsNoneSpec)

/-- 'mezzotintkeep.TintGray', WHERE WHAT IT READS IS OF BULK AT MOST 1048576: true; the input reads as it did. -/
def tintGrayUptoRow : OpenClaim := { program := "ytodihnhpibjhmaa", sum := "228d9129b4b235a00caa764d20a9cf063c28f162b6c74d14a1d065c78048c1a3", func := "mezzotint/mezzotintkeep.TintGray", spec := "tintGray", recurses := true, apart := false, narrowed := true }
def TintGrayUptoSaid : Prop := tintGrayUptoRow.holds Try.pinned (OpenSpec.upto tintGraySpec)

/-- 'mezzotintkeep.TintBack', WHERE WHAT IT READS IS OF BULK AT MOST 1048576: true; the input reads as it did. -/
def tintBackUptoRow : OpenClaim := { program := "ytodihnhpibjhmaa", sum := "228d9129b4b235a00caa764d20a9cf063c28f162b6c74d14a1d065c78048c1a3", func := "mezzotint/mezzotintkeep.TintBack", spec := "tintBack", unfollowed := true, recurses := true, apart := false, narrowed := true }
def TintBackUptoSaid : Prop := tintBackUptoRow.holds Try.pinned (OpenSpec.upto tintBackSpec)

/-- 'mezzotintkeep.ZigMoves', WHERE WHAT IT READS IS OF BULK AT MOST 1048576: true; the input reads as it did. -/
def zigMovesUptoRow : OpenClaim := { program := "ytodihnhpibjhmaa", sum := "228d9129b4b235a00caa764d20a9cf063c28f162b6c74d14a1d065c78048c1a3", func := "mezzotint/mezzotintkeep.ZigMoves", spec := "zigMoves", apart := false, narrowed := true }
def ZigMovesUptoSaid : Prop := zigMovesUptoRow.holds Try.pinned (OpenSpec.upto zigMovesSpec)

/-- 'mezzotintkeep.ZigBack', WHERE WHAT IT READS IS OF BULK AT MOST 1048576: true; the input reads as it did. -/
def zigBackUptoRow : OpenClaim := { program := "ytodihnhpibjhmaa", sum := "228d9129b4b235a00caa764d20a9cf063c28f162b6c74d14a1d065c78048c1a3", func := "mezzotint/mezzotintkeep.ZigBack", spec := "zigBack", apart := false, narrowed := true }
def ZigBackUptoSaid : Prop := zigBackUptoRow.holds Try.pinned (OpenSpec.upto zigBackSpec)

/-- 'mezzotintkeep.QuantOdd', WHERE WHAT IT READS IS OF BULK AT MOST 1048576: true; the input reads as it did. -/
def quantOddUptoRow : OpenClaim := { program := "ytodihnhpibjhmaa", sum := "228d9129b4b235a00caa764d20a9cf063c28f162b6c74d14a1d065c78048c1a3", func := "mezzotint/mezzotintkeep.QuantOdd", spec := "quantOdd", unfollowed := true, recurses := true, apart := false, narrowed := true }
def QuantOddUptoSaid : Prop := quantOddUptoRow.holds Try.pinned (OpenSpec.upto quantOddSpec)

end Rows
end Go.Proofs.Ytodihnhpibjhmaa
