/-
  No cell of these rows narrows 'for every input' (looked for: loops, veiled, ifaces, maps, wideKeys, modest, calm, conditions, laid).
  DERIVED. THE GIVEN ROWS OF THIS SEAT. 12 by the template 'for every input the law returns true; each argument reads behind the call as it read before'; 0 by the template 'total and deterministic' (their statements: YtgnpppcljpjkjaaTotals.lean).
  GIVEN WITH THE SEED: the statements are not yours to turn. If you find one false, say at which input.
  Laid BY PROGRAM, IN A SANDBOX (cutbox-rows.mjs): the forced cells as the released guide's own fill.sh prints them over the translation 8d1b6d023df2ab08… (all of the seat's roots in one cut). By AI agents, Wed Nov 11 2026. No macro, syntax, notation, axiom, sorry.
-/
import Derived.Test.YtgnpppcljpjkjaaChecked
import GoSem.Claim
import GoSem.ClaimJoined
import GoSem.ClaimMapViews
import Derived.JoinedTies
import Derived.KernelRfl
namespace Go.Proofs.Ytgnpppcljpjkjaa
/- THE CELL 'sum', in the pinned program and in every row, IS THE sha256 OF THE DUMP (.gsa) THAT YtgnpppcljpjkjaaProg.lean LOADS. Nothing in Lean hashes anything: it is a label: what it is worth is what the hold of that sum in a sandbox is worth. -/
noncomputable def Try.pinned : Pinned := { name := "ytgnpppcljpjkjaa", sum := "8d1b6d023df2ab08f2b8d79966e386bf8189c4ade0f652da866feca3d434334d", checked := Try.checked }
namespace Rows
def none {H : Type} : Left H := { results := [], args := [] }

/-- 'mezzotintkeep.PlaneClamp': WHATEVER THE INPUT: true; the input reads as it did. -/
def planeClampSpec : ChangeSpec := { name := "planeClamp", fn := fun _ => fun
  | [d1, d2, d3] => { results := [.lit (.bool true)], args := [d1, d2, d3] }
  | _ => none }
def planeClampRow : OpenClaim := { program := "ytgnpppcljpjkjaa", sum := "8d1b6d023df2ab08f2b8d79966e386bf8189c4ade0f652da866feca3d434334d", func := "mezzotint/mezzotintkeep.PlaneClamp", spec := "planeClamp", unfollowed := true, recurses := true, apart := false }
def PlaneClampSaid : Prop := planeClampRow.holds Try.pinned (OpenSpec.ofChange planeClampSpec)

/-- ITS FALSE NEIGHBOUR: 'it returns false'. Refute it at one input. -/
def planeClampWrong : ChangeSpec := { name := "planeClamp", fn := fun _ => fun
  | [d1, d2, d3] => { results := [.lit (.bool false)], args := [d1, d2, d3] }
  | _ => none }
def PlaneClampWrongFalsely : Prop := planeClampRow.holds Try.pinned (OpenSpec.ofChange planeClampWrong)

/-- 'mezzotintkeep.WaveMirror': WHATEVER THE INPUT: true; the input reads as it did. -/
def waveMirrorSpec : ChangeSpec := { name := "waveMirror", fn := fun _ => fun
  | [d] => { results := [.lit (.bool true)], args := [d] }
  | _ => none }
def waveMirrorRow : OpenClaim := { program := "ytgnpppcljpjkjaa", sum := "8d1b6d023df2ab08f2b8d79966e386bf8189c4ade0f652da866feca3d434334d", func := "mezzotint/mezzotintkeep.WaveMirror", spec := "waveMirror", unfollowed := true, recurses := true, apart := false }
def WaveMirrorSaid : Prop := waveMirrorRow.holds Try.pinned (OpenSpec.ofChange waveMirrorSpec)

/-- ITS FALSE NEIGHBOUR: 'it returns false'. Refute it at one input. -/
def waveMirrorWrong : ChangeSpec := { name := "waveMirror", fn := fun _ => fun
  | [d] => { results := [.lit (.bool false)], args := [d] }
  | _ => none }
def WaveMirrorWrongFalsely : Prop := waveMirrorRow.holds Try.pinned (OpenSpec.ofChange waveMirrorWrong)

/-- 'mezzotintkeep.WaveApart': WHATEVER THE INPUT: true; the input reads as it did. -/
def waveApartSpec : ChangeSpec := { name := "waveApart", fn := fun _ => fun
  | [d1, d2] => { results := [.lit (.bool true)], args := [d1, d2] }
  | _ => none }
def waveApartRow : OpenClaim := { program := "ytgnpppcljpjkjaa", sum := "8d1b6d023df2ab08f2b8d79966e386bf8189c4ade0f652da866feca3d434334d", func := "mezzotint/mezzotintkeep.WaveApart", spec := "waveApart", unfollowed := true, recurses := true, apart := false }
def WaveApartSaid : Prop := waveApartRow.holds Try.pinned (OpenSpec.ofChange waveApartSpec)

/-- ITS FALSE NEIGHBOUR: 'it returns false'. Refute it at one input. -/
def waveApartWrong : ChangeSpec := { name := "waveApart", fn := fun _ => fun
  | [d1, d2] => { results := [.lit (.bool false)], args := [d1, d2] }
  | _ => none }
def WaveApartWrongFalsely : Prop := waveApartRow.holds Try.pinned (OpenSpec.ofChange waveApartWrong)

/-- 'mezzotintkeep.WaveAdds': WHATEVER THE INPUT: true; the input reads as it did. -/
def waveAddsSpec : ChangeSpec := { name := "waveAdds", fn := fun _ => fun
  | [d1, d2] => { results := [.lit (.bool true)], args := [d1, d2] }
  | _ => none }
def waveAddsRow : OpenClaim := { program := "ytgnpppcljpjkjaa", sum := "8d1b6d023df2ab08f2b8d79966e386bf8189c4ade0f652da866feca3d434334d", func := "mezzotint/mezzotintkeep.WaveAdds", spec := "waveAdds", unfollowed := true, recurses := true, apart := false }
def WaveAddsSaid : Prop := waveAddsRow.holds Try.pinned (OpenSpec.ofChange waveAddsSpec)

/-- ITS FALSE NEIGHBOUR: 'it returns false'. Refute it at one input. -/
def waveAddsWrong : ChangeSpec := { name := "waveAdds", fn := fun _ => fun
  | [d1, d2] => { results := [.lit (.bool false)], args := [d1, d2] }
  | _ => none }
def WaveAddsWrongFalsely : Prop := waveAddsRow.holds Try.pinned (OpenSpec.ofChange waveAddsWrong)

/-- 'mezzotintkeep.WaveLine': WHATEVER THE INPUT: true; the input reads as it did. -/
def waveLineSpec : ChangeSpec := { name := "waveLine", fn := fun _ => fun
  | [d] => { results := [.lit (.bool true)], args := [d] }
  | _ => none }
def waveLineRow : OpenClaim := { program := "ytgnpppcljpjkjaa", sum := "8d1b6d023df2ab08f2b8d79966e386bf8189c4ade0f652da866feca3d434334d", func := "mezzotint/mezzotintkeep.WaveLine", spec := "waveLine", unfollowed := true, recurses := true, apart := false }
def WaveLineSaid : Prop := waveLineRow.holds Try.pinned (OpenSpec.ofChange waveLineSpec)

/-- ITS FALSE NEIGHBOUR: 'it returns false'. Refute it at one input. -/
def waveLineWrong : ChangeSpec := { name := "waveLine", fn := fun _ => fun
  | [d] => { results := [.lit (.bool false)], args := [d] }
  | _ => none }
def WaveLineWrongFalsely : Prop := waveLineRow.holds Try.pinned (OpenSpec.ofChange waveLineWrong)

/-- 'mezzotintkeep.WaveFlat': WHATEVER THE INPUT: true; the input reads as it did. -/
def waveFlatSpec : ChangeSpec := { name := "waveFlat", fn := fun _ => fun
  | [d] => { results := [.lit (.bool true)], args := [d] }
  | _ => none }
def waveFlatRow : OpenClaim := { program := "ytgnpppcljpjkjaa", sum := "8d1b6d023df2ab08f2b8d79966e386bf8189c4ade0f652da866feca3d434334d", func := "mezzotint/mezzotintkeep.WaveFlat", spec := "waveFlat", unfollowed := true, recurses := true, apart := false }
def WaveFlatSaid : Prop := waveFlatRow.holds Try.pinned (OpenSpec.ofChange waveFlatSpec)

/-- ITS FALSE NEIGHBOUR: 'it returns false'. Refute it at one input. -/
def waveFlatWrong : ChangeSpec := { name := "waveFlat", fn := fun _ => fun
  | [d] => { results := [.lit (.bool false)], args := [d] }
  | _ => none }
def WaveFlatWrongFalsely : Prop := waveFlatRow.holds Try.pinned (OpenSpec.ofChange waveFlatWrong)

/-- 'mezzotintkeep.WaveOdd': WHATEVER THE INPUT: true; the input reads as it did. -/
def waveOddSpec : ChangeSpec := { name := "waveOdd", fn := fun _ => fun
  | [d] => { results := [.lit (.bool true)], args := [d] }
  | _ => none }
def waveOddRow : OpenClaim := { program := "ytgnpppcljpjkjaa", sum := "8d1b6d023df2ab08f2b8d79966e386bf8189c4ade0f652da866feca3d434334d", func := "mezzotint/mezzotintkeep.WaveOdd", spec := "waveOdd", unfollowed := true, recurses := true, apart := false }
def WaveOddSaid : Prop := waveOddRow.holds Try.pinned (OpenSpec.ofChange waveOddSpec)

/-- ITS FALSE NEIGHBOUR: 'it returns false'. Refute it at one input. -/
def waveOddWrong : ChangeSpec := { name := "waveOdd", fn := fun _ => fun
  | [d] => { results := [.lit (.bool false)], args := [d] }
  | _ => none }
def WaveOddWrongFalsely : Prop := waveOddRow.holds Try.pinned (OpenSpec.ofChange waveOddWrong)

/-- 'mezzotintkeep.WaveAcross': WHATEVER THE INPUT: true; the input reads as it did. -/
def waveAcrossSpec : ChangeSpec := { name := "waveAcross", fn := fun _ => fun
  | [d] => { results := [.lit (.bool true)], args := [d] }
  | _ => none }
def waveAcrossRow : OpenClaim := { program := "ytgnpppcljpjkjaa", sum := "8d1b6d023df2ab08f2b8d79966e386bf8189c4ade0f652da866feca3d434334d", func := "mezzotint/mezzotintkeep.WaveAcross", spec := "waveAcross", unfollowed := true, recurses := true, apart := false }
def WaveAcrossSaid : Prop := waveAcrossRow.holds Try.pinned (OpenSpec.ofChange waveAcrossSpec)

/-- ITS FALSE NEIGHBOUR: 'it returns false'. Refute it at one input. -/
def waveAcrossWrong : ChangeSpec := { name := "waveAcross", fn := fun _ => fun
  | [d] => { results := [.lit (.bool false)], args := [d] }
  | _ => none }
def WaveAcrossWrongFalsely : Prop := waveAcrossRow.holds Try.pinned (OpenSpec.ofChange waveAcrossWrong)

/-- 'mezzotintkeep.WaveNear': WHATEVER THE INPUT: true; the input reads as it did. -/
def waveNearSpec : ChangeSpec := { name := "waveNear", fn := fun _ => fun
  | [d] => { results := [.lit (.bool true)], args := [d] }
  | _ => none }
def waveNearRow : OpenClaim := { program := "ytgnpppcljpjkjaa", sum := "8d1b6d023df2ab08f2b8d79966e386bf8189c4ade0f652da866feca3d434334d", func := "mezzotint/mezzotintkeep.WaveNear", spec := "waveNear", unfollowed := true, recurses := true, apart := false }
def WaveNearSaid : Prop := waveNearRow.holds Try.pinned (OpenSpec.ofChange waveNearSpec)

/-- ITS FALSE NEIGHBOUR: 'it returns false'. Refute it at one input. -/
def waveNearWrong : ChangeSpec := { name := "waveNear", fn := fun _ => fun
  | [d] => { results := [.lit (.bool false)], args := [d] }
  | _ => none }
def WaveNearWrongFalsely : Prop := waveNearRow.holds Try.pinned (OpenSpec.ofChange waveNearWrong)

/-- 'mezzotintkeep.WaveSingle': WHATEVER THE INPUT: true; the input reads as it did. -/
def waveSingleSpec : ChangeSpec := { name := "waveSingle", fn := fun _ => fun
  | [d1, d2] => { results := [.lit (.bool true)], args := [d1, d2] }
  | _ => none }
def waveSingleRow : OpenClaim := { program := "ytgnpppcljpjkjaa", sum := "8d1b6d023df2ab08f2b8d79966e386bf8189c4ade0f652da866feca3d434334d", func := "mezzotint/mezzotintkeep.WaveSingle", spec := "waveSingle", unfollowed := true, recurses := true, apart := false }
def WaveSingleSaid : Prop := waveSingleRow.holds Try.pinned (OpenSpec.ofChange waveSingleSpec)

/-- ITS FALSE NEIGHBOUR: 'it returns false'. Refute it at one input. -/
def waveSingleWrong : ChangeSpec := { name := "waveSingle", fn := fun _ => fun
  | [d1, d2] => { results := [.lit (.bool false)], args := [d1, d2] }
  | _ => none }
def WaveSingleWrongFalsely : Prop := waveSingleRow.holds Try.pinned (OpenSpec.ofChange waveSingleWrong)

/-- 'mezzotintkeep.BitsBack': WHATEVER THE INPUT: true; the input reads as it did. -/
def bitsBackSpec : ChangeSpec := { name := "bitsBack", fn := fun _ => fun
  | [d] => { results := [.lit (.bool true)], args := [d] }
  | _ => none }
def bitsBackRow : OpenClaim := { program := "ytgnpppcljpjkjaa", sum := "8d1b6d023df2ab08f2b8d79966e386bf8189c4ade0f652da866feca3d434334d", func := "mezzotint/mezzotintkeep.BitsBack", spec := "bitsBack", apart := false }
def BitsBackSaid : Prop := bitsBackRow.holds Try.pinned (OpenSpec.ofChange bitsBackSpec)

/-- ITS FALSE NEIGHBOUR: 'it returns false'. Refute it at one input. -/
def bitsBackWrong : ChangeSpec := { name := "bitsBack", fn := fun _ => fun
  | [d] => { results := [.lit (.bool false)], args := [d] }
  | _ => none }
def BitsBackWrongFalsely : Prop := bitsBackRow.holds Try.pinned (OpenSpec.ofChange bitsBackWrong)

/-- 'mezzotintkeep.BitsAgain': WHATEVER THE INPUT: true; the input reads as it did. -/
def bitsAgainSpec : ChangeSpec := { name := "bitsAgain", fn := fun _ => fun
  | [d1, d2] => { results := [.lit (.bool true)], args := [d1, d2] }
  | _ => none }
def bitsAgainRow : OpenClaim := { program := "ytgnpppcljpjkjaa", sum := "8d1b6d023df2ab08f2b8d79966e386bf8189c4ade0f652da866feca3d434334d", func := "mezzotint/mezzotintkeep.BitsAgain", spec := "bitsAgain", apart := false }
def BitsAgainSaid : Prop := bitsAgainRow.holds Try.pinned (OpenSpec.ofChange bitsAgainSpec)

/-- ITS FALSE NEIGHBOUR: 'it returns false'. Refute it at one input. -/
def bitsAgainWrong : ChangeSpec := { name := "bitsAgain", fn := fun _ => fun
  | [d1, d2] => { results := [.lit (.bool false)], args := [d1, d2] }
  | _ => none }
def BitsAgainWrongFalsely : Prop := bitsAgainRow.holds Try.pinned (OpenSpec.ofChange bitsAgainWrong)

/- THE SECOND FORM. 'bulk': how many values and letters a reading holds, each counted each time it is reached (what is shared counts as often as it is met; a slice's spare places count too). A statement '..UptoSaid' is the law's where the arguments, and the package variables that the reading takes, are together of bulk at most 1048576: NARROWER than '..Said'. Prove '..Said' where nothing that the law and all that it calls make is longer than what came in: it says more and counts as full. Else prove '..UptoSaid'. A law counts once. -/
mutual
def uptoBulk {H : Type} : DataW H → Nat
  | .lit (.string bytes) => bytes.length + 1
  | .lit _ => 1
  | .nil => 1
  | .ptr d => uptoBulk d + 1
  | .slice elems spare => uptoBulkAll elems + uptoBulkAll spare + 1
  | .agg parts => uptoBulkAll parts + 1
  | .iface _ d => uptoBulk d + 1
  | .map entries => uptoBulkEntries entries + 1
  | .held _ => 1
def uptoBulkAll {H : Type} : List (DataW H) → Nat
  | [] => 0
  | d :: r => uptoBulk d + uptoBulkAll r
def uptoBulkEntries {H : Type} : List (Lit × DataW H) → Nat
  | [] => 0
  | x :: r => uptoBulkEntry x + uptoBulkEntries r
def uptoBulkEntry {H : Type} : Lit × DataW H → Nat
  | (.string bytes, d) => bytes.length + uptoBulk d + 1
  | (_, d) => uptoBulk d + 1
 end
def uptoSmall : (H : Type) → List (DataW H) → Bool := fun _ ds => decide (uptoBulkAll ds ≤ 1048576)
def OpenSpec.upto (s : _root_.Go.ChangeSpec) : _root_.Go.OpenSpec := { _root_.Go.OpenSpec.ofChange s with cond := some uptoSmall }

/-- 'mezzotintkeep.PlaneClamp', WHERE WHAT IT READS IS OF BULK AT MOST 1048576: true; the input reads as it did. -/
def planeClampUptoRow : OpenClaim := { program := "ytgnpppcljpjkjaa", sum := "8d1b6d023df2ab08f2b8d79966e386bf8189c4ade0f652da866feca3d434334d", func := "mezzotint/mezzotintkeep.PlaneClamp", spec := "planeClamp", unfollowed := true, recurses := true, apart := false, narrowed := true }
def PlaneClampUptoSaid : Prop := planeClampUptoRow.holds Try.pinned (OpenSpec.upto planeClampSpec)

/-- 'mezzotintkeep.WaveMirror', WHERE WHAT IT READS IS OF BULK AT MOST 1048576: true; the input reads as it did. -/
def waveMirrorUptoRow : OpenClaim := { program := "ytgnpppcljpjkjaa", sum := "8d1b6d023df2ab08f2b8d79966e386bf8189c4ade0f652da866feca3d434334d", func := "mezzotint/mezzotintkeep.WaveMirror", spec := "waveMirror", unfollowed := true, recurses := true, apart := false, narrowed := true }
def WaveMirrorUptoSaid : Prop := waveMirrorUptoRow.holds Try.pinned (OpenSpec.upto waveMirrorSpec)

/-- 'mezzotintkeep.WaveApart', WHERE WHAT IT READS IS OF BULK AT MOST 1048576: true; the input reads as it did. -/
def waveApartUptoRow : OpenClaim := { program := "ytgnpppcljpjkjaa", sum := "8d1b6d023df2ab08f2b8d79966e386bf8189c4ade0f652da866feca3d434334d", func := "mezzotint/mezzotintkeep.WaveApart", spec := "waveApart", unfollowed := true, recurses := true, apart := false, narrowed := true }
def WaveApartUptoSaid : Prop := waveApartUptoRow.holds Try.pinned (OpenSpec.upto waveApartSpec)

/-- 'mezzotintkeep.WaveAdds', WHERE WHAT IT READS IS OF BULK AT MOST 1048576: true; the input reads as it did. -/
def waveAddsUptoRow : OpenClaim := { program := "ytgnpppcljpjkjaa", sum := "8d1b6d023df2ab08f2b8d79966e386bf8189c4ade0f652da866feca3d434334d", func := "mezzotint/mezzotintkeep.WaveAdds", spec := "waveAdds", unfollowed := true, recurses := true, apart := false, narrowed := true }
def WaveAddsUptoSaid : Prop := waveAddsUptoRow.holds Try.pinned (OpenSpec.upto waveAddsSpec)

/-- 'mezzotintkeep.WaveLine', WHERE WHAT IT READS IS OF BULK AT MOST 1048576: true; the input reads as it did. -/
def waveLineUptoRow : OpenClaim := { program := "ytgnpppcljpjkjaa", sum := "8d1b6d023df2ab08f2b8d79966e386bf8189c4ade0f652da866feca3d434334d", func := "mezzotint/mezzotintkeep.WaveLine", spec := "waveLine", unfollowed := true, recurses := true, apart := false, narrowed := true }
def WaveLineUptoSaid : Prop := waveLineUptoRow.holds Try.pinned (OpenSpec.upto waveLineSpec)

/-- 'mezzotintkeep.WaveFlat', WHERE WHAT IT READS IS OF BULK AT MOST 1048576: true; the input reads as it did. -/
def waveFlatUptoRow : OpenClaim := { program := "ytgnpppcljpjkjaa", sum := "8d1b6d023df2ab08f2b8d79966e386bf8189c4ade0f652da866feca3d434334d", func := "mezzotint/mezzotintkeep.WaveFlat", spec := "waveFlat", unfollowed := true, recurses := true, apart := false, narrowed := true }
def WaveFlatUptoSaid : Prop := waveFlatUptoRow.holds Try.pinned (OpenSpec.upto waveFlatSpec)

/-- 'mezzotintkeep.WaveOdd', WHERE WHAT IT READS IS OF BULK AT MOST 1048576: true; the input reads as it did. -/
def waveOddUptoRow : OpenClaim := { program := "ytgnpppcljpjkjaa", sum := "8d1b6d023df2ab08f2b8d79966e386bf8189c4ade0f652da866feca3d434334d", func := "mezzotint/mezzotintkeep.WaveOdd", spec := "waveOdd", unfollowed := true, recurses := true, apart := false, narrowed := true }
def WaveOddUptoSaid : Prop := waveOddUptoRow.holds Try.pinned (OpenSpec.upto waveOddSpec)

/-- 'mezzotintkeep.WaveAcross', WHERE WHAT IT READS IS OF BULK AT MOST 1048576: true; the input reads as it did. -/
def waveAcrossUptoRow : OpenClaim := { program := "ytgnpppcljpjkjaa", sum := "8d1b6d023df2ab08f2b8d79966e386bf8189c4ade0f652da866feca3d434334d", func := "mezzotint/mezzotintkeep.WaveAcross", spec := "waveAcross", unfollowed := true, recurses := true, apart := false, narrowed := true }
def WaveAcrossUptoSaid : Prop := waveAcrossUptoRow.holds Try.pinned (OpenSpec.upto waveAcrossSpec)

/-- 'mezzotintkeep.WaveNear', WHERE WHAT IT READS IS OF BULK AT MOST 1048576: true; the input reads as it did. -/
def waveNearUptoRow : OpenClaim := { program := "ytgnpppcljpjkjaa", sum := "8d1b6d023df2ab08f2b8d79966e386bf8189c4ade0f652da866feca3d434334d", func := "mezzotint/mezzotintkeep.WaveNear", spec := "waveNear", unfollowed := true, recurses := true, apart := false, narrowed := true }
def WaveNearUptoSaid : Prop := waveNearUptoRow.holds Try.pinned (OpenSpec.upto waveNearSpec)

/-- 'mezzotintkeep.WaveSingle', WHERE WHAT IT READS IS OF BULK AT MOST 1048576: true; the input reads as it did. -/
def waveSingleUptoRow : OpenClaim := { program := "ytgnpppcljpjkjaa", sum := "8d1b6d023df2ab08f2b8d79966e386bf8189c4ade0f652da866feca3d434334d", func := "mezzotint/mezzotintkeep.WaveSingle", spec := "waveSingle", unfollowed := true, recurses := true, apart := false, narrowed := true }
def WaveSingleUptoSaid : Prop := waveSingleUptoRow.holds Try.pinned (OpenSpec.upto waveSingleSpec)

/-- 'mezzotintkeep.BitsBack', WHERE WHAT IT READS IS OF BULK AT MOST 1048576: true; the input reads as it did. -/
def bitsBackUptoRow : OpenClaim := { program := "ytgnpppcljpjkjaa", sum := "8d1b6d023df2ab08f2b8d79966e386bf8189c4ade0f652da866feca3d434334d", func := "mezzotint/mezzotintkeep.BitsBack", spec := "bitsBack", apart := false, narrowed := true }
def BitsBackUptoSaid : Prop := bitsBackUptoRow.holds Try.pinned (OpenSpec.upto bitsBackSpec)

/-- 'mezzotintkeep.BitsAgain', WHERE WHAT IT READS IS OF BULK AT MOST 1048576: true; the input reads as it did. -/
def bitsAgainUptoRow : OpenClaim := { program := "ytgnpppcljpjkjaa", sum := "8d1b6d023df2ab08f2b8d79966e386bf8189c4ade0f652da866feca3d434334d", func := "mezzotint/mezzotintkeep.BitsAgain", spec := "bitsAgain", apart := false, narrowed := true }
def BitsAgainUptoSaid : Prop := bitsAgainUptoRow.holds Try.pinned (OpenSpec.upto bitsAgainSpec)

end Rows
end Go.Proofs.Ytgnpppcljpjkjaa
