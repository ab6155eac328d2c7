/-
  DERIVED. GIVEN WITH THE SEED: THE CARDS: each row of YtkcbhcajfcfmmaaDoorRows.lean that lists a variable, with what it lists TIED to the program's text (the seventh form; the later family's looks); each row that meets fmt, with fmt's text TOLD by the authors' own Lean function (tested against real Go, not proved from fmt's source: count such statements apart). THE CARD IS WHAT COUNTS. Prove the row's statement (the work); the ties are given (YtkcbhcajfcfmmaaDoorTie.lean); close each card by the builder's one call (the guide's Derived/Test/ToyasCard.lean, 'card_holds'). Laid BY PROGRAM, IN A SANDBOX (cutbox-door.mjs). By AI agents, Wed Nov 11 2026. No macro, syntax, notation, axiom, sorry.
-/
import Derived.Test.YtkcbhcajfcfmmaaDoorRows
import GoSem.ClaimSeven
namespace Go.Proofs.YtkcbhcajfcfmmaaDoor
namespace Rows

/-- THE TIED CARD OF 'mezzotintkeep.OwnMemory'. -/
def ownMemoryCard : Claim7 := { stood := { row := ownMemoryRow, standIns := [], harness := (true, "f179a7cc7fdb9204a251c634abf43d8f3fef8b4b014de22579d61bc5f35a7451"), looks := false }, kinds := [], alts := [], laidByText := true, laidKinds := [.data, .pinned], laidTests := true, laidLooks := .later }
def OwnMemoryCardSaid : Prop := Claim7.holds Tryd.pinned (.plain (OpenSpec.ofChange ownMemorySpec)) ownMemoryCard

/-- THE SECOND FORM's CARD OF 'mezzotintkeep.OwnMemory'. -/
def ownMemoryUptoCard : Claim7 := { stood := { row := ownMemoryUptoRow, standIns := [], harness := (true, "f179a7cc7fdb9204a251c634abf43d8f3fef8b4b014de22579d61bc5f35a7451"), looks := false }, kinds := [], alts := [], laidByText := true, laidKinds := [.data, .pinned], laidTests := true, laidLooks := .later }
def OwnMemoryUptoCardSaid : Prop := Claim7.holds Tryd.pinned (.plain (OpenSpec.upto ownMemorySpec)) ownMemoryUptoCard
end Rows
end Go.Proofs.YtkcbhcajfcfmmaaDoor
