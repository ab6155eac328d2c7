/-
  DERIVED. GIVEN WITH THE SEED: THE CARDS: each row of YthmkhpijdpbfbaaDoorRows.lean that lists a variable, with what it lists TIED to the program's text (the seventh form; the later family's looks); each row that meets fmt, with fmt's text TOLD by the authors' own Lean function (tested against real Go, not proved from fmt's source: count such statements apart). THE CARD IS WHAT COUNTS. Prove the row's statement (the work); the ties are given (YthmkhpijdpbfbaaDoorTie.lean); close each card by the builder's one call (the guide's Derived/Test/ToyasCard.lean, 'card_holds'). Laid BY PROGRAM, IN A SANDBOX (cutbox-door.mjs). By AI agents, Wed Nov 11 2026. No macro, syntax, notation, axiom, sorry.
-/
import Derived.Test.YthmkhpijdpbfbaaDoorRows
import GoSem.ClaimSeven
namespace Go.Proofs.YthmkhpijdpbfbaaDoor
namespace Rows

/-- THE TIED CARD OF 'mezzotintkeep.StuffSize'. -/
def stuffSizeCard : Claim7 := { stood := { row := stuffSizeRow, standIns := [], harness := (true, "cb205e69d7038d6731dad842d1b332302817b6a44d7c05725d30ef0639cb4ef6"), looks := false }, kinds := [], alts := [], laidByText := true, laidKinds := [.data, .pinned], laidTests := true, laidLooks := .later }
def StuffSizeCardSaid : Prop := Claim7.holds Tryd.pinned (.plain (OpenSpec.ofChange stuffSizeSpec)) stuffSizeCard

/-- THE SECOND FORM's CARD OF 'mezzotintkeep.StuffSize'. -/
def stuffSizeUptoCard : Claim7 := { stood := { row := stuffSizeUptoRow, standIns := [], harness := (true, "cb205e69d7038d6731dad842d1b332302817b6a44d7c05725d30ef0639cb4ef6"), looks := false }, kinds := [], alts := [], laidByText := true, laidKinds := [.data, .pinned], laidTests := true, laidLooks := .later }
def StuffSizeUptoCardSaid : Prop := Claim7.holds Tryd.pinned (.plain (OpenSpec.upto stuffSizeSpec)) stuffSizeUptoCard
end Rows
end Go.Proofs.YthmkhpijdpbfbaaDoor
