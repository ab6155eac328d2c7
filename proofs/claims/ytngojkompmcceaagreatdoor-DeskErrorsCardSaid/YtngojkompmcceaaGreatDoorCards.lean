/-
  DERIVED. GIVEN WITH THE SEED: THE CARDS: each row of YtngojkompmcceaaGreatDoorRows.lean that lists a variable, with what it lists TIED to the program's text (the seventh form; the later family's looks); each row that meets fmt, with fmt's text TOLD by the authors' own Lean function (tested against real Go, not proved from fmt's source: count such statements apart). THE CARD IS WHAT COUNTS. Prove the row's statement (the work); the ties are given (YtngojkompmcceaaGreatDoorTie.lean); close each card by the builder's one call (the guide's Derived/Test/ToyasCard.lean, 'card_holds'). Laid BY PROGRAM, IN A SANDBOX (cutbox-door.mjs). By AI agents, Wed Nov 11 2026. No macro, syntax, notation, axiom, sorry.
-/
import Derived.Test.YtngojkompmcceaaGreatDoorRows
import GoSem.ClaimSeven
namespace Go.Proofs.YtngojkompmcceaaGreatDoor
namespace Rows

/-- THE TIED CARD OF 'mezzotintkeep.DeskFront'. -/
def deskFrontCard : Claim7 := { stood := { row := deskFrontRow, standIns := [], harness := (true, "5912b708718f33e0c57775bd282b67d830525b016222bab70331bf8537f793d3"), looks := true }, kinds := [], alts := [], laidByText := true, laidKinds := [.data, .data, .data, .sentinel, .sentinel], laidTests := true, laidLooks := .later }
def DeskFrontCardSaid : Prop := Claim7.holds Tryz.pinned (.plain (OpenSpec.ofChange deskFrontSpec)) deskFrontCard

/-- THE TIED CARD OF 'mezzotintkeep.DeskErrors'. -/
def deskErrorsCard : Claim7 := { stood := { row := deskErrorsRow, standIns := [], harness := (true, "5912b708718f33e0c57775bd282b67d830525b016222bab70331bf8537f793d3"), looks := true }, kinds := [], alts := [], laidByText := true, laidKinds := [.data, .data, .data, .sentinel, .sentinel], laidTests := true, laidLooks := .later }
def DeskErrorsCardSaid : Prop := Claim7.holds Tryz.pinned (.plain (OpenSpec.ofChange deskErrorsSpec)) deskErrorsCard

/-- THE TIED CARD OF 'mezzotintkeep.DeskSet'. -/
def deskSetCard : Claim7 := { stood := { row := deskSetRow, standIns := [], harness := (true, "5912b708718f33e0c57775bd282b67d830525b016222bab70331bf8537f793d3"), looks := true }, kinds := [], alts := [], laidByText := true, laidKinds := [.data, .data, .data, .sentinel, .sentinel], laidTests := true, laidLooks := .later }
def DeskSetCardSaid : Prop := Claim7.holds Tryz.pinned (.plain (OpenSpec.ofChange deskSetSpec)) deskSetCard

/-- THE SECOND FORM's CARD OF 'mezzotintkeep.DeskFront'. -/
def deskFrontUptoCard : Claim7 := { stood := { row := deskFrontUptoRow, standIns := [], harness := (true, "5912b708718f33e0c57775bd282b67d830525b016222bab70331bf8537f793d3"), looks := true }, kinds := [], alts := [], laidByText := true, laidKinds := [.data, .data, .data, .sentinel, .sentinel], laidTests := true, laidLooks := .later }
def DeskFrontUptoCardSaid : Prop := Claim7.holds Tryz.pinned (.plain (OpenSpec.upto deskFrontSpec)) deskFrontUptoCard

/-- THE SECOND FORM's CARD OF 'mezzotintkeep.DeskErrors'. -/
def deskErrorsUptoCard : Claim7 := { stood := { row := deskErrorsUptoRow, standIns := [], harness := (true, "5912b708718f33e0c57775bd282b67d830525b016222bab70331bf8537f793d3"), looks := true }, kinds := [], alts := [], laidByText := true, laidKinds := [.data, .data, .data, .sentinel, .sentinel], laidTests := true, laidLooks := .later }
def DeskErrorsUptoCardSaid : Prop := Claim7.holds Tryz.pinned (.plain (OpenSpec.upto deskErrorsSpec)) deskErrorsUptoCard

/-- THE SECOND FORM's CARD OF 'mezzotintkeep.DeskSet'. -/
def deskSetUptoCard : Claim7 := { stood := { row := deskSetUptoRow, standIns := [], harness := (true, "5912b708718f33e0c57775bd282b67d830525b016222bab70331bf8537f793d3"), looks := true }, kinds := [], alts := [], laidByText := true, laidKinds := [.data, .data, .data, .sentinel, .sentinel], laidTests := true, laidLooks := .later }
def DeskSetUptoCardSaid : Prop := Claim7.holds Tryz.pinned (.plain (OpenSpec.upto deskSetSpec)) deskSetUptoCard
end Rows
end Go.Proofs.YtngojkompmcceaaGreatDoor
