/-
  DERIVED. GIVEN WITH THE SEED: THE CARDS: each row of YtlchbcfiefpjhaaDoorRows.lean that lists a variable, with what it lists TIED to the program's text (the seventh form; the later family's looks); each row that meets fmt, with fmt's text TOLD by the authors' own Lean function (tested against real Go, not proved from fmt's source: count such statements apart). THE CARD IS WHAT COUNTS. Prove the row's statement (the work); the ties are given (YtlchbcfiefpjhaaDoorTie.lean); close each card by the builder's one call (the guide's Derived/Test/ToyasCard.lean, 'card_holds'). Laid BY PROGRAM, IN A SANDBOX (cutbox-door.mjs). By AI agents, Wed Nov 11 2026. No macro, syntax, notation, axiom, sorry.
-/
import Derived.Test.YtlchbcfiefpjhaaDoorRows
import GoSem.ClaimSeven
namespace Go.Proofs.YtlchbcfiefpjhaaDoor
namespace Rows

/-- THE TIED CARD OF 'mezzotintkeep.StuffJoins'. -/
def stuffJoinsCard : Claim7 := { stood := { row := stuffJoinsRow, standIns := [], harness := (true, "ca41412e9de18a5eb0d4ccaa0f2d6674979b003647008f6d2717c3cc0eade1a3"), looks := false }, kinds := [], alts := [], laidByText := true, laidKinds := [.data, .pinned], laidTests := true, laidLooks := .later }
def StuffJoinsCardSaid : Prop := Claim7.holds Tryd.pinned (.plain (OpenSpec.ofChange stuffJoinsSpec)) stuffJoinsCard

/-- THE TIED CARD OF 'mezzotintkeep.StuffSize'. -/
def stuffSizeCard : Claim7 := { stood := { row := stuffSizeRow, standIns := [], harness := (true, "ca41412e9de18a5eb0d4ccaa0f2d6674979b003647008f6d2717c3cc0eade1a3"), looks := false }, kinds := [], alts := [], laidByText := true, laidKinds := [.data, .pinned], laidTests := true, laidLooks := .later }
def StuffSizeCardSaid : Prop := Claim7.holds Tryd.pinned (.plain (OpenSpec.ofChange stuffSizeSpec)) stuffSizeCard

/-- THE TIED CARD OF 'mezzotintkeep.StuffBack'. -/
def stuffBackCard : Claim7 := { stood := { row := stuffBackRow, standIns := [], harness := (true, "ca41412e9de18a5eb0d4ccaa0f2d6674979b003647008f6d2717c3cc0eade1a3"), looks := false }, kinds := [], alts := [], laidByText := true, laidKinds := [.data, .pinned], laidTests := true, laidLooks := .later }
def StuffBackCardSaid : Prop := Claim7.holds Tryd.pinned (.plain (OpenSpec.ofChange stuffBackSpec)) stuffBackCard

/-- THE TIED CARD OF 'mezzotintkeep.StuffAgain'. -/
def stuffAgainCard : Claim7 := { stood := { row := stuffAgainRow, standIns := [], harness := (true, "ca41412e9de18a5eb0d4ccaa0f2d6674979b003647008f6d2717c3cc0eade1a3"), looks := false }, kinds := [], alts := [], laidByText := true, laidKinds := [.data, .pinned], laidTests := true, laidLooks := .later }
def StuffAgainCardSaid : Prop := Claim7.holds Tryd.pinned (.plain (OpenSpec.ofChange stuffAgainSpec)) stuffAgainCard

/-- THE TIED CARD OF 'mezzotintkeep.SplitBack'. -/
def splitBackCard : Claim7 := { stood := { row := splitBackRow, standIns := [], harness := (true, "ca41412e9de18a5eb0d4ccaa0f2d6674979b003647008f6d2717c3cc0eade1a3"), looks := false }, kinds := [], alts := [], laidByText := true, laidKinds := [.data, .pinned], laidTests := true, laidLooks := .later }
def SplitBackCardSaid : Prop := Claim7.holds Tryd.pinned (.plain (OpenSpec.ofChange splitBackSpec)) splitBackCard

/-- THE SECOND FORM's CARD OF 'mezzotintkeep.StuffJoins'. -/
def stuffJoinsUptoCard : Claim7 := { stood := { row := stuffJoinsUptoRow, standIns := [], harness := (true, "ca41412e9de18a5eb0d4ccaa0f2d6674979b003647008f6d2717c3cc0eade1a3"), looks := false }, kinds := [], alts := [], laidByText := true, laidKinds := [.data, .pinned], laidTests := true, laidLooks := .later }
def StuffJoinsUptoCardSaid : Prop := Claim7.holds Tryd.pinned (.plain (OpenSpec.upto stuffJoinsSpec)) stuffJoinsUptoCard

/-- THE SECOND FORM's CARD OF 'mezzotintkeep.StuffSize'. -/
def stuffSizeUptoCard : Claim7 := { stood := { row := stuffSizeUptoRow, standIns := [], harness := (true, "ca41412e9de18a5eb0d4ccaa0f2d6674979b003647008f6d2717c3cc0eade1a3"), looks := false }, kinds := [], alts := [], laidByText := true, laidKinds := [.data, .pinned], laidTests := true, laidLooks := .later }
def StuffSizeUptoCardSaid : Prop := Claim7.holds Tryd.pinned (.plain (OpenSpec.upto stuffSizeSpec)) stuffSizeUptoCard

/-- THE SECOND FORM's CARD OF 'mezzotintkeep.StuffBack'. -/
def stuffBackUptoCard : Claim7 := { stood := { row := stuffBackUptoRow, standIns := [], harness := (true, "ca41412e9de18a5eb0d4ccaa0f2d6674979b003647008f6d2717c3cc0eade1a3"), looks := false }, kinds := [], alts := [], laidByText := true, laidKinds := [.data, .pinned], laidTests := true, laidLooks := .later }
def StuffBackUptoCardSaid : Prop := Claim7.holds Tryd.pinned (.plain (OpenSpec.upto stuffBackSpec)) stuffBackUptoCard

/-- THE SECOND FORM's CARD OF 'mezzotintkeep.StuffAgain'. -/
def stuffAgainUptoCard : Claim7 := { stood := { row := stuffAgainUptoRow, standIns := [], harness := (true, "ca41412e9de18a5eb0d4ccaa0f2d6674979b003647008f6d2717c3cc0eade1a3"), looks := false }, kinds := [], alts := [], laidByText := true, laidKinds := [.data, .pinned], laidTests := true, laidLooks := .later }
def StuffAgainUptoCardSaid : Prop := Claim7.holds Tryd.pinned (.plain (OpenSpec.upto stuffAgainSpec)) stuffAgainUptoCard

/-- THE SECOND FORM's CARD OF 'mezzotintkeep.SplitBack'. -/
def splitBackUptoCard : Claim7 := { stood := { row := splitBackUptoRow, standIns := [], harness := (true, "ca41412e9de18a5eb0d4ccaa0f2d6674979b003647008f6d2717c3cc0eade1a3"), looks := false }, kinds := [], alts := [], laidByText := true, laidKinds := [.data, .pinned], laidTests := true, laidLooks := .later }
def SplitBackUptoCardSaid : Prop := Claim7.holds Tryd.pinned (.plain (OpenSpec.upto splitBackSpec)) splitBackUptoCard
end Rows
end Go.Proofs.YtlchbcfiefpjhaaDoor
