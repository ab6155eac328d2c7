/-
  DERIVED. GIVEN WITH THE SEED: THE CARDS: each row of YtehbjhocgnfpmaaDoorRows.lean that lists a variable, with what it lists TIED to the program's text (the seventh form; the later family's looks); each row that meets fmt, with fmt's text TOLD by the authors' own Lean function (tested against real Go, not proved from fmt's source: count such statements apart). THE CARD IS WHAT COUNTS. Prove the row's statement (the work); the ties are given (YtehbjhocgnfpmaaDoorTie.lean); close each card by the builder's one call (the guide's Derived/Test/ToyasCard.lean, 'card_holds'). Laid BY PROGRAM, IN A SANDBOX (cutbox-door.mjs). By AI agents, Wed Nov 11 2026. No macro, syntax, notation, axiom, sorry.
-/
import Derived.Test.YtehbjhocgnfpmaaDoorRows
import GoSem.ClaimSeven
namespace Go.Proofs.YtehbjhocgnfpmaaDoor
namespace Rows

/-- THE TIED CARD OF 'mezzotintkeep.SegCounted'. -/
def segCountedCard : Claim7 := { stood := { row := segCountedRow, standIns := [], harness := (true, "1752bfbb803c6ad07c2023b888e1f16a703627e76a4c060586397274d49e285e"), looks := false }, kinds := [], alts := [], laidByText := true, laidKinds := [.data, .pinned], laidTests := true, laidLooks := .later }
def SegCountedCardSaid : Prop := Claim7.holds Tryd.pinned (.plain (OpenSpec.ofChange segCountedSpec)) segCountedCard

/-- THE TIED CARD OF 'mezzotintkeep.SegPure'. -/
def segPureCard : Claim7 := { stood := { row := segPureRow, standIns := [], harness := (true, "1752bfbb803c6ad07c2023b888e1f16a703627e76a4c060586397274d49e285e"), looks := false }, kinds := [], alts := [], laidByText := true, laidKinds := [.data, .pinned], laidTests := true, laidLooks := .later }
def SegPureCardSaid : Prop := Claim7.holds Tryd.pinned (.plain (OpenSpec.ofChange segPureSpec)) segPureCard

/-- THE TIED CARD OF 'mezzotintkeep.SegTables'. -/
def segTablesCard : Claim7 := { stood := { row := segTablesRow, standIns := [], harness := (true, "1752bfbb803c6ad07c2023b888e1f16a703627e76a4c060586397274d49e285e"), looks := false }, kinds := [], alts := [], laidByText := true, laidKinds := [.data, .pinned], laidTests := true, laidLooks := .later }
def SegTablesCardSaid : Prop := Claim7.holds Tryd.pinned (.plain (OpenSpec.ofChange segTablesSpec)) segTablesCard

/-- THE TIED CARD OF 'mezzotintkeep.SegSize'. -/
def segSizeCard : Claim7 := { stood := { row := segSizeRow, standIns := [], harness := (true, "1752bfbb803c6ad07c2023b888e1f16a703627e76a4c060586397274d49e285e"), looks := false }, kinds := [], alts := [], laidByText := true, laidKinds := [.data, .pinned], laidTests := true, laidLooks := .later }
def SegSizeCardSaid : Prop := Claim7.holds Tryd.pinned (.plain (OpenSpec.ofChange segSizeSpec)) segSizeCard

/-- THE TIED CARD OF 'mezzotintkeep.SegBack'. -/
def segBackCard : Claim7 := { stood := { row := segBackRow, standIns := [], harness := (true, "1752bfbb803c6ad07c2023b888e1f16a703627e76a4c060586397274d49e285e"), looks := false }, kinds := [], alts := [], laidByText := true, laidKinds := [.data, .pinned], laidTests := true, laidLooks := .later }
def SegBackCardSaid : Prop := Claim7.holds Tryd.pinned (.plain (OpenSpec.ofChange segBackSpec)) segBackCard

/-- THE TIED CARD OF 'mezzotintkeep.SegAgain'. -/
def segAgainCard : Claim7 := { stood := { row := segAgainRow, standIns := [], harness := (true, "1752bfbb803c6ad07c2023b888e1f16a703627e76a4c060586397274d49e285e"), looks := false }, kinds := [], alts := [], laidByText := true, laidKinds := [.data, .pinned], laidTests := true, laidLooks := .later }
def SegAgainCardSaid : Prop := Claim7.holds Tryd.pinned (.plain (OpenSpec.ofChange segAgainSpec)) segAgainCard

/-- THE TIED CARD OF 'mezzotintkeep.ScanMarks'. -/
def scanMarksCard : Claim7 := { stood := { row := scanMarksRow, standIns := [], harness := (true, "1752bfbb803c6ad07c2023b888e1f16a703627e76a4c060586397274d49e285e"), looks := false }, kinds := [], alts := [], laidByText := true, laidKinds := [.data, .pinned], laidTests := true, laidLooks := .later }
def ScanMarksCardSaid : Prop := Claim7.holds Tryd.pinned (.plain (OpenSpec.ofChange scanMarksSpec)) scanMarksCard

/-- THE TIED CARD OF 'mezzotintkeep.ScanEach'. -/
def scanEachCard : Claim7 := { stood := { row := scanEachRow, standIns := [], harness := (true, "1752bfbb803c6ad07c2023b888e1f16a703627e76a4c060586397274d49e285e"), looks := false }, kinds := [], alts := [], laidByText := true, laidKinds := [.data, .pinned], laidTests := true, laidLooks := .later }
def ScanEachCardSaid : Prop := Claim7.holds Tryd.pinned (.plain (OpenSpec.ofChange scanEachSpec)) scanEachCard

/-- THE TIED CARD OF 'mezzotintkeep.ScanMended'. -/
def scanMendedCard : Claim7 := { stood := { row := scanMendedRow, standIns := [], harness := (true, "1752bfbb803c6ad07c2023b888e1f16a703627e76a4c060586397274d49e285e"), looks := false }, kinds := [], alts := [], laidByText := true, laidKinds := [.data, .pinned], laidTests := true, laidLooks := .later }
def ScanMendedCardSaid : Prop := Claim7.holds Tryd.pinned (.plain (OpenSpec.ofChange scanMendedSpec)) scanMendedCard

/-- THE TIED CARD OF 'mezzotintkeep.ScanHurt'. -/
def scanHurtCard : Claim7 := { stood := { row := scanHurtRow, standIns := [], harness := (true, "1752bfbb803c6ad07c2023b888e1f16a703627e76a4c060586397274d49e285e"), looks := false }, kinds := [], alts := [], laidByText := true, laidKinds := [.data, .pinned], laidTests := true, laidLooks := .later }
def ScanHurtCardSaid : Prop := Claim7.holds Tryd.pinned (.plain (OpenSpec.ofChange scanHurtSpec)) scanHurtCard

/-- THE TIED CARD OF 'mezzotintkeep.ScanOne'. -/
def scanOneCard : Claim7 := { stood := { row := scanOneRow, standIns := [], harness := (true, "1752bfbb803c6ad07c2023b888e1f16a703627e76a4c060586397274d49e285e"), looks := false }, kinds := [], alts := [], laidByText := true, laidKinds := [.data, .pinned], laidTests := true, laidLooks := .later }
def ScanOneCardSaid : Prop := Claim7.holds Tryd.pinned (.plain (OpenSpec.ofChange scanOneSpec)) scanOneCard

/-- THE TIED CARD OF 'mezzotintkeep.ScanBack'. -/
def scanBackCard : Claim7 := { stood := { row := scanBackRow, standIns := [], harness := (true, "1752bfbb803c6ad07c2023b888e1f16a703627e76a4c060586397274d49e285e"), looks := false }, kinds := [], alts := [], laidByText := true, laidKinds := [.data, .pinned], laidTests := true, laidLooks := .later }
def ScanBackCardSaid : Prop := Claim7.holds Tryd.pinned (.plain (OpenSpec.ofChange scanBackSpec)) scanBackCard

/-- THE SECOND FORM's CARD OF 'mezzotintkeep.SegCounted'. -/
def segCountedUptoCard : Claim7 := { stood := { row := segCountedUptoRow, standIns := [], harness := (true, "1752bfbb803c6ad07c2023b888e1f16a703627e76a4c060586397274d49e285e"), looks := false }, kinds := [], alts := [], laidByText := true, laidKinds := [.data, .pinned], laidTests := true, laidLooks := .later }
def SegCountedUptoCardSaid : Prop := Claim7.holds Tryd.pinned (.plain (OpenSpec.upto segCountedSpec)) segCountedUptoCard

/-- THE SECOND FORM's CARD OF 'mezzotintkeep.SegPure'. -/
def segPureUptoCard : Claim7 := { stood := { row := segPureUptoRow, standIns := [], harness := (true, "1752bfbb803c6ad07c2023b888e1f16a703627e76a4c060586397274d49e285e"), looks := false }, kinds := [], alts := [], laidByText := true, laidKinds := [.data, .pinned], laidTests := true, laidLooks := .later }
def SegPureUptoCardSaid : Prop := Claim7.holds Tryd.pinned (.plain (OpenSpec.upto segPureSpec)) segPureUptoCard

/-- THE SECOND FORM's CARD OF 'mezzotintkeep.SegTables'. -/
def segTablesUptoCard : Claim7 := { stood := { row := segTablesUptoRow, standIns := [], harness := (true, "1752bfbb803c6ad07c2023b888e1f16a703627e76a4c060586397274d49e285e"), looks := false }, kinds := [], alts := [], laidByText := true, laidKinds := [.data, .pinned], laidTests := true, laidLooks := .later }
def SegTablesUptoCardSaid : Prop := Claim7.holds Tryd.pinned (.plain (OpenSpec.upto segTablesSpec)) segTablesUptoCard

/-- THE SECOND FORM's CARD OF 'mezzotintkeep.SegSize'. -/
def segSizeUptoCard : Claim7 := { stood := { row := segSizeUptoRow, standIns := [], harness := (true, "1752bfbb803c6ad07c2023b888e1f16a703627e76a4c060586397274d49e285e"), looks := false }, kinds := [], alts := [], laidByText := true, laidKinds := [.data, .pinned], laidTests := true, laidLooks := .later }
def SegSizeUptoCardSaid : Prop := Claim7.holds Tryd.pinned (.plain (OpenSpec.upto segSizeSpec)) segSizeUptoCard

/-- THE SECOND FORM's CARD OF 'mezzotintkeep.SegBack'. -/
def segBackUptoCard : Claim7 := { stood := { row := segBackUptoRow, standIns := [], harness := (true, "1752bfbb803c6ad07c2023b888e1f16a703627e76a4c060586397274d49e285e"), looks := false }, kinds := [], alts := [], laidByText := true, laidKinds := [.data, .pinned], laidTests := true, laidLooks := .later }
def SegBackUptoCardSaid : Prop := Claim7.holds Tryd.pinned (.plain (OpenSpec.upto segBackSpec)) segBackUptoCard

/-- THE SECOND FORM's CARD OF 'mezzotintkeep.SegAgain'. -/
def segAgainUptoCard : Claim7 := { stood := { row := segAgainUptoRow, standIns := [], harness := (true, "1752bfbb803c6ad07c2023b888e1f16a703627e76a4c060586397274d49e285e"), looks := false }, kinds := [], alts := [], laidByText := true, laidKinds := [.data, .pinned], laidTests := true, laidLooks := .later }
def SegAgainUptoCardSaid : Prop := Claim7.holds Tryd.pinned (.plain (OpenSpec.upto segAgainSpec)) segAgainUptoCard

/-- THE SECOND FORM's CARD OF 'mezzotintkeep.ScanMarks'. -/
def scanMarksUptoCard : Claim7 := { stood := { row := scanMarksUptoRow, standIns := [], harness := (true, "1752bfbb803c6ad07c2023b888e1f16a703627e76a4c060586397274d49e285e"), looks := false }, kinds := [], alts := [], laidByText := true, laidKinds := [.data, .pinned], laidTests := true, laidLooks := .later }
def ScanMarksUptoCardSaid : Prop := Claim7.holds Tryd.pinned (.plain (OpenSpec.upto scanMarksSpec)) scanMarksUptoCard

/-- THE SECOND FORM's CARD OF 'mezzotintkeep.ScanEach'. -/
def scanEachUptoCard : Claim7 := { stood := { row := scanEachUptoRow, standIns := [], harness := (true, "1752bfbb803c6ad07c2023b888e1f16a703627e76a4c060586397274d49e285e"), looks := false }, kinds := [], alts := [], laidByText := true, laidKinds := [.data, .pinned], laidTests := true, laidLooks := .later }
def ScanEachUptoCardSaid : Prop := Claim7.holds Tryd.pinned (.plain (OpenSpec.upto scanEachSpec)) scanEachUptoCard

/-- THE SECOND FORM's CARD OF 'mezzotintkeep.ScanMended'. -/
def scanMendedUptoCard : Claim7 := { stood := { row := scanMendedUptoRow, standIns := [], harness := (true, "1752bfbb803c6ad07c2023b888e1f16a703627e76a4c060586397274d49e285e"), looks := false }, kinds := [], alts := [], laidByText := true, laidKinds := [.data, .pinned], laidTests := true, laidLooks := .later }
def ScanMendedUptoCardSaid : Prop := Claim7.holds Tryd.pinned (.plain (OpenSpec.upto scanMendedSpec)) scanMendedUptoCard

/-- THE SECOND FORM's CARD OF 'mezzotintkeep.ScanHurt'. -/
def scanHurtUptoCard : Claim7 := { stood := { row := scanHurtUptoRow, standIns := [], harness := (true, "1752bfbb803c6ad07c2023b888e1f16a703627e76a4c060586397274d49e285e"), looks := false }, kinds := [], alts := [], laidByText := true, laidKinds := [.data, .pinned], laidTests := true, laidLooks := .later }
def ScanHurtUptoCardSaid : Prop := Claim7.holds Tryd.pinned (.plain (OpenSpec.upto scanHurtSpec)) scanHurtUptoCard

/-- THE SECOND FORM's CARD OF 'mezzotintkeep.ScanOne'. -/
def scanOneUptoCard : Claim7 := { stood := { row := scanOneUptoRow, standIns := [], harness := (true, "1752bfbb803c6ad07c2023b888e1f16a703627e76a4c060586397274d49e285e"), looks := false }, kinds := [], alts := [], laidByText := true, laidKinds := [.data, .pinned], laidTests := true, laidLooks := .later }
def ScanOneUptoCardSaid : Prop := Claim7.holds Tryd.pinned (.plain (OpenSpec.upto scanOneSpec)) scanOneUptoCard

/-- THE SECOND FORM's CARD OF 'mezzotintkeep.ScanBack'. -/
def scanBackUptoCard : Claim7 := { stood := { row := scanBackUptoRow, standIns := [], harness := (true, "1752bfbb803c6ad07c2023b888e1f16a703627e76a4c060586397274d49e285e"), looks := false }, kinds := [], alts := [], laidByText := true, laidKinds := [.data, .pinned], laidTests := true, laidLooks := .later }
def ScanBackUptoCardSaid : Prop := Claim7.holds Tryd.pinned (.plain (OpenSpec.upto scanBackSpec)) scanBackUptoCard
end Rows
end Go.Proofs.YtehbjhocgnfpmaaDoor
