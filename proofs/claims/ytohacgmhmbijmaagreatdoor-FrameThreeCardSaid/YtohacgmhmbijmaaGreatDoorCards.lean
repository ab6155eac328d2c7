/-
  DERIVED. GIVEN WITH THE SEED: THE CARDS: each row of YtohacgmhmbijmaaGreatDoorRows.lean that lists a variable, with what it lists TIED to the program's text (the seventh form; the later family's looks); each row that meets fmt, with fmt's text TOLD by the authors' own Lean function (tested against real Go, not proved from fmt's source: count such statements apart). THE CARD IS WHAT COUNTS. Prove the row's statement (the work); the ties are given (YtohacgmhmbijmaaGreatDoorTie.lean); close each card by the builder's one call (the guide's Derived/Test/ToyasCard.lean, 'card_holds'). Laid BY PROGRAM, IN A SANDBOX (cutbox-door.mjs). By AI agents, Wed Nov 11 2026. No macro, syntax, notation, axiom, sorry.
-/
import Derived.Test.YtohacgmhmbijmaaGreatDoorRows
import GoSem.ClaimSeven
namespace Go.Proofs.YtohacgmhmbijmaaGreatDoor
namespace Rows

/-- THE TIED CARD OF 'mezzotintkeep.FrameBack'. -/
def frameBackCard : Claim7 := { stood := { row := frameBackRow, standIns := [], harness := (true, "2e81a30d15e1859dee4811ea88666e5453d1b4dda05f594532563bd12ac82309"), looks := false }, kinds := [], alts := [], laidByText := true, laidKinds := [.data, .pinned], laidTests := true, laidLooks := .later }
def FrameBackCardSaid : Prop := Claim7.holds Tryz.pinned (.plain (OpenSpec.ofChange frameBackSpec)) frameBackCard

/-- THE TIED CARD OF 'mezzotintkeep.FrameNear'. -/
def frameNearCard : Claim7 := { stood := { row := frameNearRow, standIns := [], harness := (true, "2e81a30d15e1859dee4811ea88666e5453d1b4dda05f594532563bd12ac82309"), looks := false }, kinds := [], alts := [], laidByText := true, laidKinds := [.data, .pinned], laidTests := true, laidLooks := .later }
def FrameNearCardSaid : Prop := Claim7.holds Tryz.pinned (.plain (OpenSpec.ofChange frameNearSpec)) frameNearCard

/-- THE TIED CARD OF 'mezzotintkeep.FrameFlat'. -/
def frameFlatCard : Claim7 := { stood := { row := frameFlatRow, standIns := [], harness := (true, "2e81a30d15e1859dee4811ea88666e5453d1b4dda05f594532563bd12ac82309"), looks := false }, kinds := [], alts := [], laidByText := true, laidKinds := [.data, .pinned], laidTests := true, laidLooks := .later }
def FrameFlatCardSaid : Prop := Claim7.holds Tryz.pinned (.plain (OpenSpec.ofChange frameFlatSpec)) frameFlatCard

/-- THE TIED CARD OF 'mezzotintkeep.FrameGray'. -/
def frameGrayCard : Claim7 := { stood := { row := frameGrayRow, standIns := [], harness := (true, "2e81a30d15e1859dee4811ea88666e5453d1b4dda05f594532563bd12ac82309"), looks := false }, kinds := [], alts := [], laidByText := true, laidKinds := [.data, .pinned], laidTests := true, laidLooks := .later }
def FrameGrayCardSaid : Prop := Claim7.holds Tryz.pinned (.plain (OpenSpec.ofChange frameGraySpec)) frameGrayCard

/-- THE TIED CARD OF 'mezzotintkeep.FrameAlone'. -/
def frameAloneCard : Claim7 := { stood := { row := frameAloneRow, standIns := [], harness := (true, "2e81a30d15e1859dee4811ea88666e5453d1b4dda05f594532563bd12ac82309"), looks := false }, kinds := [], alts := [], laidByText := true, laidKinds := [.data, .pinned], laidTests := true, laidLooks := .later }
def FrameAloneCardSaid : Prop := Claim7.holds Tryz.pinned (.plain (OpenSpec.ofChange frameAloneSpec)) frameAloneCard

/-- THE TIED CARD OF 'mezzotintkeep.FrameThree'. -/
def frameThreeCard : Claim7 := { stood := { row := frameThreeRow, standIns := [], harness := (true, "2e81a30d15e1859dee4811ea88666e5453d1b4dda05f594532563bd12ac82309"), looks := false }, kinds := [], alts := [], laidByText := true, laidKinds := [.data, .pinned], laidTests := true, laidLooks := .later }
def FrameThreeCardSaid : Prop := Claim7.holds Tryz.pinned (.plain (OpenSpec.ofChange frameThreeSpec)) frameThreeCard

/-- THE TIED CARD OF 'mezzotintkeep.RescueWhole'. -/
def rescueWholeCard : Claim7 := { stood := { row := rescueWholeRow, standIns := [], harness := (true, "2e81a30d15e1859dee4811ea88666e5453d1b4dda05f594532563bd12ac82309"), looks := false }, kinds := [], alts := [], laidByText := true, laidKinds := [.data, .pinned], laidTests := true, laidLooks := .later }
def RescueWholeCardSaid : Prop := Claim7.holds Tryz.pinned (.plain (OpenSpec.ofChange rescueWholeSpec)) rescueWholeCard

/-- THE TIED CARD OF 'mezzotintkeep.RescueHurt'. -/
def rescueHurtCard : Claim7 := { stood := { row := rescueHurtRow, standIns := [], harness := (true, "2e81a30d15e1859dee4811ea88666e5453d1b4dda05f594532563bd12ac82309"), looks := false }, kinds := [], alts := [], laidByText := true, laidKinds := [.data, .pinned], laidTests := true, laidLooks := .later }
def RescueHurtCardSaid : Prop := Claim7.holds Tryz.pinned (.plain (OpenSpec.ofChange rescueHurtSpec)) rescueHurtCard

/-- THE TIED CARD OF 'mezzotintkeep.RescueAll'. -/
def rescueAllCard : Claim7 := { stood := { row := rescueAllRow, standIns := [], harness := (true, "2e81a30d15e1859dee4811ea88666e5453d1b4dda05f594532563bd12ac82309"), looks := false }, kinds := [], alts := [], laidByText := true, laidKinds := [.data, .pinned], laidTests := true, laidLooks := .later }
def RescueAllCardSaid : Prop := Claim7.holds Tryz.pinned (.plain (OpenSpec.ofChange rescueAllSpec)) rescueAllCard

/-- THE TIED CARD OF 'mezzotinttop.TopMirror'. -/
def topMirrorCard : Claim7 := { stood := { row := topMirrorRow, standIns := [], harness := (true, "2e81a30d15e1859dee4811ea88666e5453d1b4dda05f594532563bd12ac82309"), looks := false }, kinds := [], alts := [], laidByText := true, laidKinds := [.data, .pinned], laidTests := true, laidLooks := .later }
def TopMirrorCardSaid : Prop := Claim7.holds Tryz.pinned (.plain (OpenSpec.ofChange topMirrorSpec)) topMirrorCard

/-- THE TIED CARD OF 'mezzotinttop.TopScale'. -/
def topScaleCard : Claim7 := { stood := { row := topScaleRow, standIns := [], harness := (true, "2e81a30d15e1859dee4811ea88666e5453d1b4dda05f594532563bd12ac82309"), looks := false }, kinds := [], alts := [], laidByText := true, laidKinds := [.data, .pinned], laidTests := true, laidLooks := .later }
def TopScaleCardSaid : Prop := Claim7.holds Tryz.pinned (.plain (OpenSpec.ofChange topScaleSpec)) topScaleCard

/-- THE TIED CARD OF 'mezzotinttop.TopTold'. -/
def topToldCard : Claim7 := { stood := { row := topToldRow, standIns := [], harness := (true, "2e81a30d15e1859dee4811ea88666e5453d1b4dda05f594532563bd12ac82309"), looks := false }, kinds := [], alts := [], laidByText := true, laidKinds := [.data, .pinned], laidTests := true, laidLooks := .later }
def TopToldCardSaid : Prop := Claim7.holds Tryz.pinned (.plain (OpenSpec.ofChange topToldSpec)) topToldCard

/-- THE SECOND FORM's CARD OF 'mezzotintkeep.FrameBack'. -/
def frameBackUptoCard : Claim7 := { stood := { row := frameBackUptoRow, standIns := [], harness := (true, "2e81a30d15e1859dee4811ea88666e5453d1b4dda05f594532563bd12ac82309"), looks := false }, kinds := [], alts := [], laidByText := true, laidKinds := [.data, .pinned], laidTests := true, laidLooks := .later }
def FrameBackUptoCardSaid : Prop := Claim7.holds Tryz.pinned (.plain (OpenSpec.upto frameBackSpec)) frameBackUptoCard

/-- THE SECOND FORM's CARD OF 'mezzotintkeep.FrameNear'. -/
def frameNearUptoCard : Claim7 := { stood := { row := frameNearUptoRow, standIns := [], harness := (true, "2e81a30d15e1859dee4811ea88666e5453d1b4dda05f594532563bd12ac82309"), looks := false }, kinds := [], alts := [], laidByText := true, laidKinds := [.data, .pinned], laidTests := true, laidLooks := .later }
def FrameNearUptoCardSaid : Prop := Claim7.holds Tryz.pinned (.plain (OpenSpec.upto frameNearSpec)) frameNearUptoCard

/-- THE SECOND FORM's CARD OF 'mezzotintkeep.FrameFlat'. -/
def frameFlatUptoCard : Claim7 := { stood := { row := frameFlatUptoRow, standIns := [], harness := (true, "2e81a30d15e1859dee4811ea88666e5453d1b4dda05f594532563bd12ac82309"), looks := false }, kinds := [], alts := [], laidByText := true, laidKinds := [.data, .pinned], laidTests := true, laidLooks := .later }
def FrameFlatUptoCardSaid : Prop := Claim7.holds Tryz.pinned (.plain (OpenSpec.upto frameFlatSpec)) frameFlatUptoCard

/-- THE SECOND FORM's CARD OF 'mezzotintkeep.FrameGray'. -/
def frameGrayUptoCard : Claim7 := { stood := { row := frameGrayUptoRow, standIns := [], harness := (true, "2e81a30d15e1859dee4811ea88666e5453d1b4dda05f594532563bd12ac82309"), looks := false }, kinds := [], alts := [], laidByText := true, laidKinds := [.data, .pinned], laidTests := true, laidLooks := .later }
def FrameGrayUptoCardSaid : Prop := Claim7.holds Tryz.pinned (.plain (OpenSpec.upto frameGraySpec)) frameGrayUptoCard

/-- THE SECOND FORM's CARD OF 'mezzotintkeep.FrameAlone'. -/
def frameAloneUptoCard : Claim7 := { stood := { row := frameAloneUptoRow, standIns := [], harness := (true, "2e81a30d15e1859dee4811ea88666e5453d1b4dda05f594532563bd12ac82309"), looks := false }, kinds := [], alts := [], laidByText := true, laidKinds := [.data, .pinned], laidTests := true, laidLooks := .later }
def FrameAloneUptoCardSaid : Prop := Claim7.holds Tryz.pinned (.plain (OpenSpec.upto frameAloneSpec)) frameAloneUptoCard

/-- THE SECOND FORM's CARD OF 'mezzotintkeep.FrameThree'. -/
def frameThreeUptoCard : Claim7 := { stood := { row := frameThreeUptoRow, standIns := [], harness := (true, "2e81a30d15e1859dee4811ea88666e5453d1b4dda05f594532563bd12ac82309"), looks := false }, kinds := [], alts := [], laidByText := true, laidKinds := [.data, .pinned], laidTests := true, laidLooks := .later }
def FrameThreeUptoCardSaid : Prop := Claim7.holds Tryz.pinned (.plain (OpenSpec.upto frameThreeSpec)) frameThreeUptoCard

/-- THE SECOND FORM's CARD OF 'mezzotintkeep.RescueWhole'. -/
def rescueWholeUptoCard : Claim7 := { stood := { row := rescueWholeUptoRow, standIns := [], harness := (true, "2e81a30d15e1859dee4811ea88666e5453d1b4dda05f594532563bd12ac82309"), looks := false }, kinds := [], alts := [], laidByText := true, laidKinds := [.data, .pinned], laidTests := true, laidLooks := .later }
def RescueWholeUptoCardSaid : Prop := Claim7.holds Tryz.pinned (.plain (OpenSpec.upto rescueWholeSpec)) rescueWholeUptoCard

/-- THE SECOND FORM's CARD OF 'mezzotintkeep.RescueHurt'. -/
def rescueHurtUptoCard : Claim7 := { stood := { row := rescueHurtUptoRow, standIns := [], harness := (true, "2e81a30d15e1859dee4811ea88666e5453d1b4dda05f594532563bd12ac82309"), looks := false }, kinds := [], alts := [], laidByText := true, laidKinds := [.data, .pinned], laidTests := true, laidLooks := .later }
def RescueHurtUptoCardSaid : Prop := Claim7.holds Tryz.pinned (.plain (OpenSpec.upto rescueHurtSpec)) rescueHurtUptoCard

/-- THE SECOND FORM's CARD OF 'mezzotintkeep.RescueAll'. -/
def rescueAllUptoCard : Claim7 := { stood := { row := rescueAllUptoRow, standIns := [], harness := (true, "2e81a30d15e1859dee4811ea88666e5453d1b4dda05f594532563bd12ac82309"), looks := false }, kinds := [], alts := [], laidByText := true, laidKinds := [.data, .pinned], laidTests := true, laidLooks := .later }
def RescueAllUptoCardSaid : Prop := Claim7.holds Tryz.pinned (.plain (OpenSpec.upto rescueAllSpec)) rescueAllUptoCard

/-- THE SECOND FORM's CARD OF 'mezzotinttop.TopMirror'. -/
def topMirrorUptoCard : Claim7 := { stood := { row := topMirrorUptoRow, standIns := [], harness := (true, "2e81a30d15e1859dee4811ea88666e5453d1b4dda05f594532563bd12ac82309"), looks := false }, kinds := [], alts := [], laidByText := true, laidKinds := [.data, .pinned], laidTests := true, laidLooks := .later }
def TopMirrorUptoCardSaid : Prop := Claim7.holds Tryz.pinned (.plain (OpenSpec.upto topMirrorSpec)) topMirrorUptoCard

/-- THE SECOND FORM's CARD OF 'mezzotinttop.TopScale'. -/
def topScaleUptoCard : Claim7 := { stood := { row := topScaleUptoRow, standIns := [], harness := (true, "2e81a30d15e1859dee4811ea88666e5453d1b4dda05f594532563bd12ac82309"), looks := false }, kinds := [], alts := [], laidByText := true, laidKinds := [.data, .pinned], laidTests := true, laidLooks := .later }
def TopScaleUptoCardSaid : Prop := Claim7.holds Tryz.pinned (.plain (OpenSpec.upto topScaleSpec)) topScaleUptoCard

/-- THE SECOND FORM's CARD OF 'mezzotinttop.TopTold'. -/
def topToldUptoCard : Claim7 := { stood := { row := topToldUptoRow, standIns := [], harness := (true, "2e81a30d15e1859dee4811ea88666e5453d1b4dda05f594532563bd12ac82309"), looks := false }, kinds := [], alts := [], laidByText := true, laidKinds := [.data, .pinned], laidTests := true, laidLooks := .later }
def TopToldUptoCardSaid : Prop := Claim7.holds Tryz.pinned (.plain (OpenSpec.upto topToldSpec)) topToldUptoCard
end Rows
end Go.Proofs.YtohacgmhmbijmaaGreatDoor
