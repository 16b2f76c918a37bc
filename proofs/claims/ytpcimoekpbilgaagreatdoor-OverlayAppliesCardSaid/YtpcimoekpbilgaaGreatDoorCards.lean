/-
  DERIVED. GIVEN WITH THE SEED: THE CARDS: each row of YtpcimoekpbilgaaGreatDoorRows.lean that lists a variable, with what it lists TIED to the program's text (the seventh form; the later family's looks); each row that meets fmt, with fmt's text TOLD by the authors' own Lean function (tested against real Go, not proved from fmt's source: count such statements apart). THE CARD IS WHAT COUNTS. Prove the row's statement (the work); the ties are given (YtpcimoekpbilgaaGreatDoorTie.lean); close each card by the builder's one call (the guide's Derived/Test/ToyasCard.lean, 'card_holds'). Laid BY PROGRAM, IN A SANDBOX (cutbox-door.mjs). By AI agents, Wed Nov 11 2026. No macro, syntax, notation, axiom, sorry.
-/
import Derived.Test.YtpcimoekpbilgaaGreatDoorRows
import GoSem.ClaimSeven
namespace Go.Proofs.YtpcimoekpbilgaaGreatDoor
namespace Rows

/-- THE TIED CARD OF 'cooperagelaw15.OverlayLays'. -/
def overlayLaysCard : Claim7 := { stood := { row := overlayLaysRow, standIns := [], harness := (true, "b8ab53f4e16e9a6163d64bf4ee7bdb6f8164b4f01a32b717accfa141d788ec10"), looks := false }, kinds := [], alts := [], laidByText := true, laidKinds := [.data, .pinned], laidTests := true, laidLooks := .later }
def OverlayLaysCardSaid : Prop := Claim7.holds Tryz.pinned (.plain (OpenSpec.ofChange overlayLaysSpec)) overlayLaysCard

/-- THE TIED CARD OF 'cooperagelaw15.OverlayNames'. -/
def overlayNamesCard : Claim7 := { stood := { row := overlayNamesRow, standIns := [], harness := (true, "b8ab53f4e16e9a6163d64bf4ee7bdb6f8164b4f01a32b717accfa141d788ec10"), looks := false }, kinds := [], alts := [], laidByText := true, laidKinds := [.data, .pinned], laidTests := true, laidLooks := .later }
def OverlayNamesCardSaid : Prop := Claim7.holds Tryz.pinned (.plain (OpenSpec.ofChange overlayNamesSpec)) overlayNamesCard

/-- THE TIED CARD OF 'cooperagelaw15.OverlayApplies'. -/
def overlayAppliesCard : Claim7 := { stood := { row := overlayAppliesRow, standIns := [], harness := (true, "b8ab53f4e16e9a6163d64bf4ee7bdb6f8164b4f01a32b717accfa141d788ec10"), looks := false }, kinds := [], alts := [], laidByText := true, laidKinds := [.data, .pinned], laidTests := true, laidLooks := .later }
def OverlayAppliesCardSaid : Prop := Claim7.holds Tryz.pinned (.plain (OpenSpec.ofChange overlayAppliesSpec)) overlayAppliesCard

/-- THE TIED CARD OF 'cooperagelaw15.OverlayFree'. -/
def overlayFreeCard : Claim7 := { stood := { row := overlayFreeRow, standIns := [], harness := (true, "b8ab53f4e16e9a6163d64bf4ee7bdb6f8164b4f01a32b717accfa141d788ec10"), looks := false }, kinds := [], alts := [], laidByText := true, laidKinds := [.data, .pinned], laidTests := true, laidLooks := .later }
def OverlayFreeCardSaid : Prop := Claim7.holds Tryz.pinned (.plain (OpenSpec.ofChange overlayFreeSpec)) overlayFreeCard

/-- THE TIED CARD OF 'cooperagelaw15.OverlayTwice'. -/
def overlayTwiceCard : Claim7 := { stood := { row := overlayTwiceRow, standIns := [], harness := (true, "b8ab53f4e16e9a6163d64bf4ee7bdb6f8164b4f01a32b717accfa141d788ec10"), looks := false }, kinds := [], alts := [], laidByText := true, laidKinds := [.data, .pinned], laidTests := true, laidLooks := .later }
def OverlayTwiceCardSaid : Prop := Claim7.holds Tryz.pinned (.plain (OpenSpec.ofChange overlayTwiceSpec)) overlayTwiceCard

/-- THE SECOND FORM's CARD OF 'cooperagelaw15.OverlayLays'. -/
def overlayLaysUptoCard : Claim7 := { stood := { row := overlayLaysUptoRow, standIns := [], harness := (true, "b8ab53f4e16e9a6163d64bf4ee7bdb6f8164b4f01a32b717accfa141d788ec10"), looks := false }, kinds := [], alts := [], laidByText := true, laidKinds := [.data, .pinned], laidTests := true, laidLooks := .later }
def OverlayLaysUptoCardSaid : Prop := Claim7.holds Tryz.pinned (.plain (OpenSpec.upto overlayLaysSpec)) overlayLaysUptoCard

/-- THE SECOND FORM's CARD OF 'cooperagelaw15.OverlayNames'. -/
def overlayNamesUptoCard : Claim7 := { stood := { row := overlayNamesUptoRow, standIns := [], harness := (true, "b8ab53f4e16e9a6163d64bf4ee7bdb6f8164b4f01a32b717accfa141d788ec10"), looks := false }, kinds := [], alts := [], laidByText := true, laidKinds := [.data, .pinned], laidTests := true, laidLooks := .later }
def OverlayNamesUptoCardSaid : Prop := Claim7.holds Tryz.pinned (.plain (OpenSpec.upto overlayNamesSpec)) overlayNamesUptoCard

/-- THE SECOND FORM's CARD OF 'cooperagelaw15.OverlayApplies'. -/
def overlayAppliesUptoCard : Claim7 := { stood := { row := overlayAppliesUptoRow, standIns := [], harness := (true, "b8ab53f4e16e9a6163d64bf4ee7bdb6f8164b4f01a32b717accfa141d788ec10"), looks := false }, kinds := [], alts := [], laidByText := true, laidKinds := [.data, .pinned], laidTests := true, laidLooks := .later }
def OverlayAppliesUptoCardSaid : Prop := Claim7.holds Tryz.pinned (.plain (OpenSpec.upto overlayAppliesSpec)) overlayAppliesUptoCard

/-- THE SECOND FORM's CARD OF 'cooperagelaw15.OverlayFree'. -/
def overlayFreeUptoCard : Claim7 := { stood := { row := overlayFreeUptoRow, standIns := [], harness := (true, "b8ab53f4e16e9a6163d64bf4ee7bdb6f8164b4f01a32b717accfa141d788ec10"), looks := false }, kinds := [], alts := [], laidByText := true, laidKinds := [.data, .pinned], laidTests := true, laidLooks := .later }
def OverlayFreeUptoCardSaid : Prop := Claim7.holds Tryz.pinned (.plain (OpenSpec.upto overlayFreeSpec)) overlayFreeUptoCard

/-- THE SECOND FORM's CARD OF 'cooperagelaw15.OverlayTwice'. -/
def overlayTwiceUptoCard : Claim7 := { stood := { row := overlayTwiceUptoRow, standIns := [], harness := (true, "b8ab53f4e16e9a6163d64bf4ee7bdb6f8164b4f01a32b717accfa141d788ec10"), looks := false }, kinds := [], alts := [], laidByText := true, laidKinds := [.data, .pinned], laidTests := true, laidLooks := .later }
def OverlayTwiceUptoCardSaid : Prop := Claim7.holds Tryz.pinned (.plain (OpenSpec.upto overlayTwiceSpec)) overlayTwiceUptoCard
end Rows
end Go.Proofs.YtpcimoekpbilgaaGreatDoor
