/-
  DERIVED. GIVEN WITH THE SEED: THE CARDS: each row of YtdpbdiikloedbaaGreatDoorRows.lean that lists a variable, with what it lists TIED to the program's text (the seventh form; the later family's looks); each row that meets fmt, with fmt's text TOLD by the authors' own Lean function (tested against real Go, not proved from fmt's source: count such statements apart). THE CARD IS WHAT COUNTS. Prove the row's statement (the work); the ties are given (YtdpbdiikloedbaaGreatDoorTie.lean); close each card by the builder's one call (the guide's Derived/Test/ToyasCard.lean, 'card_holds'). Laid BY PROGRAM, IN A SANDBOX (cutbox-door.mjs). By AI agents, Wed Nov 11 2026. No macro, syntax, notation, axiom, sorry.
-/
import Derived.Test.YtdpbdiikloedbaaGreatDoorRows
import GoSem.ClaimSeven
namespace Go.Proofs.YtdpbdiikloedbaaGreatDoor
namespace Rows

/-- THE TIED CARD OF 'cooperagelaw21.LayersNames'. -/
def layersNamesCard : Claim7 := { stood := { row := layersNamesRow, standIns := [], harness := (true, "066a8f0932dda71d91edba541d392d7856b2b2817a61b7cc054622ec74034dde"), looks := false }, kinds := [], alts := [], laidByText := true, laidKinds := [.data, .pinned], laidTests := true, laidLooks := .later }
def LayersNamesCardSaid : Prop := Claim7.holds Tryz.pinned (.plain (OpenSpec.ofChange layersNamesSpec)) layersNamesCard

/-- THE TIED CARD OF 'cooperagelaw21.LayersSound'. -/
def layersSoundCard : Claim7 := { stood := { row := layersSoundRow, standIns := [], harness := (true, "066a8f0932dda71d91edba541d392d7856b2b2817a61b7cc054622ec74034dde"), looks := false }, kinds := [], alts := [], laidByText := true, laidKinds := [.data, .pinned], laidTests := true, laidLooks := .later }
def LayersSoundCardSaid : Prop := Claim7.holds Tryz.pinned (.plain (OpenSpec.ofChange layersSoundSpec)) layersSoundCard

/-- THE SECOND FORM's CARD OF 'cooperagelaw21.LayersNames'. -/
def layersNamesUptoCard : Claim7 := { stood := { row := layersNamesUptoRow, standIns := [], harness := (true, "066a8f0932dda71d91edba541d392d7856b2b2817a61b7cc054622ec74034dde"), looks := false }, kinds := [], alts := [], laidByText := true, laidKinds := [.data, .pinned], laidTests := true, laidLooks := .later }
def LayersNamesUptoCardSaid : Prop := Claim7.holds Tryz.pinned (.plain (OpenSpec.upto layersNamesSpec)) layersNamesUptoCard

/-- THE SECOND FORM's CARD OF 'cooperagelaw21.LayersSound'. -/
def layersSoundUptoCard : Claim7 := { stood := { row := layersSoundUptoRow, standIns := [], harness := (true, "066a8f0932dda71d91edba541d392d7856b2b2817a61b7cc054622ec74034dde"), looks := false }, kinds := [], alts := [], laidByText := true, laidKinds := [.data, .pinned], laidTests := true, laidLooks := .later }
def LayersSoundUptoCardSaid : Prop := Claim7.holds Tryz.pinned (.plain (OpenSpec.upto layersSoundSpec)) layersSoundUptoCard
end Rows
end Go.Proofs.YtdpbdiikloedbaaGreatDoor
