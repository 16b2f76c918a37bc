/-
  DERIVED. GIVEN WITH THE SEED: THE CARDS: each row of YtpipdmfkbnbchaaGreatDoorRows.lean that lists a variable, with what it lists TIED to the program's text (the seventh form; the later family's looks); each row that meets fmt, with fmt's text TOLD by the authors' own Lean function (tested against real Go, not proved from fmt's source: count such statements apart). THE CARD IS WHAT COUNTS. Prove the row's statement (the work); the ties are given (YtpipdmfkbnbchaaGreatDoorTie.lean); close each card by the builder's one call (the guide's Derived/Test/ToyasCard.lean, 'card_holds'). Laid BY PROGRAM, IN A SANDBOX (cutbox-door.mjs). By AI agents, Wed Nov 11 2026. No macro, syntax, notation, axiom, sorry.
-/
import Derived.Test.YtpipdmfkbnbchaaGreatDoorRows
import GoSem.ClaimSeven
namespace Go.Proofs.YtpipdmfkbnbchaaGreatDoor
namespace Rows

/-- THE TIED CARD OF 'cooperagelaw22.ImagesItems'. -/
def imagesItemsCard : Claim7 := { stood := { row := imagesItemsRow, standIns := [], harness := (true, "e978f5f7b8f609fe5480fd0283f1502f0b93f475d5617fe91985df7abf02ee9e"), looks := false }, kinds := [], alts := [], laidByText := true, laidKinds := [.data, .pinned], laidTests := true, laidLooks := .later }
def ImagesItemsCardSaid : Prop := Claim7.holds Tryz.pinned (.plain (OpenSpec.ofChange imagesItemsSpec)) imagesItemsCard

/-- THE TIED CARD OF 'cooperagelaw22.ImagesSound'. -/
def imagesSoundCard : Claim7 := { stood := { row := imagesSoundRow, standIns := [], harness := (true, "e978f5f7b8f609fe5480fd0283f1502f0b93f475d5617fe91985df7abf02ee9e"), looks := false }, kinds := [], alts := [], laidByText := true, laidKinds := [.data, .pinned], laidTests := true, laidLooks := .later }
def ImagesSoundCardSaid : Prop := Claim7.holds Tryz.pinned (.plain (OpenSpec.ofChange imagesSoundSpec)) imagesSoundCard

/-- THE SECOND FORM's CARD OF 'cooperagelaw22.ImagesItems'. -/
def imagesItemsUptoCard : Claim7 := { stood := { row := imagesItemsUptoRow, standIns := [], harness := (true, "e978f5f7b8f609fe5480fd0283f1502f0b93f475d5617fe91985df7abf02ee9e"), looks := false }, kinds := [], alts := [], laidByText := true, laidKinds := [.data, .pinned], laidTests := true, laidLooks := .later }
def ImagesItemsUptoCardSaid : Prop := Claim7.holds Tryz.pinned (.plain (OpenSpec.upto imagesItemsSpec)) imagesItemsUptoCard

/-- THE SECOND FORM's CARD OF 'cooperagelaw22.ImagesSound'. -/
def imagesSoundUptoCard : Claim7 := { stood := { row := imagesSoundUptoRow, standIns := [], harness := (true, "e978f5f7b8f609fe5480fd0283f1502f0b93f475d5617fe91985df7abf02ee9e"), looks := false }, kinds := [], alts := [], laidByText := true, laidKinds := [.data, .pinned], laidTests := true, laidLooks := .later }
def ImagesSoundUptoCardSaid : Prop := Claim7.holds Tryz.pinned (.plain (OpenSpec.upto imagesSoundSpec)) imagesSoundUptoCard
end Rows
end Go.Proofs.YtpipdmfkbnbchaaGreatDoor
