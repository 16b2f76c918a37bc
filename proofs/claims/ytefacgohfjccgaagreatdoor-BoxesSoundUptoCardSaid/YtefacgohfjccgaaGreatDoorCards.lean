/-
  DERIVED. GIVEN WITH THE SEED: THE CARDS: each row of YtefacgohfjccgaaGreatDoorRows.lean that lists a variable, with what it lists TIED to the program's text (the seventh form; the later family's looks); each row that meets fmt, with fmt's text TOLD by the authors' own Lean function (tested against real Go, not proved from fmt's source: count such statements apart). THE CARD IS WHAT COUNTS. Prove the row's statement (the work); the ties are given (YtefacgohfjccgaaGreatDoorTie.lean); close each card by the builder's one call (the guide's Derived/Test/ToyasCard.lean, 'card_holds'). Laid BY PROGRAM, IN A SANDBOX (cutbox-door.mjs). By AI agents, Wed Nov 11 2026. No macro, syntax, notation, axiom, sorry.
-/
import Derived.Test.YtefacgohfjccgaaGreatDoorRows
import GoSem.ClaimSeven
namespace Go.Proofs.YtefacgohfjccgaaGreatDoor
namespace Rows

/-- THE TIED CARD OF 'cooperagelaw23.BoxesSound'. -/
def boxesSoundCard : Claim7 := { stood := { row := boxesSoundRow, standIns := [], harness := (true, "b7c239d1086d2a008ca2c4ffc8c28327b8af2272d8e611c7ea6bf87080ca8642"), looks := false }, kinds := [], alts := [], laidByText := true, laidKinds := [.data, .pinned], laidTests := true, laidLooks := .later }
def BoxesSoundCardSaid : Prop := Claim7.holds Tryz.pinned (.plain (OpenSpec.ofChange boxesSoundSpec)) boxesSoundCard

/-- THE SECOND FORM's CARD OF 'cooperagelaw23.BoxesSound'. -/
def boxesSoundUptoCard : Claim7 := { stood := { row := boxesSoundUptoRow, standIns := [], harness := (true, "b7c239d1086d2a008ca2c4ffc8c28327b8af2272d8e611c7ea6bf87080ca8642"), looks := false }, kinds := [], alts := [], laidByText := true, laidKinds := [.data, .pinned], laidTests := true, laidLooks := .later }
def BoxesSoundUptoCardSaid : Prop := Claim7.holds Tryz.pinned (.plain (OpenSpec.upto boxesSoundSpec)) boxesSoundUptoCard
end Rows
end Go.Proofs.YtefacgohfjccgaaGreatDoor
