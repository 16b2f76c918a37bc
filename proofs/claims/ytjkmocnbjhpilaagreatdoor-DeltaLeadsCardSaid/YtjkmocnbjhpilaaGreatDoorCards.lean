/-
  DERIVED. GIVEN WITH THE SEED: THE CARDS: each row of YtjkmocnbjhpilaaGreatDoorRows.lean that lists a variable, with what it lists TIED to the program's text (the seventh form; the later family's looks); each row that meets fmt, with fmt's text TOLD by the authors' own Lean function (tested against real Go, not proved from fmt's source: count such statements apart). THE CARD IS WHAT COUNTS. Prove the row's statement (the work); the ties are given (YtjkmocnbjhpilaaGreatDoorTie.lean); close each card by the builder's one call (the guide's Derived/Test/ToyasCard.lean, 'card_holds'). Laid BY PROGRAM, IN A SANDBOX (cutbox-door.mjs). By AI agents, Wed Nov 11 2026. No macro, syntax, notation, axiom, sorry.
-/
import Derived.Test.YtjkmocnbjhpilaaGreatDoorRows
import GoSem.ClaimSeven
namespace Go.Proofs.YtjkmocnbjhpilaaGreatDoor
namespace Rows

/-- THE TIED CARD OF 'cooperagelaw16.DeltaLeads'. -/
def deltaLeadsCard : Claim7 := { stood := { row := deltaLeadsRow, standIns := [], harness := (true, "fd0b54c094ff70d4d59e93268b93842ab90db58e164a2604440beee802322551"), looks := false }, kinds := [], alts := [], laidByText := true, laidKinds := [.data, .pinned], laidTests := true, laidLooks := .later }
def DeltaLeadsCardSaid : Prop := Claim7.holds Tryz.pinned (.plain (OpenSpec.ofChange deltaLeadsSpec)) deltaLeadsCard

/-- THE SECOND FORM's CARD OF 'cooperagelaw16.DeltaLeads'. -/
def deltaLeadsUptoCard : Claim7 := { stood := { row := deltaLeadsUptoRow, standIns := [], harness := (true, "fd0b54c094ff70d4d59e93268b93842ab90db58e164a2604440beee802322551"), looks := false }, kinds := [], alts := [], laidByText := true, laidKinds := [.data, .pinned], laidTests := true, laidLooks := .later }
def DeltaLeadsUptoCardSaid : Prop := Claim7.holds Tryz.pinned (.plain (OpenSpec.upto deltaLeadsSpec)) deltaLeadsUptoCard
end Rows
end Go.Proofs.YtjkmocnbjhpilaaGreatDoor
