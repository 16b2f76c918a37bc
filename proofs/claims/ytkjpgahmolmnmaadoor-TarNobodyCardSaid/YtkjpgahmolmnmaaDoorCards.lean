/-
  DERIVED. GIVEN WITH THE SEED: THE CARDS: each row of YtkjpgahmolmnmaaDoorRows.lean that lists a variable, with what it lists TIED to the program's text (the seventh form; the later family's looks); each row that meets fmt, with fmt's text TOLD by the authors' own Lean function (tested against real Go, not proved from fmt's source: count such statements apart). THE CARD IS WHAT COUNTS. Prove the row's statement (the work); the ties are given (YtkjpgahmolmnmaaDoorTie.lean); close each card by the builder's one call (the guide's Derived/Test/ToyasCard.lean, 'card_holds'). Laid BY PROGRAM, IN A SANDBOX (cutbox-door.mjs). By AI agents, Wed Nov 11 2026. No macro, syntax, notation, axiom, sorry.
-/
import Derived.Test.YtkjpgahmolmnmaaDoorRows
import GoSem.ClaimSeven
namespace Go.Proofs.YtkjpgahmolmnmaaDoor
namespace Rows

/-- THE TIED CARD OF 'cooperagelaw13.TarWrites'. -/
def tarWritesCard : Claim7 := { stood := { row := tarWritesRow, standIns := [], harness := (true, "4031598a8355453b2243b4014c116093762f81bf68074fc7233b814efde11f72"), looks := false }, kinds := [], alts := [], laidByText := true, laidKinds := [.data, .pinned], laidTests := true, laidLooks := .later }
def TarWritesCardSaid : Prop := Claim7.holds Tryd.pinned (.plain (OpenSpec.ofChange tarWritesSpec)) tarWritesCard

/-- THE TIED CARD OF 'cooperagelaw13.TarBack'. -/
def tarBackCard : Claim7 := { stood := { row := tarBackRow, standIns := [], harness := (true, "4031598a8355453b2243b4014c116093762f81bf68074fc7233b814efde11f72"), looks := false }, kinds := [], alts := [], laidByText := true, laidKinds := [.data, .pinned], laidTests := true, laidLooks := .later }
def TarBackCardSaid : Prop := Claim7.holds Tryd.pinned (.plain (OpenSpec.ofChange tarBackSpec)) tarBackCard

/-- THE TIED CARD OF 'cooperagelaw13.TarNobody'. -/
def tarNobodyCard : Claim7 := { stood := { row := tarNobodyRow, standIns := [], harness := (true, "4031598a8355453b2243b4014c116093762f81bf68074fc7233b814efde11f72"), looks := false }, kinds := [], alts := [], laidByText := true, laidKinds := [.data, .pinned], laidTests := true, laidLooks := .later }
def TarNobodyCardSaid : Prop := Claim7.holds Tryd.pinned (.plain (OpenSpec.ofChange tarNobodySpec)) tarNobodyCard

/-- THE SECOND FORM's CARD OF 'cooperagelaw13.TarWrites'. -/
def tarWritesUptoCard : Claim7 := { stood := { row := tarWritesUptoRow, standIns := [], harness := (true, "4031598a8355453b2243b4014c116093762f81bf68074fc7233b814efde11f72"), looks := false }, kinds := [], alts := [], laidByText := true, laidKinds := [.data, .pinned], laidTests := true, laidLooks := .later }
def TarWritesUptoCardSaid : Prop := Claim7.holds Tryd.pinned (.plain (OpenSpec.upto tarWritesSpec)) tarWritesUptoCard

/-- THE SECOND FORM's CARD OF 'cooperagelaw13.TarBack'. -/
def tarBackUptoCard : Claim7 := { stood := { row := tarBackUptoRow, standIns := [], harness := (true, "4031598a8355453b2243b4014c116093762f81bf68074fc7233b814efde11f72"), looks := false }, kinds := [], alts := [], laidByText := true, laidKinds := [.data, .pinned], laidTests := true, laidLooks := .later }
def TarBackUptoCardSaid : Prop := Claim7.holds Tryd.pinned (.plain (OpenSpec.upto tarBackSpec)) tarBackUptoCard

/-- THE SECOND FORM's CARD OF 'cooperagelaw13.TarNobody'. -/
def tarNobodyUptoCard : Claim7 := { stood := { row := tarNobodyUptoRow, standIns := [], harness := (true, "4031598a8355453b2243b4014c116093762f81bf68074fc7233b814efde11f72"), looks := false }, kinds := [], alts := [], laidByText := true, laidKinds := [.data, .pinned], laidTests := true, laidLooks := .later }
def TarNobodyUptoCardSaid : Prop := Claim7.holds Tryd.pinned (.plain (OpenSpec.upto tarNobodySpec)) tarNobodyUptoCard
end Rows
end Go.Proofs.YtkjpgahmolmnmaaDoor
