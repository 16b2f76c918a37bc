/-
  DERIVED. GIVEN WITH THE SEED: THE CARDS: each row of YtkgjcocemmnpjaaDoorRows.lean that lists a variable, with what it lists TIED to the program's text (the seventh form; the later family's looks); each row that meets fmt, with fmt's text TOLD by the authors' own Lean function (tested against real Go, not proved from fmt's source: count such statements apart). THE CARD IS WHAT COUNTS. Prove the row's statement (the work); the ties are given (YtkgjcocemmnpjaaDoorTie.lean); close each card by the builder's one call (the guide's Derived/Test/ToyasCard.lean, 'card_holds'). Laid BY PROGRAM, IN A SANDBOX (cutbox-door.mjs). By AI agents, Wed Nov 11 2026. No macro, syntax, notation, axiom, sorry.
-/
import Derived.Test.YtkgjcocemmnpjaaDoorRows
import GoSem.ClaimSeven
namespace Go.Proofs.YtkgjcocemmnpjaaDoor
namespace Rows

/-- THE TIED CARD OF 'cooperagelaw27.SwapTemp'. -/
def swapTempCard : Claim7 := { stood := { row := swapTempRow, standIns := [], harness := (true, "2173ea45ef350c881b44db1dc14c58e0e8971b194e1e567113af64c8687957da"), looks := false }, kinds := [], alts := [], laidByText := true, laidKinds := [.data, .data, .data], laidTests := true, laidLooks := .later }
def SwapTempCardSaid : Prop := Claim7.holds Tryd.pinned (.plain (OpenSpec.ofChange swapTempSpec)) swapTempCard

/-- THE TIED CARD OF 'cooperagelaw27.SwapWhole'. -/
def swapWholeCard : Claim7 := { stood := { row := swapWholeRow, standIns := [], harness := (true, "2173ea45ef350c881b44db1dc14c58e0e8971b194e1e567113af64c8687957da"), looks := false }, kinds := [], alts := [], laidByText := true, laidKinds := [.data, .data, .data], laidTests := true, laidLooks := .later }
def SwapWholeCardSaid : Prop := Claim7.holds Tryd.pinned (.plain (OpenSpec.ofChange swapWholeSpec)) swapWholeCard

/-- THE TIED CARD OF 'cooperagelaw27.SwapAsks'. -/
def swapAsksCard : Claim7 := { stood := { row := swapAsksRow, standIns := [], harness := (true, "2173ea45ef350c881b44db1dc14c58e0e8971b194e1e567113af64c8687957da"), looks := false }, kinds := [], alts := [], laidByText := true, laidKinds := [.data, .data, .data], laidTests := true, laidLooks := .later }
def SwapAsksCardSaid : Prop := Claim7.holds Tryd.pinned (.plain (OpenSpec.ofChange swapAsksSpec)) swapAsksCard

/-- THE SECOND FORM's CARD OF 'cooperagelaw27.SwapTemp'. -/
def swapTempUptoCard : Claim7 := { stood := { row := swapTempUptoRow, standIns := [], harness := (true, "2173ea45ef350c881b44db1dc14c58e0e8971b194e1e567113af64c8687957da"), looks := false }, kinds := [], alts := [], laidByText := true, laidKinds := [.data, .data, .data], laidTests := true, laidLooks := .later }
def SwapTempUptoCardSaid : Prop := Claim7.holds Tryd.pinned (.plain (OpenSpec.upto swapTempSpec)) swapTempUptoCard

/-- THE SECOND FORM's CARD OF 'cooperagelaw27.SwapWhole'. -/
def swapWholeUptoCard : Claim7 := { stood := { row := swapWholeUptoRow, standIns := [], harness := (true, "2173ea45ef350c881b44db1dc14c58e0e8971b194e1e567113af64c8687957da"), looks := false }, kinds := [], alts := [], laidByText := true, laidKinds := [.data, .data, .data], laidTests := true, laidLooks := .later }
def SwapWholeUptoCardSaid : Prop := Claim7.holds Tryd.pinned (.plain (OpenSpec.upto swapWholeSpec)) swapWholeUptoCard

/-- THE SECOND FORM's CARD OF 'cooperagelaw27.SwapAsks'. -/
def swapAsksUptoCard : Claim7 := { stood := { row := swapAsksUptoRow, standIns := [], harness := (true, "2173ea45ef350c881b44db1dc14c58e0e8971b194e1e567113af64c8687957da"), looks := false }, kinds := [], alts := [], laidByText := true, laidKinds := [.data, .data, .data], laidTests := true, laidLooks := .later }
def SwapAsksUptoCardSaid : Prop := Claim7.holds Tryd.pinned (.plain (OpenSpec.upto swapAsksSpec)) swapAsksUptoCard
end Rows
end Go.Proofs.YtkgjcocemmnpjaaDoor
