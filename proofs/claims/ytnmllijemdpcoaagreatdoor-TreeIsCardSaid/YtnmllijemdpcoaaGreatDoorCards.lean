/-
  DERIVED. GIVEN WITH THE SEED: THE CARDS: each row of YtnmllijemdpcoaaGreatDoorRows.lean that lists a variable, with what it lists TIED to the program's text (the seventh form; the later family's looks); each row that meets fmt, with fmt's text TOLD by the authors' own Lean function (tested against real Go, not proved from fmt's source: count such statements apart). THE CARD IS WHAT COUNTS. Prove the row's statement (the work); the ties are given (YtnmllijemdpcoaaGreatDoorTie.lean); close each card by the builder's one call (the guide's Derived/Test/ToyasCard.lean, 'card_holds'). Laid BY PROGRAM, IN A SANDBOX (cutbox-door.mjs). By AI agents, Wed Nov 11 2026. No macro, syntax, notation, axiom, sorry.
-/
import Derived.Test.YtnmllijemdpcoaaGreatDoorRows
import GoSem.ClaimSeven
namespace Go.Proofs.YtnmllijemdpcoaaGreatDoor
namespace Rows

/-- THE TIED CARD OF 'cooperagelaw14.TreePuts'. -/
def treePutsCard : Claim7 := { stood := { row := treePutsRow, standIns := [], harness := (true, "4c4446d35a38de3c3449e2cea297956620a99be7f5e0b79b401bfcbaa1ecff46"), looks := false }, kinds := [], alts := [], laidByText := true, laidKinds := [.data, .pinned], laidTests := true, laidLooks := .later }
def TreePutsCardSaid : Prop := Claim7.holds Tryz.pinned (.plain (OpenSpec.ofChange treePutsSpec)) treePutsCard

/-- THE TIED CARD OF 'cooperagelaw14.TreeTells'. -/
def treeTellsCard : Claim7 := { stood := { row := treeTellsRow, standIns := [], harness := (true, "4c4446d35a38de3c3449e2cea297956620a99be7f5e0b79b401bfcbaa1ecff46"), looks := false }, kinds := [], alts := [], laidByText := true, laidKinds := [.data, .pinned], laidTests := true, laidLooks := .later }
def TreeTellsCardSaid : Prop := Claim7.holds Tryz.pinned (.plain (OpenSpec.ofChange treeTellsSpec)) treeTellsCard

/-- THE TIED CARD OF 'cooperagelaw14.TreeIs'. -/
def treeIsCard : Claim7 := { stood := { row := treeIsRow, standIns := [], harness := (true, "4c4446d35a38de3c3449e2cea297956620a99be7f5e0b79b401bfcbaa1ecff46"), looks := false }, kinds := [], alts := [], laidByText := true, laidKinds := [.data, .pinned], laidTests := true, laidLooks := .later }
def TreeIsCardSaid : Prop := Claim7.holds Tryz.pinned (.plain (OpenSpec.ofChange treeIsSpec)) treeIsCard

/-- THE SECOND FORM's CARD OF 'cooperagelaw14.TreePuts'. -/
def treePutsUptoCard : Claim7 := { stood := { row := treePutsUptoRow, standIns := [], harness := (true, "4c4446d35a38de3c3449e2cea297956620a99be7f5e0b79b401bfcbaa1ecff46"), looks := false }, kinds := [], alts := [], laidByText := true, laidKinds := [.data, .pinned], laidTests := true, laidLooks := .later }
def TreePutsUptoCardSaid : Prop := Claim7.holds Tryz.pinned (.plain (OpenSpec.upto treePutsSpec)) treePutsUptoCard

/-- THE SECOND FORM's CARD OF 'cooperagelaw14.TreeTells'. -/
def treeTellsUptoCard : Claim7 := { stood := { row := treeTellsUptoRow, standIns := [], harness := (true, "4c4446d35a38de3c3449e2cea297956620a99be7f5e0b79b401bfcbaa1ecff46"), looks := false }, kinds := [], alts := [], laidByText := true, laidKinds := [.data, .pinned], laidTests := true, laidLooks := .later }
def TreeTellsUptoCardSaid : Prop := Claim7.holds Tryz.pinned (.plain (OpenSpec.upto treeTellsSpec)) treeTellsUptoCard

/-- THE SECOND FORM's CARD OF 'cooperagelaw14.TreeIs'. -/
def treeIsUptoCard : Claim7 := { stood := { row := treeIsUptoRow, standIns := [], harness := (true, "4c4446d35a38de3c3449e2cea297956620a99be7f5e0b79b401bfcbaa1ecff46"), looks := false }, kinds := [], alts := [], laidByText := true, laidKinds := [.data, .pinned], laidTests := true, laidLooks := .later }
def TreeIsUptoCardSaid : Prop := Claim7.holds Tryz.pinned (.plain (OpenSpec.upto treeIsSpec)) treeIsUptoCard
end Rows
end Go.Proofs.YtnmllijemdpcoaaGreatDoor
