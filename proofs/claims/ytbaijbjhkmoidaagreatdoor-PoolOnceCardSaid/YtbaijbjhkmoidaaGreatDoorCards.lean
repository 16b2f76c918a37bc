/-
  DERIVED. GIVEN WITH THE SEED: THE CARDS: each row of YtbaijbjhkmoidaaGreatDoorRows.lean that lists a variable, with what it lists TIED to the program's text (the seventh form; the later family's looks); each row that meets fmt, with fmt's text TOLD by the authors' own Lean function (tested against real Go, not proved from fmt's source: count such statements apart). THE CARD IS WHAT COUNTS. Prove the row's statement (the work); the ties are given (YtbaijbjhkmoidaaGreatDoorTie.lean); close each card by the builder's one call (the guide's Derived/Test/ToyasCard.lean, 'card_holds'). Laid BY PROGRAM, IN A SANDBOX (cutbox-door.mjs). By AI agents, Wed Nov 11 2026. No macro, syntax, notation, axiom, sorry.
-/
import Derived.Test.YtbaijbjhkmoidaaGreatDoorRows
import GoSem.ClaimSeven
namespace Go.Proofs.YtbaijbjhkmoidaaGreatDoor
namespace Rows

/-- THE TIED CARD OF 'cooperagelaw30.PoolAsks'. -/
def poolAsksCard : Claim7 := { stood := { row := poolAsksRow, standIns := [], harness := (true, "f4495a589d0c7b14f15a48ba1b3d8d9d6348b269dde173f8f15d8d973e1dc737"), looks := false }, kinds := [], alts := [], laidByText := true, laidKinds := [.data, .data, .data], laidTests := true, laidLooks := .later }
def PoolAsksCardSaid : Prop := Claim7.holds Tryz.pinned (.plain (OpenSpec.ofChange poolAsksSpec)) poolAsksCard

/-- THE TIED CARD OF 'cooperagelaw30.PoolOnce'. -/
def poolOnceCard : Claim7 := { stood := { row := poolOnceRow, standIns := [], harness := (true, "f4495a589d0c7b14f15a48ba1b3d8d9d6348b269dde173f8f15d8d973e1dc737"), looks := false }, kinds := [], alts := [], laidByText := true, laidKinds := [.data, .data, .data], laidTests := true, laidLooks := .later }
def PoolOnceCardSaid : Prop := Claim7.holds Tryz.pinned (.plain (OpenSpec.ofChange poolOnceSpec)) poolOnceCard

/-- THE SECOND FORM's CARD OF 'cooperagelaw30.PoolAsks'. -/
def poolAsksUptoCard : Claim7 := { stood := { row := poolAsksUptoRow, standIns := [], harness := (true, "f4495a589d0c7b14f15a48ba1b3d8d9d6348b269dde173f8f15d8d973e1dc737"), looks := false }, kinds := [], alts := [], laidByText := true, laidKinds := [.data, .data, .data], laidTests := true, laidLooks := .later }
def PoolAsksUptoCardSaid : Prop := Claim7.holds Tryz.pinned (.plain (OpenSpec.upto poolAsksSpec)) poolAsksUptoCard

/-- THE SECOND FORM's CARD OF 'cooperagelaw30.PoolOnce'. -/
def poolOnceUptoCard : Claim7 := { stood := { row := poolOnceUptoRow, standIns := [], harness := (true, "f4495a589d0c7b14f15a48ba1b3d8d9d6348b269dde173f8f15d8d973e1dc737"), looks := false }, kinds := [], alts := [], laidByText := true, laidKinds := [.data, .data, .data], laidTests := true, laidLooks := .later }
def PoolOnceUptoCardSaid : Prop := Claim7.holds Tryz.pinned (.plain (OpenSpec.upto poolOnceSpec)) poolOnceUptoCard
end Rows
end Go.Proofs.YtbaijbjhkmoidaaGreatDoor
