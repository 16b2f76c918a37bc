/-
  DERIVED. GIVEN WITH THE SEED: THE CARDS: each row of YtiggcolkhajijaaGreatDoorRows.lean that lists a variable, with what it lists TIED to the program's text (the seventh form; the later family's looks); each row that meets fmt, with fmt's text TOLD by the authors' own Lean function (tested against real Go, not proved from fmt's source: count such statements apart). THE CARD IS WHAT COUNTS. Prove the row's statement (the work); the ties are given (YtiggcolkhajijaaGreatDoorTie.lean); close each card by the builder's one call (the guide's Derived/Test/ToyasCard.lean, 'card_holds'). Laid BY PROGRAM, IN A SANDBOX (cutbox-door.mjs). By AI agents, Wed Nov 11 2026. No macro, syntax, notation, axiom, sorry.
-/
import Derived.Test.YtiggcolkhajijaaGreatDoorRows
import GoSem.ClaimSeven
namespace Go.Proofs.YtiggcolkhajijaaGreatDoor
namespace Rows

/-- THE TIED CARD OF 'cooperagelaw16.DeltaIs'. -/
def deltaIsCard : Claim7 := { stood := { row := deltaIsRow, standIns := [], harness := (true, "44767eb3401bb56c767151ed17e831f0089bc463a61f188153603cec4863a2a5"), looks := false }, kinds := [], alts := [], laidByText := true, laidKinds := [.data, .pinned], laidTests := true, laidLooks := .later }
def DeltaIsCardSaid : Prop := Claim7.holds Tryz.pinned (.plain (OpenSpec.ofChange deltaIsSpec)) deltaIsCard

/-- THE TIED CARD OF 'cooperagelaw16.DeltaTurns'. -/
def deltaTurnsCard : Claim7 := { stood := { row := deltaTurnsRow, standIns := [], harness := (true, "44767eb3401bb56c767151ed17e831f0089bc463a61f188153603cec4863a2a5"), looks := false }, kinds := [], alts := [], laidByText := true, laidKinds := [.data, .pinned], laidTests := true, laidLooks := .later }
def DeltaTurnsCardSaid : Prop := Claim7.holds Tryz.pinned (.plain (OpenSpec.ofChange deltaTurnsSpec)) deltaTurnsCard

/-- THE SECOND FORM's CARD OF 'cooperagelaw16.DeltaIs'. -/
def deltaIsUptoCard : Claim7 := { stood := { row := deltaIsUptoRow, standIns := [], harness := (true, "44767eb3401bb56c767151ed17e831f0089bc463a61f188153603cec4863a2a5"), looks := false }, kinds := [], alts := [], laidByText := true, laidKinds := [.data, .pinned], laidTests := true, laidLooks := .later }
def DeltaIsUptoCardSaid : Prop := Claim7.holds Tryz.pinned (.plain (OpenSpec.upto deltaIsSpec)) deltaIsUptoCard

/-- THE SECOND FORM's CARD OF 'cooperagelaw16.DeltaTurns'. -/
def deltaTurnsUptoCard : Claim7 := { stood := { row := deltaTurnsUptoRow, standIns := [], harness := (true, "44767eb3401bb56c767151ed17e831f0089bc463a61f188153603cec4863a2a5"), looks := false }, kinds := [], alts := [], laidByText := true, laidKinds := [.data, .pinned], laidTests := true, laidLooks := .later }
def DeltaTurnsUptoCardSaid : Prop := Claim7.holds Tryz.pinned (.plain (OpenSpec.upto deltaTurnsSpec)) deltaTurnsUptoCard
end Rows
end Go.Proofs.YtiggcolkhajijaaGreatDoor
