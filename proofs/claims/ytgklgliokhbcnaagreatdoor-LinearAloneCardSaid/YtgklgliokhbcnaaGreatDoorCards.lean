/-
  DERIVED. GIVEN WITH THE SEED: THE CARDS: each row of YtgklgliokhbcnaaGreatDoorRows.lean that lists a variable, with what it lists TIED to the program's text (the seventh form; the later family's looks); each row that meets fmt, with fmt's text TOLD by the authors' own Lean function (tested against real Go, not proved from fmt's source: count such statements apart). THE CARD IS WHAT COUNTS. Prove the row's statement (the work); the ties are given (YtgklgliokhbcnaaGreatDoorTie.lean); close each card by the builder's one call (the guide's Derived/Test/ToyasCard.lean, 'card_holds'). Laid BY PROGRAM, IN A SANDBOX (cutbox-door.mjs). By AI agents, Wed Nov 11 2026. No macro, syntax, notation, axiom, sorry.
-/
import Derived.Test.YtgklgliokhbcnaaGreatDoorRows
import GoSem.ClaimSeven
namespace Go.Proofs.YtgklgliokhbcnaaGreatDoor
namespace Rows

/-- THE TIED CARD OF 'cooperagelaw36.LinearFollows'. -/
def linearFollowsCard : Claim7 := { stood := { row := linearFollowsRow, standIns := [], harness := (true, "860dd744098db39ecb31017fe8e01f0429c3f39ae7fed3d24c81adc608ae965f"), looks := false }, kinds := [], alts := [], laidByText := true, laidKinds := [.data, .pinned], laidTests := true, laidLooks := .later }
def LinearFollowsCardSaid : Prop := Claim7.holds Tryz.pinned (.plain (OpenSpec.ofChange linearFollowsSpec)) linearFollowsCard

/-- THE TIED CARD OF 'cooperagelaw36.LinearAlone'. -/
def linearAloneCard : Claim7 := { stood := { row := linearAloneRow, standIns := [], harness := (true, "860dd744098db39ecb31017fe8e01f0429c3f39ae7fed3d24c81adc608ae965f"), looks := false }, kinds := [], alts := [], laidByText := true, laidKinds := [.data, .pinned], laidTests := true, laidLooks := .later }
def LinearAloneCardSaid : Prop := Claim7.holds Tryz.pinned (.plain (OpenSpec.ofChange linearAloneSpec)) linearAloneCard

/-- THE TIED CARD OF 'cooperagelaw36.LinearIs'. -/
def linearIsCard : Claim7 := { stood := { row := linearIsRow, standIns := [], harness := (true, "860dd744098db39ecb31017fe8e01f0429c3f39ae7fed3d24c81adc608ae965f"), looks := false }, kinds := [], alts := [], laidByText := true, laidKinds := [.data, .pinned], laidTests := true, laidLooks := .later }
def LinearIsCardSaid : Prop := Claim7.holds Tryz.pinned (.plain (OpenSpec.ofChange linearIsSpec)) linearIsCard

/-- THE SECOND FORM's CARD OF 'cooperagelaw36.LinearFollows'. -/
def linearFollowsUptoCard : Claim7 := { stood := { row := linearFollowsUptoRow, standIns := [], harness := (true, "860dd744098db39ecb31017fe8e01f0429c3f39ae7fed3d24c81adc608ae965f"), looks := false }, kinds := [], alts := [], laidByText := true, laidKinds := [.data, .pinned], laidTests := true, laidLooks := .later }
def LinearFollowsUptoCardSaid : Prop := Claim7.holds Tryz.pinned (.plain (OpenSpec.upto linearFollowsSpec)) linearFollowsUptoCard

/-- THE SECOND FORM's CARD OF 'cooperagelaw36.LinearAlone'. -/
def linearAloneUptoCard : Claim7 := { stood := { row := linearAloneUptoRow, standIns := [], harness := (true, "860dd744098db39ecb31017fe8e01f0429c3f39ae7fed3d24c81adc608ae965f"), looks := false }, kinds := [], alts := [], laidByText := true, laidKinds := [.data, .pinned], laidTests := true, laidLooks := .later }
def LinearAloneUptoCardSaid : Prop := Claim7.holds Tryz.pinned (.plain (OpenSpec.upto linearAloneSpec)) linearAloneUptoCard

/-- THE SECOND FORM's CARD OF 'cooperagelaw36.LinearIs'. -/
def linearIsUptoCard : Claim7 := { stood := { row := linearIsUptoRow, standIns := [], harness := (true, "860dd744098db39ecb31017fe8e01f0429c3f39ae7fed3d24c81adc608ae965f"), looks := false }, kinds := [], alts := [], laidByText := true, laidKinds := [.data, .pinned], laidTests := true, laidLooks := .later }
def LinearIsUptoCardSaid : Prop := Claim7.holds Tryz.pinned (.plain (OpenSpec.upto linearIsSpec)) linearIsUptoCard
end Rows
end Go.Proofs.YtgklgliokhbcnaaGreatDoor
