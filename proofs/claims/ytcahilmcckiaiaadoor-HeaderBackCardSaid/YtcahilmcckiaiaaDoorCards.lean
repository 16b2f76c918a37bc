/-
  DERIVED. GIVEN WITH THE SEED: THE CARDS: each row of YtcahilmcckiaiaaDoorRows.lean that lists a variable, with what it lists TIED to the program's text (the seventh form; the later family's looks); each row that meets fmt, with fmt's text TOLD by the authors' own Lean function (tested against real Go, not proved from fmt's source: count such statements apart). THE CARD IS WHAT COUNTS. Prove the row's statement (the work); the ties are given (YtcahilmcckiaiaaDoorTie.lean); close each card by the builder's one call (the guide's Derived/Test/ToyasCard.lean, 'card_holds'). Laid BY PROGRAM, IN A SANDBOX (cutbox-door.mjs). By AI agents, Wed Nov 11 2026. No macro, syntax, notation, axiom, sorry.
-/
import Derived.Test.YtcahilmcckiaiaaDoorRows
import GoSem.ClaimSeven
namespace Go.Proofs.YtcahilmcckiaiaaDoor
namespace Rows

/-- THE TIED CARD OF 'cooperagelaw12.HeaderPuts'. -/
def headerPutsCard : Claim7 := { stood := { row := headerPutsRow, standIns := [], harness := (true, "0c88c9b7fc799b8238863e96cf0c8fed5e5f7b523ceb653da984e7f07da8ff65"), looks := false }, kinds := [], alts := [], laidByText := true, laidKinds := [.data, .pinned], laidTests := true, laidLooks := .later }
def HeaderPutsCardSaid : Prop := Claim7.holds Tryd.pinned (.plain (OpenSpec.ofChange headerPutsSpec)) headerPutsCard

/-- THE TIED CARD OF 'cooperagelaw12.HeaderBack'. -/
def headerBackCard : Claim7 := { stood := { row := headerBackRow, standIns := [], harness := (true, "0c88c9b7fc799b8238863e96cf0c8fed5e5f7b523ceb653da984e7f07da8ff65"), looks := false }, kinds := [], alts := [], laidByText := true, laidKinds := [.data, .pinned], laidTests := true, laidLooks := .later }
def HeaderBackCardSaid : Prop := Claim7.holds Tryd.pinned (.plain (OpenSpec.ofChange headerBackSpec)) headerBackCard

/-- THE TIED CARD OF 'cooperagelaw12.HeaderNot'. -/
def headerNotCard : Claim7 := { stood := { row := headerNotRow, standIns := [], harness := (true, "0c88c9b7fc799b8238863e96cf0c8fed5e5f7b523ceb653da984e7f07da8ff65"), looks := false }, kinds := [], alts := [], laidByText := true, laidKinds := [.data, .pinned], laidTests := true, laidLooks := .later }
def HeaderNotCardSaid : Prop := Claim7.holds Tryd.pinned (.plain (OpenSpec.ofChange headerNotSpec)) headerNotCard

/-- THE SECOND FORM's CARD OF 'cooperagelaw12.HeaderPuts'. -/
def headerPutsUptoCard : Claim7 := { stood := { row := headerPutsUptoRow, standIns := [], harness := (true, "0c88c9b7fc799b8238863e96cf0c8fed5e5f7b523ceb653da984e7f07da8ff65"), looks := false }, kinds := [], alts := [], laidByText := true, laidKinds := [.data, .pinned], laidTests := true, laidLooks := .later }
def HeaderPutsUptoCardSaid : Prop := Claim7.holds Tryd.pinned (.plain (OpenSpec.upto headerPutsSpec)) headerPutsUptoCard

/-- THE SECOND FORM's CARD OF 'cooperagelaw12.HeaderBack'. -/
def headerBackUptoCard : Claim7 := { stood := { row := headerBackUptoRow, standIns := [], harness := (true, "0c88c9b7fc799b8238863e96cf0c8fed5e5f7b523ceb653da984e7f07da8ff65"), looks := false }, kinds := [], alts := [], laidByText := true, laidKinds := [.data, .pinned], laidTests := true, laidLooks := .later }
def HeaderBackUptoCardSaid : Prop := Claim7.holds Tryd.pinned (.plain (OpenSpec.upto headerBackSpec)) headerBackUptoCard

/-- THE SECOND FORM's CARD OF 'cooperagelaw12.HeaderNot'. -/
def headerNotUptoCard : Claim7 := { stood := { row := headerNotUptoRow, standIns := [], harness := (true, "0c88c9b7fc799b8238863e96cf0c8fed5e5f7b523ceb653da984e7f07da8ff65"), looks := false }, kinds := [], alts := [], laidByText := true, laidKinds := [.data, .pinned], laidTests := true, laidLooks := .later }
def HeaderNotUptoCardSaid : Prop := Claim7.holds Tryd.pinned (.plain (OpenSpec.upto headerNotSpec)) headerNotUptoCard
end Rows
end Go.Proofs.YtcahilmcckiaiaaDoor
