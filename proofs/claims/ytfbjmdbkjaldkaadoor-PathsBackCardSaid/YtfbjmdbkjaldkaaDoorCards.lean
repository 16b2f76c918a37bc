/-
  DERIVED. GIVEN WITH THE SEED: THE CARDS: each row of YtfbjmdbkjaldkaaDoorRows.lean that lists a variable, with what it lists TIED to the program's text (the seventh form; the later family's looks); each row that meets fmt, with fmt's text TOLD by the authors' own Lean function (tested against real Go, not proved from fmt's source: count such statements apart). THE CARD IS WHAT COUNTS. Prove the row's statement (the work); the ties are given (YtfbjmdbkjaldkaaDoorTie.lean); close each card by the builder's one call (the guide's Derived/Test/ToyasCard.lean, 'card_holds'). Laid BY PROGRAM, IN A SANDBOX (cutbox-door.mjs). By AI agents, Wed Nov 11 2026. No macro, syntax, notation, axiom, sorry.
-/
import Derived.Test.YtfbjmdbkjaldkaaDoorRows
import GoSem.ClaimSeven
namespace Go.Proofs.YtfbjmdbkjaldkaaDoor
namespace Rows

/-- THE TIED CARD OF 'cooperagelaw07.PathsClean'. -/
def pathsCleanCard : Claim7 := { stood := { row := pathsCleanRow, standIns := [], harness := (true, "fb973e3344b281ccc50d0cce57b9e4c0edda4463c30540e0bc1aef1a455d9b4d"), looks := false }, kinds := [], alts := [], laidByText := true, laidKinds := [.data, .pinned], laidTests := true, laidLooks := .later }
def PathsCleanCardSaid : Prop := Claim7.holds Tryd.pinned (.plain (OpenSpec.ofChange pathsCleanSpec)) pathsCleanCard

/-- THE TIED CARD OF 'cooperagelaw07.PathsParts'. -/
def pathsPartsCard : Claim7 := { stood := { row := pathsPartsRow, standIns := [], harness := (true, "fb973e3344b281ccc50d0cce57b9e4c0edda4463c30540e0bc1aef1a455d9b4d"), looks := false }, kinds := [], alts := [], laidByText := true, laidKinds := [.data, .pinned], laidTests := true, laidLooks := .later }
def PathsPartsCardSaid : Prop := Claim7.holds Tryd.pinned (.plain (OpenSpec.ofChange pathsPartsSpec)) pathsPartsCard

/-- THE TIED CARD OF 'cooperagelaw07.PathsBack'. -/
def pathsBackCard : Claim7 := { stood := { row := pathsBackRow, standIns := [], harness := (true, "fb973e3344b281ccc50d0cce57b9e4c0edda4463c30540e0bc1aef1a455d9b4d"), looks := false }, kinds := [], alts := [], laidByText := true, laidKinds := [.data, .pinned], laidTests := true, laidLooks := .later }
def PathsBackCardSaid : Prop := Claim7.holds Tryd.pinned (.plain (OpenSpec.ofChange pathsBackSpec)) pathsBackCard

/-- THE SECOND FORM's CARD OF 'cooperagelaw07.PathsClean'. -/
def pathsCleanUptoCard : Claim7 := { stood := { row := pathsCleanUptoRow, standIns := [], harness := (true, "fb973e3344b281ccc50d0cce57b9e4c0edda4463c30540e0bc1aef1a455d9b4d"), looks := false }, kinds := [], alts := [], laidByText := true, laidKinds := [.data, .pinned], laidTests := true, laidLooks := .later }
def PathsCleanUptoCardSaid : Prop := Claim7.holds Tryd.pinned (.plain (OpenSpec.upto pathsCleanSpec)) pathsCleanUptoCard

/-- THE SECOND FORM's CARD OF 'cooperagelaw07.PathsParts'. -/
def pathsPartsUptoCard : Claim7 := { stood := { row := pathsPartsUptoRow, standIns := [], harness := (true, "fb973e3344b281ccc50d0cce57b9e4c0edda4463c30540e0bc1aef1a455d9b4d"), looks := false }, kinds := [], alts := [], laidByText := true, laidKinds := [.data, .pinned], laidTests := true, laidLooks := .later }
def PathsPartsUptoCardSaid : Prop := Claim7.holds Tryd.pinned (.plain (OpenSpec.upto pathsPartsSpec)) pathsPartsUptoCard

/-- THE SECOND FORM's CARD OF 'cooperagelaw07.PathsBack'. -/
def pathsBackUptoCard : Claim7 := { stood := { row := pathsBackUptoRow, standIns := [], harness := (true, "fb973e3344b281ccc50d0cce57b9e4c0edda4463c30540e0bc1aef1a455d9b4d"), looks := false }, kinds := [], alts := [], laidByText := true, laidKinds := [.data, .pinned], laidTests := true, laidLooks := .later }
def PathsBackUptoCardSaid : Prop := Claim7.holds Tryd.pinned (.plain (OpenSpec.upto pathsBackSpec)) pathsBackUptoCard
end Rows
end Go.Proofs.YtfbjmdbkjaldkaaDoor
