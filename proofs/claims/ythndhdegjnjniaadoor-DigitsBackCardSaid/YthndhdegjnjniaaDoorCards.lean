/-
  DERIVED. GIVEN WITH THE SEED: THE CARDS: each row of YthndhdegjnjniaaDoorRows.lean that lists a variable, with what it lists TIED to the program's text (the seventh form; the later family's looks); each row that meets fmt, with fmt's text TOLD by the authors' own Lean function (tested against real Go, not proved from fmt's source: count such statements apart). THE CARD IS WHAT COUNTS. Prove the row's statement (the work); the ties are given (YthndhdegjnjniaaDoorTie.lean); close each card by the builder's one call (the guide's Derived/Test/ToyasCard.lean, 'card_holds'). Laid BY PROGRAM, IN A SANDBOX (cutbox-door.mjs). By AI agents, Wed Nov 11 2026. No macro, syntax, notation, axiom, sorry.
-/
import Derived.Test.YthndhdegjnjniaaDoorRows
import GoSem.ClaimSeven
namespace Go.Proofs.YthndhdegjnjniaaDoor
namespace Rows

/-- THE TIED CARD OF 'cooperagelaw01.DigitsDec'. -/
def digitsDecCard : Claim7 := { stood := { row := digitsDecRow, standIns := [], harness := (true, "5adec87763e621176d3f611e45513c08279cdf5b70c14ad653e4e45dee8caa01"), looks := true }, kinds := [], alts := [], laidByText := true, laidKinds := [.data, .data, .data, .sentinel, .sentinel], laidTests := true, laidLooks := .later }
def DigitsDecCardSaid : Prop := Claim7.holds Tryd.pinned (.plain (OpenSpec.ofChange digitsDecSpec)) digitsDecCard

/-- THE TIED CARD OF 'cooperagelaw01.DigitsHex'. -/
def digitsHexCard : Claim7 := { stood := { row := digitsHexRow, standIns := [], harness := (true, "5adec87763e621176d3f611e45513c08279cdf5b70c14ad653e4e45dee8caa01"), looks := true }, kinds := [], alts := [], laidByText := true, laidKinds := [.data, .data, .data, .sentinel, .sentinel], laidTests := true, laidLooks := .later }
def DigitsHexCardSaid : Prop := Claim7.holds Tryd.pinned (.plain (OpenSpec.ofChange digitsHexSpec)) digitsHexCard

/-- THE TIED CARD OF 'cooperagelaw01.DigitsOctal'. -/
def digitsOctalCard : Claim7 := { stood := { row := digitsOctalRow, standIns := [], harness := (true, "5adec87763e621176d3f611e45513c08279cdf5b70c14ad653e4e45dee8caa01"), looks := true }, kinds := [], alts := [], laidByText := true, laidKinds := [.data, .data, .data, .sentinel, .sentinel], laidTests := true, laidLooks := .later }
def DigitsOctalCardSaid : Prop := Claim7.holds Tryd.pinned (.plain (OpenSpec.ofChange digitsOctalSpec)) digitsOctalCard

/-- THE TIED CARD OF 'cooperagelaw01.DigitsBack'. -/
def digitsBackCard : Claim7 := { stood := { row := digitsBackRow, standIns := [], harness := (true, "5adec87763e621176d3f611e45513c08279cdf5b70c14ad653e4e45dee8caa01"), looks := true }, kinds := [], alts := [], laidByText := true, laidKinds := [.data, .data, .data, .sentinel, .sentinel], laidTests := true, laidLooks := .later }
def DigitsBackCardSaid : Prop := Claim7.holds Tryd.pinned (.plain (OpenSpec.ofChange digitsBackSpec)) digitsBackCard

/-- THE SECOND FORM's CARD OF 'cooperagelaw01.DigitsDec'. -/
def digitsDecUptoCard : Claim7 := { stood := { row := digitsDecUptoRow, standIns := [], harness := (true, "5adec87763e621176d3f611e45513c08279cdf5b70c14ad653e4e45dee8caa01"), looks := true }, kinds := [], alts := [], laidByText := true, laidKinds := [.data, .data, .data, .sentinel, .sentinel], laidTests := true, laidLooks := .later }
def DigitsDecUptoCardSaid : Prop := Claim7.holds Tryd.pinned (.plain (OpenSpec.upto digitsDecSpec)) digitsDecUptoCard

/-- THE SECOND FORM's CARD OF 'cooperagelaw01.DigitsHex'. -/
def digitsHexUptoCard : Claim7 := { stood := { row := digitsHexUptoRow, standIns := [], harness := (true, "5adec87763e621176d3f611e45513c08279cdf5b70c14ad653e4e45dee8caa01"), looks := true }, kinds := [], alts := [], laidByText := true, laidKinds := [.data, .data, .data, .sentinel, .sentinel], laidTests := true, laidLooks := .later }
def DigitsHexUptoCardSaid : Prop := Claim7.holds Tryd.pinned (.plain (OpenSpec.upto digitsHexSpec)) digitsHexUptoCard

/-- THE SECOND FORM's CARD OF 'cooperagelaw01.DigitsOctal'. -/
def digitsOctalUptoCard : Claim7 := { stood := { row := digitsOctalUptoRow, standIns := [], harness := (true, "5adec87763e621176d3f611e45513c08279cdf5b70c14ad653e4e45dee8caa01"), looks := true }, kinds := [], alts := [], laidByText := true, laidKinds := [.data, .data, .data, .sentinel, .sentinel], laidTests := true, laidLooks := .later }
def DigitsOctalUptoCardSaid : Prop := Claim7.holds Tryd.pinned (.plain (OpenSpec.upto digitsOctalSpec)) digitsOctalUptoCard

/-- THE SECOND FORM's CARD OF 'cooperagelaw01.DigitsBack'. -/
def digitsBackUptoCard : Claim7 := { stood := { row := digitsBackUptoRow, standIns := [], harness := (true, "5adec87763e621176d3f611e45513c08279cdf5b70c14ad653e4e45dee8caa01"), looks := true }, kinds := [], alts := [], laidByText := true, laidKinds := [.data, .data, .data, .sentinel, .sentinel], laidTests := true, laidLooks := .later }
def DigitsBackUptoCardSaid : Prop := Claim7.holds Tryd.pinned (.plain (OpenSpec.upto digitsBackSpec)) digitsBackUptoCard
end Rows
end Go.Proofs.YthndhdegjnjniaaDoor
