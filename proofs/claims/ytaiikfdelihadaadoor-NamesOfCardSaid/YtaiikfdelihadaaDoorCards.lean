/-
  DERIVED. GIVEN WITH THE SEED: THE CARDS: each row of YtaiikfdelihadaaDoorRows.lean that lists a variable, with what it lists TIED to the program's text (the seventh form; the later family's looks); each row that meets fmt, with fmt's text TOLD by the authors' own Lean function (tested against real Go, not proved from fmt's source: count such statements apart). THE CARD IS WHAT COUNTS. Prove the row's statement (the work); the ties are given (YtaiikfdelihadaaDoorTie.lean); close each card by the builder's one call (the guide's Derived/Test/ToyasCard.lean, 'card_holds'). Laid BY PROGRAM, IN A SANDBOX (cutbox-door.mjs). By AI agents, Wed Nov 11 2026. No macro, syntax, notation, axiom, sorry.
-/
import Derived.Test.YtaiikfdelihadaaDoorRows
import GoSem.ClaimSeven
namespace Go.Proofs.YtaiikfdelihadaaDoor
namespace Rows

/-- THE TIED CARD OF 'cooperagelaw17.NamesIs'. -/
def namesIsCard : Claim7 := { stood := { row := namesIsRow, standIns := [], harness := (true, "f7fee19bed5ba55734549f2422d0676da128c8ff02cd4a44cd14258e5b7c1e67"), looks := false }, kinds := [], alts := [], laidByText := true, laidKinds := [.data, .pinned], laidTests := true, laidLooks := .later }
def NamesIsCardSaid : Prop := Claim7.holds Tryd.pinned (.plain (OpenSpec.ofChange namesIsSpec)) namesIsCard

/-- THE TIED CARD OF 'cooperagelaw17.NamesOf'. -/
def namesOfCard : Claim7 := { stood := { row := namesOfRow, standIns := [], harness := (true, "f7fee19bed5ba55734549f2422d0676da128c8ff02cd4a44cd14258e5b7c1e67"), looks := false }, kinds := [], alts := [], laidByText := true, laidKinds := [.data, .pinned], laidTests := true, laidLooks := .later }
def NamesOfCardSaid : Prop := Claim7.holds Tryd.pinned (.plain (OpenSpec.ofChange namesOfSpec)) namesOfCard

/-- THE TIED CARD OF 'cooperagelaw17.NamesAlone'. -/
def namesAloneCard : Claim7 := { stood := { row := namesAloneRow, standIns := [], harness := (true, "f7fee19bed5ba55734549f2422d0676da128c8ff02cd4a44cd14258e5b7c1e67"), looks := false }, kinds := [], alts := [], laidByText := true, laidKinds := [.data, .pinned], laidTests := true, laidLooks := .later }
def NamesAloneCardSaid : Prop := Claim7.holds Tryd.pinned (.plain (OpenSpec.ofChange namesAloneSpec)) namesAloneCard

/-- THE SECOND FORM's CARD OF 'cooperagelaw17.NamesIs'. -/
def namesIsUptoCard : Claim7 := { stood := { row := namesIsUptoRow, standIns := [], harness := (true, "f7fee19bed5ba55734549f2422d0676da128c8ff02cd4a44cd14258e5b7c1e67"), looks := false }, kinds := [], alts := [], laidByText := true, laidKinds := [.data, .pinned], laidTests := true, laidLooks := .later }
def NamesIsUptoCardSaid : Prop := Claim7.holds Tryd.pinned (.plain (OpenSpec.upto namesIsSpec)) namesIsUptoCard

/-- THE SECOND FORM's CARD OF 'cooperagelaw17.NamesOf'. -/
def namesOfUptoCard : Claim7 := { stood := { row := namesOfUptoRow, standIns := [], harness := (true, "f7fee19bed5ba55734549f2422d0676da128c8ff02cd4a44cd14258e5b7c1e67"), looks := false }, kinds := [], alts := [], laidByText := true, laidKinds := [.data, .pinned], laidTests := true, laidLooks := .later }
def NamesOfUptoCardSaid : Prop := Claim7.holds Tryd.pinned (.plain (OpenSpec.upto namesOfSpec)) namesOfUptoCard

/-- THE SECOND FORM's CARD OF 'cooperagelaw17.NamesAlone'. -/
def namesAloneUptoCard : Claim7 := { stood := { row := namesAloneUptoRow, standIns := [], harness := (true, "f7fee19bed5ba55734549f2422d0676da128c8ff02cd4a44cd14258e5b7c1e67"), looks := false }, kinds := [], alts := [], laidByText := true, laidKinds := [.data, .pinned], laidTests := true, laidLooks := .later }
def NamesAloneUptoCardSaid : Prop := Claim7.holds Tryd.pinned (.plain (OpenSpec.upto namesAloneSpec)) namesAloneUptoCard
end Rows
end Go.Proofs.YtaiikfdelihadaaDoor
