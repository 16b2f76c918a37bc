/-
  DERIVED. GIVEN WITH THE SEED: THE CARDS: each row of YtcebnmppipejfaaGreatDoorRows.lean that lists a variable, with what it lists TIED to the program's text (the seventh form; the later family's looks); each row that meets fmt, with fmt's text TOLD by the authors' own Lean function (tested against real Go, not proved from fmt's source: count such statements apart). THE CARD IS WHAT COUNTS. Prove the row's statement (the work); the ties are given (YtcebnmppipejfaaGreatDoorTie.lean); close each card by the builder's one call (the guide's Derived/Test/ToyasCard.lean, 'card_holds'). Laid BY PROGRAM, IN A SANDBOX (cutbox-door.mjs). By AI agents, Wed Nov 11 2026. No macro, syntax, notation, axiom, sorry.
-/
import Derived.Test.YtcebnmppipejfaaGreatDoorRows
import GoSem.ClaimSeven
namespace Go.Proofs.YtcebnmppipejfaaGreatDoor
namespace Rows

/-- THE TIED CARD OF 'cooperagelaw24.ModelRuns'. -/
def modelRunsCard : Claim7 := { stood := { row := modelRunsRow, standIns := [], harness := (true, "698839bfd419ff2e4eafeae76dc615d5144f5371f7e080f49faa4da3dfd27e88"), looks := false }, kinds := [], alts := [], laidByText := true, laidKinds := [.data, .pinned], laidTests := true, laidLooks := .later }
def ModelRunsCardSaid : Prop := Claim7.holds Tryz.pinned (.plain (OpenSpec.ofChange modelRunsSpec)) modelRunsCard

/-- THE TIED CARD OF 'cooperagelaw24.ModelNeeds'. -/
def modelNeedsCard : Claim7 := { stood := { row := modelNeedsRow, standIns := [], harness := (true, "698839bfd419ff2e4eafeae76dc615d5144f5371f7e080f49faa4da3dfd27e88"), looks := false }, kinds := [], alts := [], laidByText := true, laidKinds := [.data, .pinned], laidTests := true, laidLooks := .later }
def ModelNeedsCardSaid : Prop := Claim7.holds Tryz.pinned (.plain (OpenSpec.ofChange modelNeedsSpec)) modelNeedsCard

/-- THE TIED CARD OF 'cooperagelaw24.ModelParts'. -/
def modelPartsCard : Claim7 := { stood := { row := modelPartsRow, standIns := [], harness := (true, "698839bfd419ff2e4eafeae76dc615d5144f5371f7e080f49faa4da3dfd27e88"), looks := false }, kinds := [], alts := [], laidByText := true, laidKinds := [.data, .pinned], laidTests := true, laidLooks := .later }
def ModelPartsCardSaid : Prop := Claim7.holds Tryz.pinned (.plain (OpenSpec.ofChange modelPartsSpec)) modelPartsCard

/-- THE TIED CARD OF 'cooperagelaw24.ModelOthers'. -/
def modelOthersCard : Claim7 := { stood := { row := modelOthersRow, standIns := [], harness := (true, "698839bfd419ff2e4eafeae76dc615d5144f5371f7e080f49faa4da3dfd27e88"), looks := false }, kinds := [], alts := [], laidByText := true, laidKinds := [.data, .pinned], laidTests := true, laidLooks := .later }
def ModelOthersCardSaid : Prop := Claim7.holds Tryz.pinned (.plain (OpenSpec.ofChange modelOthersSpec)) modelOthersCard

/-- THE SECOND FORM's CARD OF 'cooperagelaw24.ModelRuns'. -/
def modelRunsUptoCard : Claim7 := { stood := { row := modelRunsUptoRow, standIns := [], harness := (true, "698839bfd419ff2e4eafeae76dc615d5144f5371f7e080f49faa4da3dfd27e88"), looks := false }, kinds := [], alts := [], laidByText := true, laidKinds := [.data, .pinned], laidTests := true, laidLooks := .later }
def ModelRunsUptoCardSaid : Prop := Claim7.holds Tryz.pinned (.plain (OpenSpec.upto modelRunsSpec)) modelRunsUptoCard

/-- THE SECOND FORM's CARD OF 'cooperagelaw24.ModelNeeds'. -/
def modelNeedsUptoCard : Claim7 := { stood := { row := modelNeedsUptoRow, standIns := [], harness := (true, "698839bfd419ff2e4eafeae76dc615d5144f5371f7e080f49faa4da3dfd27e88"), looks := false }, kinds := [], alts := [], laidByText := true, laidKinds := [.data, .pinned], laidTests := true, laidLooks := .later }
def ModelNeedsUptoCardSaid : Prop := Claim7.holds Tryz.pinned (.plain (OpenSpec.upto modelNeedsSpec)) modelNeedsUptoCard

/-- THE SECOND FORM's CARD OF 'cooperagelaw24.ModelParts'. -/
def modelPartsUptoCard : Claim7 := { stood := { row := modelPartsUptoRow, standIns := [], harness := (true, "698839bfd419ff2e4eafeae76dc615d5144f5371f7e080f49faa4da3dfd27e88"), looks := false }, kinds := [], alts := [], laidByText := true, laidKinds := [.data, .pinned], laidTests := true, laidLooks := .later }
def ModelPartsUptoCardSaid : Prop := Claim7.holds Tryz.pinned (.plain (OpenSpec.upto modelPartsSpec)) modelPartsUptoCard

/-- THE SECOND FORM's CARD OF 'cooperagelaw24.ModelOthers'. -/
def modelOthersUptoCard : Claim7 := { stood := { row := modelOthersUptoRow, standIns := [], harness := (true, "698839bfd419ff2e4eafeae76dc615d5144f5371f7e080f49faa4da3dfd27e88"), looks := false }, kinds := [], alts := [], laidByText := true, laidKinds := [.data, .pinned], laidTests := true, laidLooks := .later }
def ModelOthersUptoCardSaid : Prop := Claim7.holds Tryz.pinned (.plain (OpenSpec.upto modelOthersSpec)) modelOthersUptoCard
end Rows
end Go.Proofs.YtcebnmppipejfaaGreatDoor
