/-
  No cell of these rows narrows 'for every input' (looked for: loops, veiled, ifaces, maps, wideKeys, modest, calm, conditions, laid).
  DERIVED. THE GIVEN ROWS OF THIS SEAT. 3 by the template 'for every input the law returns true; each argument reads behind the call as it read before'; 0 by the template 'total and deterministic' (their statements: YtfhnambfdibjjaaTotals.lean).
  GIVEN WITH THE SEED: the statements are not yours to turn. If you find one false, say at which input.
  Laid BY PROGRAM, IN A SANDBOX (cutbox-rows.mjs): the forced cells as the released guide's own fill.sh prints them over the translation 1ac29d96002cc0cc… (all of the seat's roots in one cut). By AI agents, Wed Nov 11 2026. No macro, syntax, notation, axiom, sorry.
-/
import Derived.Test.YtfhnambfdibjjaaChecked
import GoSem.Claim
import GoSem.ClaimJoined
import GoSem.ClaimMapViews
import Derived.JoinedTies
import Derived.KernelRfl
namespace Go.Proofs.Ytfhnambfdibjjaa
/- THE CELL 'sum', in the pinned program and in every row, IS THE sha256 OF THE DUMP (.gsa) THAT YtfhnambfdibjjaaProg.lean LOADS. Nothing in Lean hashes anything: it is a label: what it is worth is what the hold of that sum in a sandbox is worth. -/
noncomputable def Try.pinned : Pinned := { name := "ytfhnambfdibjjaa", sum := "1ac29d96002cc0cc20f5a476fc268e9871113cdff83848ec487bc74d22bba112", checked := Try.checked }
namespace Rows
def none {H : Type} : Left H := { results := [], args := [] }

/-- 'cooperagelaw02.ShaIs': WHATEVER THE INPUT: true; the input reads as it did. -/
def shaIsSpec : ChangeSpec := { name := "shaIs", fn := fun _ => fun
  | [d] => { results := [.lit (.bool true)], args := [d] }
  | _ => none }
def shaIsRow : OpenClaim := { program := "ytfhnambfdibjjaa", sum := "1ac29d96002cc0cc20f5a476fc268e9871113cdff83848ec487bc74d22bba112", func := "cooperage/cooperagelaw02.ShaIs", spec := "shaIs", apart := false }
def ShaIsSaid : Prop := shaIsRow.holds Try.pinned (OpenSpec.ofChange shaIsSpec)

/-- ITS FALSE NEIGHBOUR: 'it returns false'. Refute it at one input. -/
def shaIsWrong : ChangeSpec := { name := "shaIs", fn := fun _ => fun
  | [d] => { results := [.lit (.bool false)], args := [d] }
  | _ => none }
def ShaIsWrongFalsely : Prop := shaIsRow.holds Try.pinned (OpenSpec.ofChange shaIsWrong)

/-- 'cooperagelaw02.ShaParts': WHATEVER THE INPUT: true; the input reads as it did. -/
def shaPartsSpec : ChangeSpec := { name := "shaParts", fn := fun _ => fun
  | [d] => { results := [.lit (.bool true)], args := [d] }
  | _ => none }
def shaPartsRow : OpenClaim := { program := "ytfhnambfdibjjaa", sum := "1ac29d96002cc0cc20f5a476fc268e9871113cdff83848ec487bc74d22bba112", func := "cooperage/cooperagelaw02.ShaParts", spec := "shaParts", apart := false }
def ShaPartsSaid : Prop := shaPartsRow.holds Try.pinned (OpenSpec.ofChange shaPartsSpec)

/-- ITS FALSE NEIGHBOUR: 'it returns false'. Refute it at one input. -/
def shaPartsWrong : ChangeSpec := { name := "shaParts", fn := fun _ => fun
  | [d] => { results := [.lit (.bool false)], args := [d] }
  | _ => none }
def ShaPartsWrongFalsely : Prop := shaPartsRow.holds Try.pinned (OpenSpec.ofChange shaPartsWrong)

/-- 'cooperagelaw02.ShaNobody': WHATEVER THE INPUT: true; the input reads as it did. -/
def shaNobodySpec : ChangeSpec := { name := "shaNobody", fn := fun _ => fun
  | [d] => { results := [.lit (.bool true)], args := [d] }
  | _ => none }
def shaNobodyRow : OpenClaim := { program := "ytfhnambfdibjjaa", sum := "1ac29d96002cc0cc20f5a476fc268e9871113cdff83848ec487bc74d22bba112", func := "cooperage/cooperagelaw02.ShaNobody", spec := "shaNobody", apart := false }
def ShaNobodySaid : Prop := shaNobodyRow.holds Try.pinned (OpenSpec.ofChange shaNobodySpec)

/-- ITS FALSE NEIGHBOUR: 'it returns false'. Refute it at one input. -/
def shaNobodyWrong : ChangeSpec := { name := "shaNobody", fn := fun _ => fun
  | [d] => { results := [.lit (.bool false)], args := [d] }
  | _ => none }
def ShaNobodyWrongFalsely : Prop := shaNobodyRow.holds Try.pinned (OpenSpec.ofChange shaNobodyWrong)

/- THE SECOND FORM. 'bulk': how many values and letters a reading holds, each counted each time it is reached (what is shared counts as often as it is met; a slice's spare places count too). A statement '..UptoSaid' is the law's where the arguments, and the package variables that the reading takes, are together of bulk at most 1048576: NARROWER than '..Said'. Prove '..Said' where nothing that the law and all that it calls make is longer than what came in: it says more and counts as full. Else prove '..UptoSaid'. A law counts once. -/
mutual
def uptoBulk {H : Type} : DataW H → Nat
  | .lit (.string bytes) => bytes.length + 1
  | .lit _ => 1
  | .nil => 1
  | .ptr d => uptoBulk d + 1
  | .slice elems spare => uptoBulkAll elems + uptoBulkAll spare + 1
  | .agg parts => uptoBulkAll parts + 1
  | .iface _ d => uptoBulk d + 1
  | .map entries => uptoBulkEntries entries + 1
  | .held _ => 1
def uptoBulkAll {H : Type} : List (DataW H) → Nat
  | [] => 0
  | d :: r => uptoBulk d + uptoBulkAll r
def uptoBulkEntries {H : Type} : List (Lit × DataW H) → Nat
  | [] => 0
  | x :: r => uptoBulkEntry x + uptoBulkEntries r
def uptoBulkEntry {H : Type} : Lit × DataW H → Nat
  | (.string bytes, d) => bytes.length + uptoBulk d + 1
  | (_, d) => uptoBulk d + 1
 end
def uptoSmall : (H : Type) → List (DataW H) → Bool := fun _ ds => decide (uptoBulkAll ds ≤ 1048576)
def OpenSpec.upto (s : _root_.Go.ChangeSpec) : _root_.Go.OpenSpec := { _root_.Go.OpenSpec.ofChange s with cond := some uptoSmall }

/-- 'cooperagelaw02.ShaIs', WHERE WHAT IT READS IS OF BULK AT MOST 1048576: true; the input reads as it did. -/
def shaIsUptoRow : OpenClaim := { program := "ytfhnambfdibjjaa", sum := "1ac29d96002cc0cc20f5a476fc268e9871113cdff83848ec487bc74d22bba112", func := "cooperage/cooperagelaw02.ShaIs", spec := "shaIs", apart := false, narrowed := true }
def ShaIsUptoSaid : Prop := shaIsUptoRow.holds Try.pinned (OpenSpec.upto shaIsSpec)

/-- 'cooperagelaw02.ShaParts', WHERE WHAT IT READS IS OF BULK AT MOST 1048576: true; the input reads as it did. -/
def shaPartsUptoRow : OpenClaim := { program := "ytfhnambfdibjjaa", sum := "1ac29d96002cc0cc20f5a476fc268e9871113cdff83848ec487bc74d22bba112", func := "cooperage/cooperagelaw02.ShaParts", spec := "shaParts", apart := false, narrowed := true }
def ShaPartsUptoSaid : Prop := shaPartsUptoRow.holds Try.pinned (OpenSpec.upto shaPartsSpec)

/-- 'cooperagelaw02.ShaNobody', WHERE WHAT IT READS IS OF BULK AT MOST 1048576: true; the input reads as it did. -/
def shaNobodyUptoRow : OpenClaim := { program := "ytfhnambfdibjjaa", sum := "1ac29d96002cc0cc20f5a476fc268e9871113cdff83848ec487bc74d22bba112", func := "cooperage/cooperagelaw02.ShaNobody", spec := "shaNobody", apart := false, narrowed := true }
def ShaNobodyUptoSaid : Prop := shaNobodyUptoRow.holds Try.pinned (OpenSpec.upto shaNobodySpec)

end Rows
end Go.Proofs.Ytfhnambfdibjjaa
