/-
  No cell of these rows narrows 'for every input' (looked for: loops, veiled, ifaces, maps, wideKeys, modest, calm, conditions, laid).
  DERIVED. THE GIVEN ROWS OF THIS SEAT. 3 by the template 'for every input the law returns true; each argument reads behind the call as it read before'; 0 by the template 'total and deterministic' (their statements: YthhkijiamblgaaaTotals.lean).
  GIVEN WITH THE SEED: the statements are not yours to turn. If you find one false, say at which input.
  Laid BY PROGRAM, IN A SANDBOX (cutbox-rows.mjs): the forced cells as the released guide's own fill.sh prints them over the translation cc32042dd00c1d1d… (all of the seat's roots in one cut). By AI agents, Wed Nov 11 2026. No macro, syntax, notation, axiom, sorry.
-/
import Derived.Test.YthhkijiamblgaaaChecked
import GoSem.Claim
import GoSem.ClaimJoined
import GoSem.ClaimMapViews
import Derived.JoinedTies
import Derived.KernelRfl
namespace Go.Proofs.Ythhkijiamblgaaa
/- THE CELL 'sum', in the pinned program and in every row, IS THE sha256 OF THE DUMP (.gsa) THAT YthhkijiamblgaaaProg.lean LOADS. Nothing in Lean hashes anything: it is a label: what it is worth is what the hold of that sum in a sandbox is worth. -/
noncomputable def Try.pinned : Pinned := { name := "ythhkijiamblgaaa", sum := "cc32042dd00c1d1d6b9d8bf808ae7892c50418dc26c952a1224b75fbdb699cde", checked := Try.checked }
namespace Rows
def none {H : Type} : Left H := { results := [], args := [] }

/-- 'cooperagelaw11.ProcsDead': WHATEVER THE INPUT: true; the input reads as it did. -/
def procsDeadSpec : ChangeSpec := { name := "procsDead", fn := fun _ => fun
  | [d] => { results := [.lit (.bool true)], args := [d] }
  | _ => none }
def procsDeadRow : OpenClaim := { program := "ythhkijiamblgaaa", sum := "cc32042dd00c1d1d6b9d8bf808ae7892c50418dc26c952a1224b75fbdb699cde", func := "cooperage/cooperagelaw11.ProcsDead", spec := "procsDead", unfollowed := true, recurses := true, apart := false }
def ProcsDeadSaid : Prop := procsDeadRow.holds Try.pinned (OpenSpec.ofChange procsDeadSpec)

/-- ITS FALSE NEIGHBOUR: 'it returns false'. Refute it at one input. -/
def procsDeadWrong : ChangeSpec := { name := "procsDead", fn := fun _ => fun
  | [d] => { results := [.lit (.bool false)], args := [d] }
  | _ => none }
def ProcsDeadWrongFalsely : Prop := procsDeadRow.holds Try.pinned (OpenSpec.ofChange procsDeadWrong)

/-- 'cooperagelaw11.ProcsPlay': WHATEVER THE INPUT: true; the input reads as it did. -/
def procsPlaySpec : ChangeSpec := { name := "procsPlay", fn := fun _ => fun
  | [d] => { results := [.lit (.bool true)], args := [d] }
  | _ => none }
def procsPlayRow : OpenClaim := { program := "ythhkijiamblgaaa", sum := "cc32042dd00c1d1d6b9d8bf808ae7892c50418dc26c952a1224b75fbdb699cde", func := "cooperage/cooperagelaw11.ProcsPlay", spec := "procsPlay", inPlace := ["maps.clone"], unfollowed := true, recurses := true, apart := false }
def ProcsPlaySaid : Prop := procsPlayRow.holds Try.pinned (OpenSpec.ofChange procsPlaySpec)

/-- ITS FALSE NEIGHBOUR: 'it returns false'. Refute it at one input. -/
def procsPlayWrong : ChangeSpec := { name := "procsPlay", fn := fun _ => fun
  | [d] => { results := [.lit (.bool false)], args := [d] }
  | _ => none }
def ProcsPlayWrongFalsely : Prop := procsPlayRow.holds Try.pinned (OpenSpec.ofChange procsPlayWrong)

/-- 'cooperagelaw11.ProcsNobody': WHATEVER THE INPUT: true; the input reads as it did. -/
def procsNobodySpec : ChangeSpec := { name := "procsNobody", fn := fun _ => fun
  | [d] => { results := [.lit (.bool true)], args := [d] }
  | _ => none }
def procsNobodyRow : OpenClaim := { program := "ythhkijiamblgaaa", sum := "cc32042dd00c1d1d6b9d8bf808ae7892c50418dc26c952a1224b75fbdb699cde", func := "cooperage/cooperagelaw11.ProcsNobody", spec := "procsNobody", inPlace := ["maps.clone"], unfollowed := true, recurses := true, apart := false }
def ProcsNobodySaid : Prop := procsNobodyRow.holds Try.pinned (OpenSpec.ofChange procsNobodySpec)

/-- ITS FALSE NEIGHBOUR: 'it returns false'. Refute it at one input. -/
def procsNobodyWrong : ChangeSpec := { name := "procsNobody", fn := fun _ => fun
  | [d] => { results := [.lit (.bool false)], args := [d] }
  | _ => none }
def ProcsNobodyWrongFalsely : Prop := procsNobodyRow.holds Try.pinned (OpenSpec.ofChange procsNobodyWrong)

/- THE SECOND FORM. 'bulk': how many values and letters a reading holds, each counted each time it is reached (what is shared counts as often as it is met; a slice's spare places count too). A statement '..UptoSaid' is the law's where the arguments, and the package variables that the reading takes, are together of bulk at most 1048576: NARROWER than '..Said'. Prove '..Said' where nothing that the law and all that it calls make is longer than what came in: it says more and counts as full. Else prove '..UptoSaid'. A law counts once. -/
mutual
def uptoBulk {H : Type} : DataW H → Nat
  | .lit (.string bytes) => bytes.length + 1
  | .lit _ => 1
  | .nil => 1
  | .ptr d => uptoBulk d + 1
  | .slice elems spare => uptoBulkAll elems + uptoBulkAll spare + 1
  | .agg parts => uptoBulkAll parts + 1
  | .iface _ d => uptoBulk d + 1
  | .map entries => uptoBulkEntries entries + 1
  | .held _ => 1
def uptoBulkAll {H : Type} : List (DataW H) → Nat
  | [] => 0
  | d :: r => uptoBulk d + uptoBulkAll r
def uptoBulkEntries {H : Type} : List (Lit × DataW H) → Nat
  | [] => 0
  | x :: r => uptoBulkEntry x + uptoBulkEntries r
def uptoBulkEntry {H : Type} : Lit × DataW H → Nat
  | (.string bytes, d) => bytes.length + uptoBulk d + 1
  | (_, d) => uptoBulk d + 1
 end
def uptoSmall : (H : Type) → List (DataW H) → Bool := fun _ ds => decide (uptoBulkAll ds ≤ 1048576)
def OpenSpec.upto (s : _root_.Go.ChangeSpec) : _root_.Go.OpenSpec := { _root_.Go.OpenSpec.ofChange s with cond := some uptoSmall }

/-- 'cooperagelaw11.ProcsDead', WHERE WHAT IT READS IS OF BULK AT MOST 1048576: true; the input reads as it did. -/
def procsDeadUptoRow : OpenClaim := { program := "ythhkijiamblgaaa", sum := "cc32042dd00c1d1d6b9d8bf808ae7892c50418dc26c952a1224b75fbdb699cde", func := "cooperage/cooperagelaw11.ProcsDead", spec := "procsDead", unfollowed := true, recurses := true, apart := false, narrowed := true }
def ProcsDeadUptoSaid : Prop := procsDeadUptoRow.holds Try.pinned (OpenSpec.upto procsDeadSpec)

/-- 'cooperagelaw11.ProcsPlay', WHERE WHAT IT READS IS OF BULK AT MOST 1048576: true; the input reads as it did. -/
def procsPlayUptoRow : OpenClaim := { program := "ythhkijiamblgaaa", sum := "cc32042dd00c1d1d6b9d8bf808ae7892c50418dc26c952a1224b75fbdb699cde", func := "cooperage/cooperagelaw11.ProcsPlay", spec := "procsPlay", inPlace := ["maps.clone"], unfollowed := true, recurses := true, apart := false, narrowed := true }
def ProcsPlayUptoSaid : Prop := procsPlayUptoRow.holds Try.pinned (OpenSpec.upto procsPlaySpec)

/-- 'cooperagelaw11.ProcsNobody', WHERE WHAT IT READS IS OF BULK AT MOST 1048576: true; the input reads as it did. -/
def procsNobodyUptoRow : OpenClaim := { program := "ythhkijiamblgaaa", sum := "cc32042dd00c1d1d6b9d8bf808ae7892c50418dc26c952a1224b75fbdb699cde", func := "cooperage/cooperagelaw11.ProcsNobody", spec := "procsNobody", inPlace := ["maps.clone"], unfollowed := true, recurses := true, apart := false, narrowed := true }
def ProcsNobodyUptoSaid : Prop := procsNobodyUptoRow.holds Try.pinned (OpenSpec.upto procsNobodySpec)

end Rows
end Go.Proofs.Ythhkijiamblgaaa
