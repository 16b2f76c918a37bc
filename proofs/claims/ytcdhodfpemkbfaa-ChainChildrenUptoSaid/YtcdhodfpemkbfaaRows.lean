/-
  No cell of these rows narrows 'for every input' (looked for: loops, veiled, ifaces, maps, wideKeys, modest, calm, conditions, laid).
  DERIVED. THE GIVEN ROWS OF THIS SEAT. 3 by the template 'for every input the law returns true; each argument reads behind the call as it read before'; 0 by the template 'total and deterministic' (their statements: YtcdhodfpemkbfaaTotals.lean).
  GIVEN WITH THE SEED: the statements are not yours to turn. If you find one false, say at which input.
  Laid BY PROGRAM, IN A SANDBOX (cutbox-rows.mjs): the forced cells as the released guide's own fill.sh prints them over the translation 98a434e6654cb23e… (all of the seat's roots in one cut). By AI agents, Wed Nov 11 2026. No macro, syntax, notation, axiom, sorry.
-/
import Derived.Test.YtcdhodfpemkbfaaChecked
import GoSem.Claim
import GoSem.ClaimJoined
import GoSem.ClaimMapViews
import Derived.JoinedTies
import Derived.KernelRfl
namespace Go.Proofs.Ytcdhodfpemkbfaa
/- THE CELL 'sum', in the pinned program and in every row, IS THE sha256 OF THE DUMP (.gsa) THAT YtcdhodfpemkbfaaProg.lean LOADS. Nothing in Lean hashes anything: it is a label: what it is worth is what the hold of that sum in a sandbox is worth. -/
noncomputable def Try.pinned : Pinned := { name := "ytcdhodfpemkbfaa", sum := "98a434e6654cb23e69ba596227c9fdb5b523a54c64c68e8e6392a1e34e0b79f1", checked := Try.checked }
namespace Rows
def none {H : Type} : Left H := { results := [], args := [] }

/-- 'cooperagelaw19.ChainIs': WHATEVER THE INPUT: true; the input reads as it did. -/
def chainIsSpec : ChangeSpec := { name := "chainIs", fn := fun _ => fun
  | [d1, d2] => { results := [.lit (.bool true)], args := [d1, d2] }
  | _ => none }
def chainIsRow : OpenClaim := { program := "ytcdhodfpemkbfaa", sum := "98a434e6654cb23e69ba596227c9fdb5b523a54c64c68e8e6392a1e34e0b79f1", func := "cooperage/cooperagelaw19.ChainIs", spec := "chainIs", unfollowed := true, recurses := true, apart := false }
def ChainIsSaid : Prop := chainIsRow.holds Try.pinned (OpenSpec.ofChange chainIsSpec)

/-- ITS FALSE NEIGHBOUR: 'it returns false'. Refute it at one input. -/
def chainIsWrong : ChangeSpec := { name := "chainIs", fn := fun _ => fun
  | [d1, d2] => { results := [.lit (.bool false)], args := [d1, d2] }
  | _ => none }
def ChainIsWrongFalsely : Prop := chainIsRow.holds Try.pinned (OpenSpec.ofChange chainIsWrong)

/-- 'cooperagelaw19.ChainEnds': WHATEVER THE INPUT: true; the input reads as it did. -/
def chainEndsSpec : ChangeSpec := { name := "chainEnds", fn := fun _ => fun
  | [d1, d2] => { results := [.lit (.bool true)], args := [d1, d2] }
  | _ => none }
def chainEndsRow : OpenClaim := { program := "ytcdhodfpemkbfaa", sum := "98a434e6654cb23e69ba596227c9fdb5b523a54c64c68e8e6392a1e34e0b79f1", func := "cooperage/cooperagelaw19.ChainEnds", spec := "chainEnds", unfollowed := true, recurses := true, apart := false }
def ChainEndsSaid : Prop := chainEndsRow.holds Try.pinned (OpenSpec.ofChange chainEndsSpec)

/-- ITS FALSE NEIGHBOUR: 'it returns false'. Refute it at one input. -/
def chainEndsWrong : ChangeSpec := { name := "chainEnds", fn := fun _ => fun
  | [d1, d2] => { results := [.lit (.bool false)], args := [d1, d2] }
  | _ => none }
def ChainEndsWrongFalsely : Prop := chainEndsRow.holds Try.pinned (OpenSpec.ofChange chainEndsWrong)

/-- 'cooperagelaw19.ChainChildren': WHATEVER THE INPUT: true; the input reads as it did. -/
def chainChildrenSpec : ChangeSpec := { name := "chainChildren", fn := fun _ => fun
  | [d] => { results := [.lit (.bool true)], args := [d] }
  | _ => none }
def chainChildrenRow : OpenClaim := { program := "ytcdhodfpemkbfaa", sum := "98a434e6654cb23e69ba596227c9fdb5b523a54c64c68e8e6392a1e34e0b79f1", func := "cooperage/cooperagelaw19.ChainChildren", spec := "chainChildren", unfollowed := true, recurses := true, apart := false }
def ChainChildrenSaid : Prop := chainChildrenRow.holds Try.pinned (OpenSpec.ofChange chainChildrenSpec)

/-- ITS FALSE NEIGHBOUR: 'it returns false'. Refute it at one input. -/
def chainChildrenWrong : ChangeSpec := { name := "chainChildren", fn := fun _ => fun
  | [d] => { results := [.lit (.bool false)], args := [d] }
  | _ => none }
def ChainChildrenWrongFalsely : Prop := chainChildrenRow.holds Try.pinned (OpenSpec.ofChange chainChildrenWrong)

/- THE SECOND FORM. 'bulk': how many values and letters a reading holds, each counted each time it is reached (what is shared counts as often as it is met; a slice's spare places count too). A statement '..UptoSaid' is the law's where the arguments, and the package variables that the reading takes, are together of bulk at most 1048576: NARROWER than '..Said'. Prove '..Said' where nothing that the law and all that it calls make is longer than what came in: it says more and counts as full. Else prove '..UptoSaid'. A law counts once. -/
mutual
def uptoBulk {H : Type} : DataW H → Nat
  | .lit (.string bytes) => bytes.length + 1
  | .lit _ => 1
  | .nil => 1
  | .ptr d => uptoBulk d + 1
  | .slice elems spare => uptoBulkAll elems + uptoBulkAll spare + 1
  | .agg parts => uptoBulkAll parts + 1
  | .iface _ d => uptoBulk d + 1
  | .map entries => uptoBulkEntries entries + 1
  | .held _ => 1
def uptoBulkAll {H : Type} : List (DataW H) → Nat
  | [] => 0
  | d :: r => uptoBulk d + uptoBulkAll r
def uptoBulkEntries {H : Type} : List (Lit × DataW H) → Nat
  | [] => 0
  | x :: r => uptoBulkEntry x + uptoBulkEntries r
def uptoBulkEntry {H : Type} : Lit × DataW H → Nat
  | (.string bytes, d) => bytes.length + uptoBulk d + 1
  | (_, d) => uptoBulk d + 1
 end
def uptoSmall : (H : Type) → List (DataW H) → Bool := fun _ ds => decide (uptoBulkAll ds ≤ 1048576)
def OpenSpec.upto (s : _root_.Go.ChangeSpec) : _root_.Go.OpenSpec := { _root_.Go.OpenSpec.ofChange s with cond := some uptoSmall }

/-- 'cooperagelaw19.ChainIs', WHERE WHAT IT READS IS OF BULK AT MOST 1048576: true; the input reads as it did. -/
def chainIsUptoRow : OpenClaim := { program := "ytcdhodfpemkbfaa", sum := "98a434e6654cb23e69ba596227c9fdb5b523a54c64c68e8e6392a1e34e0b79f1", func := "cooperage/cooperagelaw19.ChainIs", spec := "chainIs", unfollowed := true, recurses := true, apart := false, narrowed := true }
def ChainIsUptoSaid : Prop := chainIsUptoRow.holds Try.pinned (OpenSpec.upto chainIsSpec)

/-- 'cooperagelaw19.ChainEnds', WHERE WHAT IT READS IS OF BULK AT MOST 1048576: true; the input reads as it did. -/
def chainEndsUptoRow : OpenClaim := { program := "ytcdhodfpemkbfaa", sum := "98a434e6654cb23e69ba596227c9fdb5b523a54c64c68e8e6392a1e34e0b79f1", func := "cooperage/cooperagelaw19.ChainEnds", spec := "chainEnds", unfollowed := true, recurses := true, apart := false, narrowed := true }
def ChainEndsUptoSaid : Prop := chainEndsUptoRow.holds Try.pinned (OpenSpec.upto chainEndsSpec)

/-- 'cooperagelaw19.ChainChildren', WHERE WHAT IT READS IS OF BULK AT MOST 1048576: true; the input reads as it did. -/
def chainChildrenUptoRow : OpenClaim := { program := "ytcdhodfpemkbfaa", sum := "98a434e6654cb23e69ba596227c9fdb5b523a54c64c68e8e6392a1e34e0b79f1", func := "cooperage/cooperagelaw19.ChainChildren", spec := "chainChildren", unfollowed := true, recurses := true, apart := false, narrowed := true }
def ChainChildrenUptoSaid : Prop := chainChildrenUptoRow.holds Try.pinned (OpenSpec.upto chainChildrenSpec)

end Rows
end Go.Proofs.Ytcdhodfpemkbfaa
