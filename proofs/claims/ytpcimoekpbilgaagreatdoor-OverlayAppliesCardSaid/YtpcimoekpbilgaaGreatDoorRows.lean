/-
  NARROWER THAN 'FOR EVERY INPUT', by the rows' own cells (each row's printed sentence says how): OverlayLays: laid · OverlayNames: laid · OverlayApplies: laid · OverlayFree: laid · OverlayTwice: laid.
  DERIVED. THE GIVEN ROWS OF THIS SEAT. 5 by the template 'for every input the law returns true; each argument reads behind the call as it read before'; 0 by the template 'total and deterministic' (their statements: YtpcimoekpbilgaaGreatDoorTotals.lean).
  GIVEN WITH THE SEED: the statements are not yours to turn. If you find one false, say at which input.
  Laid BY PROGRAM, IN A SANDBOX (cutbox-rows.mjs): the forced cells as the released guide's own fill.sh prints them over the translation 8ffdd06cc65c9d96… (all of the seat's roots in one cut). By AI agents, Wed Nov 11 2026. No macro, syntax, notation, axiom, sorry.
-/
import Derived.Test.YtpcimoekpbilgaaGreatDoorChecked
import GoSem.PinnedTables
import GoSem.Claim
import GoSem.ClaimJoined
import GoSem.ClaimMapViews
import Derived.JoinedTies
import Derived.KernelRfl
namespace Go.Proofs.YtpcimoekpbilgaaGreatDoor
/- THE CELL 'sum', in the pinned program and in every row, IS THE sha256 OF THE DUMP (.gsa) THAT YtpcimoekpbilgaaGreatDoorProg.lean LOADS. Nothing in Lean hashes anything: it is a label: what it is worth is what the hold of that sum in a sandbox is worth. -/
noncomputable def Tryz.pinned : Pinned := { name := "ytpcimoekpbilgaagreatdoor", sum := "8ffdd06cc65c9d963ed7a7961302b42e3e21016d571f11d1e4d8e9f6b50a86d0", checked := Tryz.checked }
namespace Rows
def none {H : Type} : Left H := { results := [], args := [] }

/- WHAT THE LISTED PACKAGE-LEVEL VARIABLES READ AS WHEN THE CALL BEGINS. Each datum BY PROGRAM (the guide's laid-datum.mjs) off the statement by which the dump's own 'gosem.cut.vars' lays the variable. In a bare row this is a premise. The card (YtpcimoekpbilgaaGreatDoorCards.lean) ties it to the program's text. -/
def laid_unicode_utf8_acceptRanges {H : Type} : DataW H := .agg [.agg [.lit (.int .u8 128), .lit (.int .u8 191)], .agg [.lit (.int .u8 160), .lit (.int .u8 191)], .agg [.lit (.int .u8 128), .lit (.int .u8 159)], .agg [.lit (.int .u8 144), .lit (.int .u8 191)], .agg [.lit (.int .u8 128), .lit (.int .u8 143)], .agg [.lit (.int .u8 0), .lit (.int .u8 0)], .agg [.lit (.int .u8 0), .lit (.int .u8 0)], .agg [.lit (.int .u8 0), .lit (.int .u8 0)], .agg [.lit (.int .u8 0), .lit (.int .u8 0)], .agg [.lit (.int .u8 0), .lit (.int .u8 0)], .agg [.lit (.int .u8 0), .lit (.int .u8 0)], .agg [.lit (.int .u8 0), .lit (.int .u8 0)], .agg [.lit (.int .u8 0), .lit (.int .u8 0)], .agg [.lit (.int .u8 0), .lit (.int .u8 0)], .agg [.lit (.int .u8 0), .lit (.int .u8 0)], .agg [.lit (.int .u8 0), .lit (.int .u8 0)]]
/-- One of Go's own tables, pinned by name: the form's constant. -/
def laid_unicode_utf8_first : DataW Unit := Go.Pinned.utf8First

/-- 'cooperagelaw15.OverlayLays': WHATEVER THE INPUT: true; the input reads as it did. -/
def overlayLaysSpec : ChangeSpec := { name := "overlayLays", fn := fun _ => fun
  | [d1, d2] => { results := [.lit (.bool true)], args := [d1, d2] }
  | _ => none }
def overlayLaysRow : OpenClaim := { program := "ytpcimoekpbilgaagreatdoor", sum := "8ffdd06cc65c9d963ed7a7961302b42e3e21016d571f11d1e4d8e9f6b50a86d0", func := "cooperage/cooperagelaw15.OverlayLays", spec := "overlayLays", inPlace := ["internal/bytealg.CountString", "internal/bytealg.IndexByteString", "internal/bytealg.IndexString", "internal/abi.NoEscape", "internal/bytealg.MakeNoZero"], unfollowed := true, recurses := true, named := ["unicode/utf8.first", "unicode/utf8.acceptRanges", "internal/bytealg.MaxLen"], apart := false, laid := [("unicode/utf8.acceptRanges", laid_unicode_utf8_acceptRanges), ("unicode/utf8.first", laid_unicode_utf8_first)] }
def OverlayLaysSaid : Prop := overlayLaysRow.holds Tryz.pinned (OpenSpec.ofChange overlayLaysSpec)

/-- ITS FALSE NEIGHBOUR: 'it returns false'. Refute it at one input. -/
def overlayLaysWrong : ChangeSpec := { name := "overlayLays", fn := fun _ => fun
  | [d1, d2] => { results := [.lit (.bool false)], args := [d1, d2] }
  | _ => none }
def OverlayLaysWrongFalsely : Prop := overlayLaysRow.holds Tryz.pinned (OpenSpec.ofChange overlayLaysWrong)

/-- 'cooperagelaw15.OverlayNames': WHATEVER THE INPUT: true; the input reads as it did. -/
def overlayNamesSpec : ChangeSpec := { name := "overlayNames", fn := fun _ => fun
  | [d1, d2] => { results := [.lit (.bool true)], args := [d1, d2] }
  | _ => none }
def overlayNamesRow : OpenClaim := { program := "ytpcimoekpbilgaagreatdoor", sum := "8ffdd06cc65c9d963ed7a7961302b42e3e21016d571f11d1e4d8e9f6b50a86d0", func := "cooperage/cooperagelaw15.OverlayNames", spec := "overlayNames", inPlace := ["internal/bytealg.CountString", "internal/bytealg.IndexByteString", "internal/bytealg.IndexString", "internal/abi.NoEscape", "internal/bytealg.MakeNoZero"], unfollowed := true, recurses := true, named := ["unicode/utf8.first", "unicode/utf8.acceptRanges", "internal/bytealg.MaxLen"], apart := false, laid := [("unicode/utf8.acceptRanges", laid_unicode_utf8_acceptRanges), ("unicode/utf8.first", laid_unicode_utf8_first)] }
def OverlayNamesSaid : Prop := overlayNamesRow.holds Tryz.pinned (OpenSpec.ofChange overlayNamesSpec)

/-- ITS FALSE NEIGHBOUR: 'it returns false'. Refute it at one input. -/
def overlayNamesWrong : ChangeSpec := { name := "overlayNames", fn := fun _ => fun
  | [d1, d2] => { results := [.lit (.bool false)], args := [d1, d2] }
  | _ => none }
def OverlayNamesWrongFalsely : Prop := overlayNamesRow.holds Tryz.pinned (OpenSpec.ofChange overlayNamesWrong)

/-- 'cooperagelaw15.OverlayApplies': WHATEVER THE INPUT: true; the input reads as it did. -/
def overlayAppliesSpec : ChangeSpec := { name := "overlayApplies", fn := fun _ => fun
  | [d1, d2] => { results := [.lit (.bool true)], args := [d1, d2] }
  | _ => none }
def overlayAppliesRow : OpenClaim := { program := "ytpcimoekpbilgaagreatdoor", sum := "8ffdd06cc65c9d963ed7a7961302b42e3e21016d571f11d1e4d8e9f6b50a86d0", func := "cooperage/cooperagelaw15.OverlayApplies", spec := "overlayApplies", inPlace := ["internal/bytealg.CountString", "internal/bytealg.IndexByteString", "internal/bytealg.IndexString", "internal/abi.NoEscape", "internal/bytealg.MakeNoZero"], unfollowed := true, recurses := true, named := ["unicode/utf8.first", "unicode/utf8.acceptRanges", "internal/bytealg.MaxLen"], apart := false, laid := [("unicode/utf8.acceptRanges", laid_unicode_utf8_acceptRanges), ("unicode/utf8.first", laid_unicode_utf8_first)] }
def OverlayAppliesSaid : Prop := overlayAppliesRow.holds Tryz.pinned (OpenSpec.ofChange overlayAppliesSpec)

/-- ITS FALSE NEIGHBOUR: 'it returns false'. Refute it at one input. -/
def overlayAppliesWrong : ChangeSpec := { name := "overlayApplies", fn := fun _ => fun
  | [d1, d2] => { results := [.lit (.bool false)], args := [d1, d2] }
  | _ => none }
def OverlayAppliesWrongFalsely : Prop := overlayAppliesRow.holds Tryz.pinned (OpenSpec.ofChange overlayAppliesWrong)

/-- 'cooperagelaw15.OverlayFree': WHATEVER THE INPUT: true; the input reads as it did. -/
def overlayFreeSpec : ChangeSpec := { name := "overlayFree", fn := fun _ => fun
  | [d1, d2] => { results := [.lit (.bool true)], args := [d1, d2] }
  | _ => none }
def overlayFreeRow : OpenClaim := { program := "ytpcimoekpbilgaagreatdoor", sum := "8ffdd06cc65c9d963ed7a7961302b42e3e21016d571f11d1e4d8e9f6b50a86d0", func := "cooperage/cooperagelaw15.OverlayFree", spec := "overlayFree", inPlace := ["internal/bytealg.CountString", "internal/bytealg.IndexByteString", "internal/bytealg.IndexString", "internal/abi.NoEscape", "internal/bytealg.MakeNoZero"], unfollowed := true, recurses := true, named := ["unicode/utf8.first", "unicode/utf8.acceptRanges", "internal/bytealg.MaxLen"], apart := false, laid := [("unicode/utf8.acceptRanges", laid_unicode_utf8_acceptRanges), ("unicode/utf8.first", laid_unicode_utf8_first)] }
def OverlayFreeSaid : Prop := overlayFreeRow.holds Tryz.pinned (OpenSpec.ofChange overlayFreeSpec)

/-- ITS FALSE NEIGHBOUR: 'it returns false'. Refute it at one input. -/
def overlayFreeWrong : ChangeSpec := { name := "overlayFree", fn := fun _ => fun
  | [d1, d2] => { results := [.lit (.bool false)], args := [d1, d2] }
  | _ => none }
def OverlayFreeWrongFalsely : Prop := overlayFreeRow.holds Tryz.pinned (OpenSpec.ofChange overlayFreeWrong)

/-- 'cooperagelaw15.OverlayTwice': WHATEVER THE INPUT: true; the input reads as it did. -/
def overlayTwiceSpec : ChangeSpec := { name := "overlayTwice", fn := fun _ => fun
  | [d] => { results := [.lit (.bool true)], args := [d] }
  | _ => none }
def overlayTwiceRow : OpenClaim := { program := "ytpcimoekpbilgaagreatdoor", sum := "8ffdd06cc65c9d963ed7a7961302b42e3e21016d571f11d1e4d8e9f6b50a86d0", func := "cooperage/cooperagelaw15.OverlayTwice", spec := "overlayTwice", inPlace := ["internal/bytealg.CountString", "internal/bytealg.IndexByteString", "internal/bytealg.IndexString", "internal/abi.NoEscape", "internal/bytealg.MakeNoZero"], unfollowed := true, recurses := true, named := ["unicode/utf8.first", "unicode/utf8.acceptRanges", "internal/bytealg.MaxLen"], apart := false, laid := [("unicode/utf8.acceptRanges", laid_unicode_utf8_acceptRanges), ("unicode/utf8.first", laid_unicode_utf8_first)] }
def OverlayTwiceSaid : Prop := overlayTwiceRow.holds Tryz.pinned (OpenSpec.ofChange overlayTwiceSpec)

/-- ITS FALSE NEIGHBOUR: 'it returns false'. Refute it at one input. -/
def overlayTwiceWrong : ChangeSpec := { name := "overlayTwice", fn := fun _ => fun
  | [d] => { results := [.lit (.bool false)], args := [d] }
  | _ => none }
def OverlayTwiceWrongFalsely : Prop := overlayTwiceRow.holds Tryz.pinned (OpenSpec.ofChange overlayTwiceWrong)

/- THE SECOND FORM. 'bulk': how many values and letters a reading holds, each counted each time it is reached (what is shared counts as often as it is met; a slice's spare places count too). A statement '..UptoSaid' is the law's where the arguments, and the package variables that the reading takes, are together of bulk at most 1048576: NARROWER than '..Said'. Prove '..Said' where nothing that the law and all that it calls make is longer than what came in: it says more and counts as full. Else prove '..UptoSaid'. A law counts once. -/
mutual
def uptoBulk {H : Type} : DataW H → Nat
  | .lit (.string bytes) => bytes.length + 1
  | .lit _ => 1
  | .nil => 1
  | .ptr d => uptoBulk d + 1
  | .slice elems spare => uptoBulkAll elems + uptoBulkAll spare + 1
  | .agg parts => uptoBulkAll parts + 1
  | .iface _ d => uptoBulk d + 1
  | .map entries => uptoBulkEntries entries + 1
  | .held _ => 1
def uptoBulkAll {H : Type} : List (DataW H) → Nat
  | [] => 0
  | d :: r => uptoBulk d + uptoBulkAll r
def uptoBulkEntries {H : Type} : List (Lit × DataW H) → Nat
  | [] => 0
  | x :: r => uptoBulkEntry x + uptoBulkEntries r
def uptoBulkEntry {H : Type} : Lit × DataW H → Nat
  | (.string bytes, d) => bytes.length + uptoBulk d + 1
  | (_, d) => uptoBulk d + 1
 end
def uptoSmall : (H : Type) → List (DataW H) → Bool := fun _ ds => decide (uptoBulkAll ds ≤ 1048576)
def OpenSpec.upto (s : _root_.Go.ChangeSpec) : _root_.Go.OpenSpec := { _root_.Go.OpenSpec.ofChange s with cond := some uptoSmall }

/-- 'cooperagelaw15.OverlayLays', WHERE WHAT IT READS IS OF BULK AT MOST 1048576: true; the input reads as it did. -/
def overlayLaysUptoRow : OpenClaim := { program := "ytpcimoekpbilgaagreatdoor", sum := "8ffdd06cc65c9d963ed7a7961302b42e3e21016d571f11d1e4d8e9f6b50a86d0", func := "cooperage/cooperagelaw15.OverlayLays", spec := "overlayLays", inPlace := ["internal/bytealg.CountString", "internal/bytealg.IndexByteString", "internal/bytealg.IndexString", "internal/abi.NoEscape", "internal/bytealg.MakeNoZero"], unfollowed := true, recurses := true, named := ["unicode/utf8.first", "unicode/utf8.acceptRanges", "internal/bytealg.MaxLen"], apart := false, laid := [("unicode/utf8.acceptRanges", laid_unicode_utf8_acceptRanges), ("unicode/utf8.first", laid_unicode_utf8_first)], narrowed := true }
def OverlayLaysUptoSaid : Prop := overlayLaysUptoRow.holds Tryz.pinned (OpenSpec.upto overlayLaysSpec)

/-- 'cooperagelaw15.OverlayNames', WHERE WHAT IT READS IS OF BULK AT MOST 1048576: true; the input reads as it did. -/
def overlayNamesUptoRow : OpenClaim := { program := "ytpcimoekpbilgaagreatdoor", sum := "8ffdd06cc65c9d963ed7a7961302b42e3e21016d571f11d1e4d8e9f6b50a86d0", func := "cooperage/cooperagelaw15.OverlayNames", spec := "overlayNames", inPlace := ["internal/bytealg.CountString", "internal/bytealg.IndexByteString", "internal/bytealg.IndexString", "internal/abi.NoEscape", "internal/bytealg.MakeNoZero"], unfollowed := true, recurses := true, named := ["unicode/utf8.first", "unicode/utf8.acceptRanges", "internal/bytealg.MaxLen"], apart := false, laid := [("unicode/utf8.acceptRanges", laid_unicode_utf8_acceptRanges), ("unicode/utf8.first", laid_unicode_utf8_first)], narrowed := true }
def OverlayNamesUptoSaid : Prop := overlayNamesUptoRow.holds Tryz.pinned (OpenSpec.upto overlayNamesSpec)

/-- 'cooperagelaw15.OverlayApplies', WHERE WHAT IT READS IS OF BULK AT MOST 1048576: true; the input reads as it did. -/
def overlayAppliesUptoRow : OpenClaim := { program := "ytpcimoekpbilgaagreatdoor", sum := "8ffdd06cc65c9d963ed7a7961302b42e3e21016d571f11d1e4d8e9f6b50a86d0", func := "cooperage/cooperagelaw15.OverlayApplies", spec := "overlayApplies", inPlace := ["internal/bytealg.CountString", "internal/bytealg.IndexByteString", "internal/bytealg.IndexString", "internal/abi.NoEscape", "internal/bytealg.MakeNoZero"], unfollowed := true, recurses := true, named := ["unicode/utf8.first", "unicode/utf8.acceptRanges", "internal/bytealg.MaxLen"], apart := false, laid := [("unicode/utf8.acceptRanges", laid_unicode_utf8_acceptRanges), ("unicode/utf8.first", laid_unicode_utf8_first)], narrowed := true }
def OverlayAppliesUptoSaid : Prop := overlayAppliesUptoRow.holds Tryz.pinned (OpenSpec.upto overlayAppliesSpec)

/-- 'cooperagelaw15.OverlayFree', WHERE WHAT IT READS IS OF BULK AT MOST 1048576: true; the input reads as it did. -/
def overlayFreeUptoRow : OpenClaim := { program := "ytpcimoekpbilgaagreatdoor", sum := "8ffdd06cc65c9d963ed7a7961302b42e3e21016d571f11d1e4d8e9f6b50a86d0", func := "cooperage/cooperagelaw15.OverlayFree", spec := "overlayFree", inPlace := ["internal/bytealg.CountString", "internal/bytealg.IndexByteString", "internal/bytealg.IndexString", "internal/abi.NoEscape", "internal/bytealg.MakeNoZero"], unfollowed := true, recurses := true, named := ["unicode/utf8.first", "unicode/utf8.acceptRanges", "internal/bytealg.MaxLen"], apart := false, laid := [("unicode/utf8.acceptRanges", laid_unicode_utf8_acceptRanges), ("unicode/utf8.first", laid_unicode_utf8_first)], narrowed := true }
def OverlayFreeUptoSaid : Prop := overlayFreeUptoRow.holds Tryz.pinned (OpenSpec.upto overlayFreeSpec)

/-- 'cooperagelaw15.OverlayTwice', WHERE WHAT IT READS IS OF BULK AT MOST 1048576: true; the input reads as it did. -/
def overlayTwiceUptoRow : OpenClaim := { program := "ytpcimoekpbilgaagreatdoor", sum := "8ffdd06cc65c9d963ed7a7961302b42e3e21016d571f11d1e4d8e9f6b50a86d0", func := "cooperage/cooperagelaw15.OverlayTwice", spec := "overlayTwice", inPlace := ["internal/bytealg.CountString", "internal/bytealg.IndexByteString", "internal/bytealg.IndexString", "internal/abi.NoEscape", "internal/bytealg.MakeNoZero"], unfollowed := true, recurses := true, named := ["unicode/utf8.first", "unicode/utf8.acceptRanges", "internal/bytealg.MaxLen"], apart := false, laid := [("unicode/utf8.acceptRanges", laid_unicode_utf8_acceptRanges), ("unicode/utf8.first", laid_unicode_utf8_first)], narrowed := true }
def OverlayTwiceUptoSaid : Prop := overlayTwiceUptoRow.holds Tryz.pinned (OpenSpec.upto overlayTwiceSpec)

end Rows
end Go.Proofs.YtpcimoekpbilgaaGreatDoor
