/- WHO LIES ON A LAYER HAS IT NEXT IN ITS CHAIN: the law answers true, and leaves its argument as it is. Condition: the argument holds at most 1048576 values and letters. -/
import Derived.Test.YtcdhodfpemkbfaaBulk
import Derived.Test.YtcdhodfpemkbfaaPlainI
namespace Go.Proofs.Ytcdhodfpemkbfaa
open Go Go.Ge Go.ChangeShapes Go.WideShapes Go.ChangeAt Go.RowKit
set_option linter.unusedVariables false
set_option linter.unusedSimpArgs false

theorem kid_contract (H : Type) (enc : TypeId × Value → H) (W : World) (base : Nat) (args : Array Value) (ds gs : List (DataW H)) (before : List MemPlace) (hk : Rows.uptoSmall H (ds ++ gs) = true)
    (hval : ∀ (j : Nat) t v, Try.f5.params[j]? = some t → args[j]? = some v → Value.okWide Try.prog W .any base t v)
    (hW : DataW.Whole enc Try.prog Try.f5.params.toList Rows.chainChildrenSpec.vars false W args.toList ds gs before) :
    Calls Try.prog 5 args W fun e W' => ∃ v, e = .returned v ∧ Rows.chainChildrenSpec.post enc Try.prog Try.f5 false true false false W args v W' := by
  refine law_calls (bulk := Rows.uptoBulk) (all := Rows.uptoBulkAll) (tb := 4) (A := A1 LS) (spec := sem cx4 9 plans 5 (A1 LS) (A1 .bool)) bulk_ok laidOut (by rw [Try.params5]; exact ⟨den_LS, trivial⟩) (fun t ht => ?_) (by kernel_rfl) Try.underlying4 rfl (fun ds hds => ?_) hChildren hval hW (fun x _ hx => ?_)
  · rw [Try.params5] at ht
    simp only [List.mem_cons, List.not_mem_nil, or_false] at ht
    subst ht
    exact read22
  · rw [Try.params5] at hds
    match ds, hds with
    | [d], _ => rfl
  · obtain ⟨l, u⟩ := x
    have hb := bound hk
    have h1 : LS.bulk l + 0 ≤ Rows.uptoBulkAll (ds ++ gs) := hx
    exact kid_val (small_of (by omega))

set_option maxRecDepth 100000 in
theorem kid_lifted (os : Os) (started : os.Started) (H : Type) (enc : TypeId × Value → H) (F : Stop.Interp) :
    ReturnsInHanded {} Try.checked os 5 .any ((Rows.OpenSpec.upto Rows.chainChildrenSpec).pre6 enc Try.prog Try.f5 Rows.chainChildrenUptoRow.domain false) (((Rows.OpenSpec.upto Rows.chainChildrenSpec).at F).post enc Try.prog Try.f5 false true false false) := by
  refine returnsInHanded_of_cond (C := Try.checked) (s := Rows.OpenSpec.upto Rows.chainChildrenSpec) (k := Rows.uptoSmall) rfl own started (by kernel_rfl) Try.func5
    (OpenSpec.witness (enc := enc) (C := Try.checked) (s := Rows.OpenSpec.upto Rows.chainChildrenSpec) (k := Rows.uptoSmall) rfl false ⟨#[], #[.slice none 0 0], []⟩ 8 (by kernel_rfl) (by kernel_rfl) (by kernel_rfl)
      (x := ([.nil], [], [])) (by kernel_rfl) rfl (by kernel_rfl)) ?_
  intro W base args ds gs before hval hW _ hk _
  exact kid_contract H enc W base args ds gs before hk hval hW

theorem kid_over : Rows.chainChildrenUptoRow.holds Try.pinned (Rows.OpenSpec.upto Rows.chainChildrenSpec) :=
  OpenClaim.holds_of_cond 5 Try.f5 rfl rfl rfl rfl rfl rfl rfl ⟨rfl, rfl, rfl, rfl, rfl⟩ rfl rfl rfl rfl rfl (by kernel_rfl) Try.func5 (by kernel_rfl)
    (of_decide_eq_true (by kernel_rfl)) (by unfold Func.isWrapper; first | (rw [if_pos (by decide +kernel)]; kernel_rfl) | (rw [if_neg (by decide +kernel)]; exact ⟨rfl, rfl⟩))
    (fun os started H enc _ F => kid_lifted os started H enc F)

theorem chainChildren_holds : Rows.ChainChildrenUptoSaid := kid_over
end Go.Proofs.Ytcdhodfpemkbfaa
