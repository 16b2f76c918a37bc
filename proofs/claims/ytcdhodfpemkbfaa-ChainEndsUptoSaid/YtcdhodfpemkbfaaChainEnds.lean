/- A CHAIN ENDS AT A ROOT: the law answers true, and leaves its arguments as they are. Condition: the arguments hold together at most 1048576 values and letters. -/
import Derived.Test.YtcdhodfpemkbfaaBulk
import Derived.Test.YtcdhodfpemkbfaaPlainG
namespace Go.Proofs.Ytcdhodfpemkbfaa
open Go Go.Ge Go.ChangeShapes Go.WideShapes Go.ChangeAt Go.RowKit
set_option linter.unusedVariables false
set_option linter.unusedSimpArgs false

theorem ends_contract (H : Type) (enc : TypeId × Value → H) (W : World) (base : Nat) (args : Array Value) (ds gs : List (DataW H)) (before : List MemPlace) (hk : Rows.uptoSmall H (ds ++ gs) = true)
    (hval : ∀ (j : Nat) t v, Try.f4.params[j]? = some t → args[j]? = some v → Value.okWide Try.prog W .any base t v)
    (hW : DataW.Whole enc Try.prog Try.f4.params.toList Rows.chainEndsSpec.vars false W args.toList ds gs before) :
    Calls Try.prog 4 args W fun e W' => ∃ v, e = .returned v ∧ Rows.chainEndsSpec.post enc Try.prog Try.f4 false true false false W args v W' := by
  refine law_calls (bulk := Rows.uptoBulk) (all := Rows.uptoBulkAll) (tb := 4) (A := A2 LS (.int .u8)) (spec := sem cx4 9 plans 4 (A2 LS (.int .u8)) (A1 .bool)) bulk_ok laidOut (by rw [Try.params4]; exact ⟨den_LS, den_u8, trivial⟩) (fun t ht => ?_) (by kernel_rfl) Try.underlying4 rfl (fun ds hds => ?_) hEnds hval hW (fun x hok hx => ?_)
  · rw [Try.params4] at ht
    simp only [List.mem_cons, List.not_mem_nil, or_false] at ht
    rcases ht with rfl | rfl
    · exact read22
    · exact read5
  · rw [Try.params4] at hds
    match ds, hds with
    | [d1, d2], _ => rfl
  · obtain ⟨l, n, u⟩ := x
    have hb := bound hk
    have h1 : LS.bulk l + (1 + 0) ≤ Rows.uptoBulkAll (ds ++ gs) := hx
    obtain ⟨_, ⟨k1, k2⟩, _⟩ := hok
    exact ends_val (small_of (by omega)) (u := n) k1 k2

set_option maxRecDepth 100000 in
theorem ends_lifted (os : Os) (started : os.Started) (H : Type) (enc : TypeId × Value → H) (F : Stop.Interp) :
    ReturnsInHanded {} Try.checked os 4 .any ((Rows.OpenSpec.upto Rows.chainEndsSpec).pre6 enc Try.prog Try.f4 Rows.chainEndsUptoRow.domain false) (((Rows.OpenSpec.upto Rows.chainEndsSpec).at F).post enc Try.prog Try.f4 false true false false) := by
  refine returnsInHanded_of_cond (C := Try.checked) (s := Rows.OpenSpec.upto Rows.chainEndsSpec) (k := Rows.uptoSmall) rfl own started (by kernel_rfl) Try.func4
    (OpenSpec.witness (enc := enc) (C := Try.checked) (s := Rows.OpenSpec.upto Rows.chainEndsSpec) (k := Rows.uptoSmall) rfl false ⟨#[], #[.slice none 0 0, .int .u8 0], []⟩ 8 (by kernel_rfl) (by kernel_rfl) (by kernel_rfl)
      (x := ([.nil, .lit (.int .u8 0)], [], [])) (by kernel_rfl) rfl (by kernel_rfl)) ?_
  intro W base args ds gs before hval hW _ hk _
  exact ends_contract H enc W base args ds gs before hk hval hW

theorem ends_over : Rows.chainEndsUptoRow.holds Try.pinned (Rows.OpenSpec.upto Rows.chainEndsSpec) :=
  OpenClaim.holds_of_cond 4 Try.f4 rfl rfl rfl rfl rfl rfl rfl ⟨rfl, rfl, rfl, rfl, rfl⟩ rfl rfl rfl rfl rfl (by kernel_rfl) Try.func4 (by kernel_rfl)
    (of_decide_eq_true (by kernel_rfl)) (by unfold Func.isWrapper; first | (rw [if_pos (by decide +kernel)]; kernel_rfl) | (rw [if_neg (by decide +kernel)]; exact ⟨rfl, rfl⟩))
    (fun os started H enc _ F => ends_lifted os started H enc F)

theorem chainEnds_holds : Rows.ChainEndsUptoSaid := ends_over
end Go.Proofs.Ytcdhodfpemkbfaa
