/- THE CHAIN OF ANY OF ANY LAYERS, WHO LIES ON IT, AND WHO ON NONE: the law answers true, and leaves its arguments as they are. Condition: the arguments hold together at most 1048576 values and letters. -/
import Derived.Test.YtcdhodfpemkbfaaBulk
namespace Go.Proofs.Ytcdhodfpemkbfaa
open Go Go.Ge Go.ChangeShapes Go.WideShapes Go.ChangeAt Go.RowKit
set_option linter.unusedVariables false
set_option linter.unusedSimpArgs false

theorem is_contract (H : Type) (enc : TypeId × Value → H) (W : World) (base : Nat) (args : Array Value) (ds gs : List (DataW H)) (before : List MemPlace) (hk : Rows.uptoSmall H (ds ++ gs) = true)
    (hval : ∀ (j : Nat) t v, Try.f3.params[j]? = some t → args[j]? = some v → Value.okWide Try.prog W .any base t v)
    (hW : DataW.Whole enc Try.prog Try.f3.params.toList Rows.chainIsSpec.vars false W args.toList ds gs before) :
    Calls Try.prog 3 args W fun e W' => ∃ v, e = .returned v ∧ Rows.chainIsSpec.post enc Try.prog Try.f3 false true false false W args v W' := by
  refine law_calls (bulk := Rows.uptoBulk) (all := Rows.uptoBulkAll) (tb := 4) (A := A2 LS .str) (spec := sem cx4 9 plans 3 (A2 LS .str) (A1 .bool)) bulk_ok laidOut (by rw [Try.params3]; exact ⟨den_LS, den_str, trivial⟩) (fun t ht => ?_) (by kernel_rfl) Try.underlying4 rfl (fun ds hds => ?_) hIs hval hW (fun x _ hx => ?_)
  · rw [Try.params3] at ht
    simp only [List.mem_cons, List.not_mem_nil, or_false] at ht
    rcases ht with rfl | rfl
    · exact read22
    · exact read9
  · rw [Try.params3] at hds
    match ds, hds with
    | [d1, d2], _ => rfl
  · obtain ⟨l, id, u⟩ := x
    have hb := bound hk
    have h1 : LS.bulk l + (Ty.str.bulk id + 0) ≤ Rows.uptoBulkAll (ds ++ gs) := hx
    exact is_val (small_of (by omega)) id

set_option maxRecDepth 100000 in
theorem is_lifted (os : Os) (started : os.Started) (H : Type) (enc : TypeId × Value → H) (F : Stop.Interp) :
    ReturnsInHanded {} Try.checked os 3 .any ((Rows.OpenSpec.upto Rows.chainIsSpec).pre6 enc Try.prog Try.f3 Rows.chainIsUptoRow.domain false) (((Rows.OpenSpec.upto Rows.chainIsSpec).at F).post enc Try.prog Try.f3 false true false false) := by
  refine returnsInHanded_of_cond (C := Try.checked) (s := Rows.OpenSpec.upto Rows.chainIsSpec) (k := Rows.uptoSmall) rfl own started (by kernel_rfl) Try.func3
    (OpenSpec.witness (enc := enc) (C := Try.checked) (s := Rows.OpenSpec.upto Rows.chainIsSpec) (k := Rows.uptoSmall) rfl false ⟨#[], #[.slice none 0 0, .string ⟨#[]⟩], []⟩ 8 (by kernel_rfl) (by kernel_rfl) (by kernel_rfl)
      (x := ([.nil, .lit (.string [])], [], [])) (by kernel_rfl) rfl (by kernel_rfl)) ?_
  intro W base args ds gs before hval hW _ hk _
  exact is_contract H enc W base args ds gs before hk hval hW

theorem is_over : Rows.chainIsUptoRow.holds Try.pinned (Rows.OpenSpec.upto Rows.chainIsSpec) :=
  OpenClaim.holds_of_cond 3 Try.f3 rfl rfl rfl rfl rfl rfl rfl ⟨rfl, rfl, rfl, rfl, rfl⟩ rfl rfl rfl rfl rfl (by kernel_rfl) Try.func3 (by kernel_rfl)
    (of_decide_eq_true (by kernel_rfl)) (by unfold Func.isWrapper; first | (rw [if_pos (by decide +kernel)]; kernel_rfl) | (rw [if_neg (by decide +kernel)]; exact ⟨rfl, rfl⟩))
    (fun os started H enc _ F => is_lifted os started H enc F)

theorem chainIs_holds : Rows.ChainIsUptoSaid := is_over
end Go.Proofs.Ytcdhodfpemkbfaa
