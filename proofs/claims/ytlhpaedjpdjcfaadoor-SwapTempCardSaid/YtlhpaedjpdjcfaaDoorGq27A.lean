/- The path of a file that any process is to rename. -/
import Derived.Test.YtlhpaedjpdjcfaaDoorGp27R
namespace Go.Ge
set_option linter.unusedVariables false
set_option linter.unusedSimpArgs false

theorem length_itoa20 {v : Int} (h0 : -9223372036854775808 ≤ v) (h1 : v ≤ 9223372036854775807) : (Lib.itoa v).length ≤ 21 := by
  by_cases hneg : v < 0
  · obtain ⟨u, rfl⟩ : ∃ u : Nat, v = -(u : Int) := ⟨v.natAbs, by omega⟩
    rw [Lib.itoa_neg u (by omega), List.length_cons]
    have := length_dec (u := u) (by omega)
    omega
  · obtain ⟨u, rfl⟩ : ∃ u : Nat, v = (u : Int) := ⟨v.toNat, by omega⟩
    rw [Lib.itoa_nonneg]
    have := length_dec (u := u) (by omega)
    omega

theorem swapTemp_val (pid birth : Int) (kind : List UInt8) (hp : -9223372036854775808 ≤ pid ∧ pid ≤ 9223372036854775807) (hb : -9223372036854775808 ≤ birth ∧ birth ≤ 9223372036854775807) :
    P_law27_SwapTemp (pid, (birth, (kind, ()))) = some (true, ()) := by
  have ha := length_itoa20 hp.1 hp.2
  have hc := length_itoa20 hb.1 hb.2
  unfold P_law27_SwapTemp
  dsimp only
  have aw : P_law27_awake () = some (true, ()) := rfl
  by_cases hk : 100 < kind.length
  · rw [show ltI 100 (@len UInt8 kind) = true from ltI_true (by simp only [len]; omega), show nt true = false from rfl, sel_false, obind_some, sel_true, aw, obind_some, obind_some]
  · rw [show ltI 100 (@len UInt8 kind) = false from ltI_false (by simp only [len]; omega), show nt false = true from rfl, sel_true]
    have e : P_swap_Temp (pid, (birth, (kind, ()))) = some ([116, 109, 112, 47] ++ Lib.itoa pid ++ [46] ++ Lib.itoa birth ++ [46] ++ kind, ()) := by
      unfold P_swap_Temp
      dsimp only
      rw [dec_val, obind_some, dec_val, obind_some]
      dsimp only
      generalize hA : Lib.itoa pid = A at ha ⊢
      generalize hB : Lib.itoa birth = C at hc ⊢
      rw [fits_true, sel_true, fits_true, sel_true, fits_true, sel_true, fits_true, sel_true, fits_true, sel_true]
      · rfl
      all_goals simp only [plus, len, app, List.length_append, List.length_cons, List.length_nil]; omega
    have f : P_ref27_Temp (pid, (birth, (kind, ()))) = some ([116, 109, 112, 47] ++ Lib.itoa pid ++ [46] ++ Lib.itoa birth ++ [46] ++ kind, ()) := by
      unfold P_ref27_Temp
      dsimp only
      rw [refDec_val hp.1 hp.2, obind_some, refDec_val hb.1 hb.2, obind_some]
      dsimp only
      generalize hA : Lib.itoa pid = A at ha ⊢
      generalize hB : Lib.itoa birth = C at hc ⊢
      rw [fits_true, sel_true, fits_true, sel_true, fits_true, sel_true, fits_true, sel_true, fits_true, sel_true]
      · rfl
      all_goals simp only [plus, len, app, List.length_append, List.length_cons, List.length_nil]; omega
    rw [e, obind_some, f, obind_some]
    dsimp only
    rw [show ∀ s : List UInt8, eqS s s = true from fun s => by simp [eqS], obind_some, sel_true, aw, obind_some, obind_some]
end Go.Ge
