/- What two functions come to at the arguments that layer 27's test of itself gives them. -/
import Derived.Test.YtlhpaedjpdjcfaaDoorGp27
import Derived.Test.YtlhpaedjpdjcfaaDoorGp01R
import Derived.Test.YtlhpaedjpdjcfaaDoorGq01D
namespace Go.Ge
set_option linter.unusedVariables false
set_option linter.unusedSimpArgs false

noncomputable def A_swap_Temp (x : Int × Int × (List UInt8) × Unit) : Option ((List UInt8) × Unit) := bif eqI x.1 1 && eqI x.2.1 2 && eqS x.2.2.1 [120] then some ([116, 109, 112, 47, 49, 46, 50, 46, 120], ()) else none
noncomputable def A_contains (x : (List Int) × Int × Unit) : Option (Bool × Unit) := match x.1 with | [] => some (false, ()) | _ => none

theorem itoa_1 : Lib.itoa 1 = [49] := by rw [show (1 : Int) = ((1 : Nat) : Int) from rfl, Lib.itoa_nonneg, dec_small (by decide)]; rfl
theorem itoa_2 : Lib.itoa 2 = [50] := by rw [show (2 : Int) = ((2 : Nat) : Int) from rfl, Lib.itoa_nonneg, dec_small (by decide)]; rfl

theorem temp_12x : P_swap_Temp (1, (2, ([120], ()))) = some ([116, 109, 112, 47, 49, 46, 50, 46, 120], ()) := by
  unfold P_swap_Temp
  dsimp only
  rw [dec_val, obind_some, dec_val, obind_some, itoa_1, itoa_2]
  kernel_rfl

theorem A_swap_Temp_le : ∀ x y, A_swap_Temp x = some y → P_swap_Temp x = some y := by
  rintro ⟨a, b, c, u⟩ y h
  unfold A_swap_Temp at h
  dsimp only at h
  cases hc : eqI a 1 && eqI b 2 && eqS c [120] with
  | false => rw [hc] at h; cases h
  | true =>
    rw [hc] at h
    obtain rfl := Option.some.inj h
    simp only [Bool.and_eq_true] at hc
    obtain rfl : a = 1 := by simpa [eqI] using hc.1.1
    obtain rfl : b = 2 := by simpa [eqI] using hc.1.2
    obtain rfl : c = [120] := by simpa [eqS] using hc.2
    exact temp_12x

theorem A_contains_le : ∀ x y, A_contains x = some y → P_slices_Contains_api_Errno_api_Errno x = some y := by
  rintro ⟨l, v, u⟩ y h
  cases l with
  | cons a r => cases h
  | nil =>
    obtain rfl := Option.some.inj h
    unfold P_slices_Contains_api_Errno_api_Errno P_slices_Index_api_Errno_api_Errno
    dsimp only
    rw [loop_of_rounds (n := 1) (r := (0, ((0, (0, ())), ()))) (by rfl), obind_some]
    rfl
end Go.Ge
