/- The reference's digits call themselves: how deep. -/
import Derived.Test.YtlhpaedjpdjcfaaDoorGp01
import Derived.Test.YtlhpaedjpdjcfaaDoorGqA
namespace Go.Ge
set_option linter.unusedVariables false
set_option linter.unusedSimpArgs false

theorem S_ref01_below_zero (x : Int × Unit) : S_ref01_below 0 x = none := by
  unfold S_ref01_below
  rw [if_neg (by omega)]

theorem below_byte {d : Nat} (h : d < 10) : intsBytes [icv .u8 ((48 + d : Nat) : Int)] = [UInt8.ofNat (48 + d)] := by
  rw [show icv .u8 ((48 + d : Nat) : Int) = ((48 + d : Nat) : Int) by unfold icv; simp [IntKind.wrap, IntKind.min, IntKind.max, IntKind.signed, IntKind.bits]; omega]
  show [UInt8.ofNat ((48 + d : Nat) : Int).toNat] = _
  rw [Int.toNat_natCast]

theorem S_ref01_below_step (k : Nat) (x : Int × Unit) (y : (List UInt8) × Unit) (h : S_ref01_below (k + 1) x = some y) : F_ref01_below (S_ref01_below k) x = some y := by
  unfold S_ref01_below at h
  split at h
  case isFalse => cases h
  rename_i hx
  obtain rfl := Option.some.inj h
  obtain ⟨v, u⟩ := x
  dsimp only at hx
  obtain ⟨n, rfl⟩ : ∃ n : Nat, v = -(n : Int) := ⟨v.natAbs, by omega⟩
  obtain ⟨h0, h1, _, hk⟩ := hx
  rw [Int.natAbs_neg, Int.natAbs_natCast] at hk
  unfold F_ref01_below
  dsimp only
  rw [Int.natAbs_neg, Int.natAbs_natCast]
  have hsub : ∀ d : Nat, d < 10 → isub .i64 48 (-(d : Int)) = ((48 + d : Nat) : Int) := fun d hd => by
    rw [isub_i64 (by omega) (by omega)]; omega
  by_cases hn : n < 10
  · rw [ltI_true (by omega), sel_true, hsub n hn, below_byte hn, Lib.decDigits, dif_pos hn]
  · have e1 : iquo .i64 (-(n : Int)) 10 = -((n / 10 : Nat) : Int) := by
      unfold iquo
      rw [show (-(n : Int)).tdiv 10 = -((n / 10 : Nat) : Int) by rw [Int.neg_tdiv]; rfl]
      exact icv_i64 (by omega) (by omega)
    have e2 : irem (-(n : Int)) 10 = -((n % 10 : Nat) : Int) := by
      unfold irem
      rw [Int.neg_tmod]; rfl
    have hk0 : 0 < k := by
      rcases Nat.eq_zero_or_pos k with rfl | h
      · simp at hk; omega
      · exact h
    have hlt : n / 10 < 10 ^ k := by
      rw [Nat.div_lt_iff_lt_mul (by decide)]
      rw [Nat.pow_succ] at hk
      exact hk
    rw [ltI_false (by omega), sel_false, show eqI 10 0 = false from rfl, sel_false, e1, e2]
    have e3 : S_ref01_below k (-((n / 10 : Nat) : Int), ()) = some (Lib.decDigits (n / 10), ()) := by
      unfold S_ref01_below
      dsimp only
      rw [Int.natAbs_neg, Int.natAbs_natCast, if_pos ⟨by omega, by omega, hk0, hlt⟩]
    rw [e3, obind_some, sel_false, hsub _ (by omega), below_byte (by omega)]
    dsimp only
    have hl : (Lib.decDigits (n / 10)).length ≤ 20 := by
      rw [Lib.decDigits_length]
      exact Lib.nDigits_le20 _ (by omega)
    rw [show fits (plus (len (Lib.decDigits (n / 10))) (len [UInt8.ofNat (48 + n % 10)])) = true from fits_true (by simp only [plus, len]; simp only [List.length_cons, List.length_nil]; omega), sel_true]
    conv => rhs; rw [Lib.decDigits, dif_neg hn]
    rfl
theorem S_ref01_below_all (x : Int × Unit) (y : (List UInt8) × Unit) (h : P_ref01_below x = some y) : ∃ k, S_ref01_below k x = some y := by
  unfold P_ref01_below at h
  split at h
  case isFalse => cases h
  rename_i hx
  refine ⟨20, ?_⟩
  unfold S_ref01_below
  have h2 : x.1.natAbs < 10 ^ 20 := by
    have : x.1.natAbs ≤ 9223372036854775808 := by omega
    exact Nat.lt_of_le_of_lt this (by decide)
  rw [if_pos ⟨hx.1, hx.2, by decide, h2⟩]
  exact h
end Go.Ge
