/- Plain laws of numbers: sums that stay in range, bits of words. -/
import Derived.Test.YtnmllijemdpcoaaDoorGeI
namespace Go.Ge
set_option linter.unusedVariables false
set_option linter.unusedSimpArgs false

theorem iadd_i64 {a b : Int} (h : -9223372036854775808 ≤ a + b) (h2 : a + b ≤ 9223372036854775807) : iadd .i64 a b = a + b := by
  unfold iadd; simp [IntKind.wrap, IntKind.min, IntKind.max, IntKind.signed, IntKind.bits]; omega
theorem isub_i64 {a b : Int} (h : -9223372036854775808 ≤ a - b) (h2 : a - b ≤ 9223372036854775807) : isub .i64 a b = a - b := by
  unfold isub; simp [IntKind.wrap, IntKind.min, IntKind.max, IntKind.signed, IntKind.bits]; omega
theorem imul_i64 {a b : Int} (h : -9223372036854775808 ≤ a * b) (h2 : a * b ≤ 9223372036854775807) : imul .i64 a b = a * b := by
  unfold imul; simp [IntKind.wrap, IntKind.min, IntKind.max, IntKind.signed, IntKind.bits]; omega
theorem icv_i64 {a : Int} (h : -9223372036854775808 ≤ a) (h2 : a ≤ 9223372036854775807) : icv .i64 a = a := by
  unfold icv; simp [IntKind.wrap, IntKind.min, IntKind.max, IntKind.signed, IntKind.bits]; omega
theorem icv_u64 {a : Int} (h : 0 ≤ a) (h2 : a ≤ 18446744073709551615) : icv .u64 a = a := by
  unfold icv; simp [IntKind.wrap, IntKind.min, IntKind.max, IntKind.signed, IntKind.bits]; omega
theorem wrap_u32 (a : Int) : IntKind.wrap .u32 a = a % 4294967296 := by
  simp [IntKind.wrap, IntKind.min, IntKind.max, IntKind.signed, IntKind.bits]

/-! ### Words of 32 bits -/
def Bv (x : Int) : BitVec 32 := BitVec.ofInt 32 x
def Can (x : Int) : Prop := 0 ≤ x ∧ x < 4294967296

theorem can_wrap (a : Int) : Can (IntKind.wrap .u32 a) := by rw [wrap_u32]; unfold Can; omega
theorem bv_toNat (a : Int) : ((Bv a).toNat : Int) = a % 4294967296 := by
  unfold Bv
  rw [BitVec.toNat_ofInt]
  have : 0 ≤ a % ((2 ^ 32 : Nat) : Int) := Int.emod_nonneg _ (by decide)
  rw [Int.toNat_of_nonneg this]; rfl
theorem eq32 {a b : Int} (ha : Can a) (hb : Can b) (h : Bv a = Bv b) : a = b := by
  have h1 := bv_toNat a
  have h2 := bv_toNat b
  rw [h] at h1
  unfold Can at ha hb
  omega
theorem bv_wrap (a : Int) : Bv (IntKind.wrap .u32 a) = Bv a := by
  apply BitVec.eq_of_toNat_eq
  have h1 := bv_toNat a
  have h2 := bv_toNat (IntKind.wrap .u32 a)
  rw [wrap_u32] at h2 ⊢
  omega
theorem bv_nat (v : BitVec 32) : Bv (v.toNat : Int) = v := by
  apply BitVec.eq_of_toNat_eq
  have h1 := bv_toNat (v.toNat : Int)
  have := v.isLt
  omega
theorem bv_or (x y : Int) : Bv (ior .u32 x y) = Bv x ||| Bv y := by unfold ior; rw [bv_wrap]; exact bv_nat _
theorem can_or (x y : Int) : Can (ior .u32 x y) := can_wrap _
theorem bv_shl (x : Int) (n : Nat) (hn : n ≤ 32) : Bv (ishl .u32 x n) = Bv x <<< n := by
  unfold ishl
  rw [bv_wrap]
  apply BitVec.eq_of_toNat_eq
  have h1 := bv_toNat (x * 2 ^ (min (n : Int).toNat IntKind.u32.bits))
  have h2 := bv_toNat x
  have e : min (n : Int).toNat IntKind.u32.bits = n := by simp [IntKind.bits]; omega
  rw [e] at h1 ⊢
  rw [BitVec.toNat_shiftLeft, Nat.shiftLeft_eq]
  have h3 : (((Bv x).toNat * 2 ^ n % 2 ^ 32 : Nat) : Int) = (x * 2 ^ n) % 4294967296 := by
    rw [Int.natCast_emod, Int.natCast_mul, h2, Int.natCast_pow]
    show (x % 4294967296 * 2 ^ n) % 4294967296 = _
    rw [Int.mul_emod, Int.emod_emod_of_dvd _ (Int.dvd_refl _), ← Int.mul_emod]
  omega
theorem ior_comm32 (x y : Int) : ior .u32 x y = ior .u32 y x := eq32 (can_or _ _) (can_or _ _) (by rw [bv_or, bv_or, BitVec.or_comm])
/-- Four bytes as a word, in both spellings. -/
theorem four_eq (a b c d : Int) : ior .u32 (ishl .u32 (ior .u32 (ishl .u32 (ior .u32 (ishl .u32 (ior .u32 (ishl .u32 0 8) a) 8) b) 8) c) 8) d = ior .u32 (ior .u32 (ior .u32 (ishl .u32 a 24) (ishl .u32 b 16)) (ishl .u32 c 8)) d := by
  refine eq32 (can_or _ _) (can_or _ _) ?_
  have s8 : ∀ x, Bv (ishl .u32 x 8) = Bv x <<< 8 := fun x => bv_shl x 8 (by decide)
  have s16 : ∀ x, Bv (ishl .u32 x 16) = Bv x <<< 16 := fun x => bv_shl x 16 (by decide)
  have s24 : ∀ x, Bv (ishl .u32 x 24) = Bv x <<< 24 := fun x => bv_shl x 24 (by decide)
  simp only [bv_or, s8, s16, s24]
  have z : Bv 0 = 0#32 := by decide
  rw [z]
  simp [BitVec.shiftLeft_or_distrib, ← BitVec.shiftLeft_add]

/-! ### Tests and places, decided -/
theorem ltI_true {a b : Int} (h : a < b) : ltI a b = true := by simp [ltI, h]
theorem ltI_false {a b : Int} (h : b ≤ a) : ltI a b = false := by simp [ltI]; omega
theorem leI_true {a b : Int} (h : a ≤ b) : leI a b = true := by simp [leI, h]
theorem leI_false {a b : Int} (h : b < a) : leI a b = false := by simp [leI]; omega
theorem eqI_true {a b : Int} (h : a = b) : eqI a b = true := by simp [eqI, h]
theorem eqI_false {a b : Int} (h : a ≠ b) : eqI a b = false := by simp [eqI, h]
theorem within_true {i n : Int} (h0 : 0 ≤ i) (h1 : i < n) : within i n = true := by simp [within, h0, h1]
theorem inside_true {i j n : Int} (h0 : 0 ≤ i) (h1 : i ≤ j) (h2 : j ≤ n) : inside i j n = true := by simp [inside, h0, h1, h2]
theorem fits_true {n : Int} (h : n ≤ 4294967296) : fits n = true := by simp [fits, h]
theorem way1_inl {S : Type} (s : S) : way1 (some (.inl s : S ⊕ (Nat × S))) = some (.inl s) := rfl
theorem way1_inr {S : Type} (n : Nat) (s : S) : way1 (some (.inr (n, s) : S ⊕ (Nat × S))) = some (.inr s) := rfl
theorem idx_getD {α : Type} (l : List α) (d : α) {i : Nat} (h : i < l.length) : idx l (i : Int) = some (l.getD i d) := by
  rw [idx_nat, List.getElem?_eq_getElem h, List.getD_eq_getElem?_getD, List.getElem?_eq_getElem h]; rfl
theorem idx_at {α : Type} (l : List α) (d : α) {i : Int} {k : Nat} (e : i = k) (h : k < l.length) : idx l i = some (l.getD k d) := by subst e; exact idx_getD l d h
theorem lset_nat {α : Type} (l : List α) (i : Nat) (x : α) : lset l (i : Int) x = l.set i x := by simp [lset]
end Go.Ge
