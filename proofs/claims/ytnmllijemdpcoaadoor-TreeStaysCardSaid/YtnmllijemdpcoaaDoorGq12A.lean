/- Octal digits in plain words. -/
import Derived.Test.YtnmllijemdpcoaaDoorGp12
import Derived.Test.YtnmllijemdpcoaaDoorGqA
import Derived.Test.YtnmllijemdpcoaaDoorGq03A
namespace Go.Ge
set_option linter.unusedVariables false
set_option linter.unusedSimpArgs false

def octD (n k : Nat) : UInt8 := UInt8.ofNat (48 + n / 8 ^ k % 8)
def octF (n : Nat) : Nat → List UInt8
  | 0 => []
  | k + 1 => octD n k :: octF n k
theorem length_octF (n k : Nat) : (octF n k).length = k := by
  induction k with
  | zero => rfl
  | succ k ih => simp [octF, ih]

theorem iand7 {n : Nat} (h : n < 9223372036854775808) : iand .i64 (n : Int) 7 = ((n % 8 : Nat) : Int) := by
  unfold iand
  have e : (BitVec.ofInt IntKind.i64.bits (n : Int) &&& BitVec.ofInt IntKind.i64.bits 7).toNat = n % 8 := by
    rw [BitVec.toNat_and]
    have h1 : (BitVec.ofInt IntKind.i64.bits (n : Int)).toNat = n := by
      rw [BitVec.toNat_ofInt, show (IntKind.i64.bits) = 64 from rfl]
      omega
    have h2 : (BitVec.ofInt IntKind.i64.bits (7 : Int)).toNat = 2 ^ 3 - 1 := rfl
    rw [h1, h2, Nat.and_two_pow_sub_one_eq_mod]
  rw [e]
  exact icv_i64 (by omega) (by omega)
theorem ishr3 (n : Nat) : ishr .i64 (n : Int) 3 = ((n / 8 : Nat) : Int) := by
  unfold ishr
  rw [show min (Int.toNat 3) IntKind.i64.bits = 3 from rfl, Int.fdiv_eq_ediv_of_nonneg _ (by decide)]
  omega
theorem pow8 (k : Nat) : 8 ^ (k + 1) = 8 ^ k * 8 := Nat.pow_succ ..
theorem div8 (n k : Nat) : n / 8 ^ k / 8 = n / 8 ^ (k + 1) := by rw [Nat.div_div_eq_div_mul, pow8]

def zint (n : Nat) : List Int := List.replicate n 0
theorem lset_last (k : Nat) (x : Int) (r : List Int) : lset (zint (k + 1) ++ r) (k : Int) x = zint k ++ (x :: r) := by
  rw [lset_nat]
  have : zint (k + 1) = zint k ++ [0] := by simp [zint, List.replicate_succ']
  rw [this, List.append_assoc]
  have hl : (zint k).length = k := by simp [zint]
  rw [List.set_append_right _ _ (by omega), hl, Nat.sub_self]
  rfl

theorem octT : ∀ d : Fin 8, idx hexT (d.val : Int) = some (UInt8.ofNat (48 + d.val)) := by decide +kernel

theorem octal_val (n d : Nat) (hn : n < 9223372036854775808) (h1 : 1 ≤ d) (h2 : d ≤ 21) :
    P_digits_Octal ((n : Int), ((d : Int), ())) = some (if n / 8 ^ d = 0 then (octF n d, (true, ())) else ([], (false, ()))) := by
  unfold P_digits_Octal
  dsimp only
  rw [ltI_false (by omega), nt_false, sel_true, ltI_false (by omega), nt_false, sel_true, ltI_false (by omega), sel_false]
  have key : Loop (P_digits_Octal_L0 ((n : Int), ((d : Int), ()))) (((n : Int), (0, ())), (zint 21, ())) = some ((((n / 8 ^ d : Nat) : Int), ((d : Int), ())), (zint (21 - d) ++ bytesInts (octF n d), ())) := by
    have := loop_seq (f := P_digits_Octal_L0 ((n : Int), ((d : Int), ()))) (r := ((((n / 8 ^ d : Nat) : Int), ((d : Int), ())), (zint (21 - d) ++ bytesInts (octF n d), ()))) d
      (fun k => ((((n / 8 ^ k : Nat) : Int), ((k : Int), ())), (zint (21 - k) ++ bytesInts (octF n k), ()))) (fun k hk => by
        unfold P_digits_Octal_L0
        dsimp only
        have hle : n / 8 ^ k ≤ n := Nat.div_le_self _ _
        have hlen : (zint (21 - k) ++ bytesInts (octF n k)).length = 21 := by rw [List.length_append, length_bytes, length_octF]; simp [zint]; omega
        have e20 : isub .i64 20 (k : Int) = ((20 - k : Nat) : Int) := by rw [isub_i64 (by omega) (by omega)]; omega
        have hidx := idx_getD (zint (21 - k) ++ bytesInts (octF n k)) 0 (i := 20 - k) (by omega)
        rw [ltI_true (by omega), sel_true, show ([48, 49, 50, 51, 52, 53, 54, 55, 56, 57, 97, 98, 99, 100, 101, 102] : List UInt8) = hexT from rfl, iand7 (by omega),
          octT ⟨n / 8 ^ k % 8, by omega⟩, obind_some, e20, within_true (by omega) (by omega), sel_true, hidx, obind_some, obind_some, obind_some, ltI_false (by decide), sel_false, way1_inl, ishr3, div8, iadd_one (by omega)]
        have e21 : 21 - k = (20 - k) + 1 := by omega
        rw [e21, lset_last, show 21 - (k + 1) = 20 - k by omega]
        rfl) (by
        unfold P_digits_Octal_L0
        dsimp only
        rw [ltI_false (by omega), sel_false, way1_inr])
    have e0 : (((n / 8 ^ 0 : Nat) : Int), (((0 : Nat) : Int), ())) = ((n : Int), ((0 : Int), ())) := by simp
    have e1 : zint (21 - 0) ++ bytesInts (octF n 0) = zint 21 := rfl
    simp only [e0, e1] at this
    exact this
  rw [show ([0, 0, 0, 0, 0, 0, 0, 0, 0, 0, 0, 0, 0, 0, 0, 0, 0, 0, 0, 0, 0] : List Int) = zint 21 from rfl, key, obind_some]
  dsimp only
  by_cases h0 : n / 8 ^ d = 0
  · rw [h0, ltI_false (by decide), sel_false, if_pos rfl]
    have e21 : isub .i64 21 (d : Int) = ((21 - d : Nat) : Int) := by rw [isub_i64 (by omega) (by omega)]; omega
    rw [e21, inside_true (by omega) (by omega) (by omega), sel_true]
    have : sub (zint (21 - d) ++ bytesInts (octF n d)) ((21 - d : Nat) : Int) (minus 21 ((21 - d : Nat) : Int)) = bytesInts (octF n d) := by
      unfold sub minus
      rw [Int.toNat_natCast, List.drop_left' (by simp [zint]), List.take_of_length_le (by rw [length_bytes, length_octF]; omega)]
    rw [this, intsBytes_bytes]
  · rw [ltI_true (Int.natCast_pos.2 (Nat.pos_of_ne_zero h0)), sel_true, if_neg h0]

end Go.Ge
