/- Bytes as hexadecimal digits, and back, in plain words. -/
import Derived.Test.YtnmllijemdpcoaaDoorGp03
import Derived.Test.YtnmllijemdpcoaaDoorGq02D
namespace Go.Ge
set_option linter.unusedVariables false
set_option linter.unusedSimpArgs false

def hexT : List UInt8 := [48, 49, 50, 51, 52, 53, 54, 55, 56, 57, 97, 98, 99, 100, 101, 102]
def hx (n : Nat) : UInt8 := hexT.getD n 0
def hexF : List UInt8 → List UInt8
  | [] => []
  | b :: r => hx (b.toNat / 16) :: hx (b.toNat % 16) :: hexF r
theorem length_hexF (l : List UInt8) : (hexF l).length = 2 * l.length := by
  induction l with
  | nil => rfl
  | cons b r ih => simp only [hexF, List.length_cons, ih]; omega
theorem hexF_app (a b : List UInt8) : hexF (a ++ b) = hexF a ++ hexF b := by
  induction a with
  | nil => rfl
  | cons x r ih => simp only [List.cons_append, hexF, ih]

theorem hexT_hi : ∀ n : Fin 256, idx hexT (ishr .u8 (n.val : Int) 4) = some (hx (n.val / 16)) := by decide +kernel
theorem hexT_lo : ∀ n : Fin 256, idx hexT (iand .u8 (n.val : Int) 15) = some (hx (n.val % 16)) := by decide +kernel
theorem hex_hi (b : UInt8) : idx hexT (ishr .u8 (u8 b) 4) = some (hx (b.toNat / 16)) := hexT_hi ⟨b.toNat, b.toNat_lt⟩
theorem hex_lo (b : UInt8) : idx hexT (iand .u8 (u8 b) 15) = some (hx (b.toNat % 16)) := hexT_lo ⟨b.toNat, b.toNat_lt⟩

theorem idx_bytes (s : List UInt8) {k : Nat} (h : k < s.length) : idx (bytesInts s) (k : Int) = some (u8 s[k]) := by
  rw [idx_nat]; simp [bytesInts, u8, h]
theorem len_bytes (s : List UInt8) : len (bytesInts s) = (s.length : Int) := by simp [len, bytesInts]
theorem take_succ_at (s : List UInt8) {k : Nat} (h : k < s.length) : s.take (k + 1) = s.take k ++ [s[k]] := by
  rw [List.take_add_one, List.getElem?_eq_getElem h]; rfl

theorem hexStep (s : List UInt8) {k : Nat} (h : k < s.length) : bytesInts (hexF (s.take (k + 1))) = (bytesInts (hexF (s.take k)) ++ [u8 (hx (s[k].toNat / 16))]) ++ [u8 (hx (s[k].toNat % 16))] := by
  rw [take_succ_at s h, hexF_app, bytesInts_app, List.append_assoc]
  rfl

theorem hexLen (s : List UInt8) (hs : s.length ≤ 1048576) {k : Nat} (h : k < s.length) (x y : Int) :
    fits (plus (len (bytesInts (hexF (s.take k)))) (len [x])) = true ∧ fits (plus (len (bytesInts (hexF (s.take k)) ++ [x])) (len [y])) = true := by
  constructor
  · apply fits_true
    rw [len_bytes, length_hexF]
    simp only [List.length_take, plus, len, List.length_cons, List.length_nil]
    omega
  · apply fits_true
    have : (bytesInts (hexF (s.take k)) ++ [x]).length = 2 * min k s.length + 1 := by
      rw [List.length_append, length_bytes, length_hexF, List.length_take]; rfl
    simp only [plus, len, this, List.length_cons, List.length_nil]
    omega

theorem hex_val (s : List UInt8) (hs : s.length ≤ 1048576) : P_digits_Hex (s, ()) = some (hexF s, ()) := by
  unfold P_digits_Hex
  dsimp only
  rw [fits_true (by simp only [len]; omega), sel_true]
  have key : Loop (P_digits_Hex_L0 (s, ())) ((0, ()), (((), ((), ())), ([], ()))) = some (((s.length : Int), ()), (((), ((), ())), (bytesInts (hexF s), ()))) := by
    have := loop_seq (f := P_digits_Hex_L0 (s, ())) (r := (((s.length : Int), ()), (((), ((), ())), (bytesInts (hexF s), ())))) s.length (fun k => (((k : Int), ()), (((), ((), ())), (bytesInts (hexF (s.take k)), ())))) (fun k hk => by
      unfold P_digits_Hex_L0
      dsimp only
      obtain ⟨f1, f2⟩ := hexLen s hs hk (u8 (hx (s[k].toNat / 16))) (u8 (hx (s[k].toNat % 16)))
      rw [len_bytes, ltI_true (by omega), sel_true, within_true (by omega) (by omega), sel_true, idx_bytes s hk, obind_some, ltI_false (by decide), sel_false]
      rw [show ([48, 49, 50, 51, 52, 53, 54, 55, 56, 57, 97, 98, 99, 100, 101, 102] : List UInt8) = hexT from rfl, hex_hi, obind_some, f1, sel_true, hex_lo, obind_some]
      unfold app
      rw [f2, sel_true, way1_inl, iadd_one (by omega), hexStep s hk]) (by
      unfold P_digits_Hex_L0
      dsimp only
      rw [len_bytes, ltI_false (by omega), sel_false, way1_inr, List.take_length])
    exact this
  rw [key, obind_some]
  dsimp only
  rw [intsBytes_bytes]

/-! ### The reference's digits -/
end Go.Ge
