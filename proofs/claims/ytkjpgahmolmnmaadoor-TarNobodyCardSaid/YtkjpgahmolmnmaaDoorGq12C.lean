/- Headers: which ones may be; numbers and texts of fields, in plain words. -/
import Derived.Test.YtkjpgahmolmnmaaDoorGq12B
namespace Go.Ge
set_option linter.unusedVariables false
set_option linter.unusedSimpArgs false

theorem octF_at (n : Nat) : ∀ (d i : Nat), i < d → (octF n d)[i]? = some (octD n (d - 1 - i)) := by
  intro d
  induction d with
  | zero => intro i h; omega
  | succ d ih =>
    intro i h
    cases i with
    | zero => simp [octF]
    | succ i =>
      simp only [octF, List.getElem?_cons_succ]
      rw [ih i (by omega)]
      congr 2
      omega
theorem u8_octD (n k : Nat) : u8 (octD n k) = ((48 + n / 8 ^ k % 8 : Nat) : Int) := by
  unfold u8 octD
  have h : 48 + n / 8 ^ k % 8 < 256 := by omega
  rw [UInt8.toNat_ofNat', Nat.mod_eq_of_lt (by simpa using h)]

theorem sub48 : ∀ d : Fin 8, icv .i64 (isub .u8 ((48 + d.val : Nat) : Int) 48) = (d.val : Int) := by decide +kernel
theorem ior8 {v d : Nat} (hd : d < 8) (hv : 8 * v + d < 9223372036854775808) : ior .i64 (ishl .i64 (v : Int) 3) (icv .i64 (isub .u8 ((48 + d : Nat) : Int) 48)) = ((8 * v + d : Nat) : Int) := by
  rw [sub48 ⟨d, hd⟩]
  have e1 : ishl .i64 (v : Int) 3 = ((8 * v : Nat) : Int) := by
    unfold ishl
    rw [show min (Int.toNat 3) IntKind.i64.bits = 3 from rfl, show (v : Int) * 2 ^ 3 = ((8 * v : Nat) : Int) by omega]
    exact icv_i64 (by omega) (by omega)
  rw [e1]
  unfold ior
  have e : (BitVec.ofInt IntKind.i64.bits ((8 * v : Nat) : Int) ||| BitVec.ofInt IntKind.i64.bits (d : Int)).toNat = 8 * v + d := by
    rw [BitVec.toNat_or]
    have h1 : (BitVec.ofInt IntKind.i64.bits ((8 * v : Nat) : Int)).toNat = 2 ^ 3 * v := by
      rw [BitVec.toNat_ofInt, show (IntKind.i64.bits) = 64 from rfl]
      omega
    have h2 : (BitVec.ofInt IntKind.i64.bits (d : Int)).toNat = d := by
      rw [BitVec.toNat_ofInt, show (IntKind.i64.bits) = 64 from rfl]
      omega
    rw [h1, h2, ← Nat.two_pow_add_eq_or_of_lt hd]
  rw [e]
  exact icv_i64 (by omega) (by omega)

theorem fromOctal_oct (n d : Nat) (hn : n < 9223372036854775808) (h1 : 1 ≤ d) (h2 : d ≤ 21) (h0 : n / 8 ^ d = 0) : P_digits_FromOctal (octF n d, ()) = some ((n : Int), (true, ())) := by
  unfold P_digits_FromOctal
  dsimp only
  have hl : len (octF n d) = (d : Int) := by simp [len, length_octF]
  rw [hl, ltI_false (by omega), nt_false, sel_true, ltI_false (by omega), sel_false, fits_true (by omega), sel_true]
  have key : Loop (P_digits_FromOctal_L0 (octF n d, ())) ((0, (false, (0, (0, ())))), ()) = some (0, ((0, (false, ((n : Int), ((d : Int), ())))), ())) := by
    have := loop_seq (f := P_digits_FromOctal_L0 (octF n d, ())) (r := (0, ((0, (false, ((n : Int), ((d : Int), ())))), ()))) d
      (fun i => ((0, (false, (((n / 8 ^ (d - i) : Nat) : Int), ((i : Int), ())))), ())) (fun i hi => by
        unfold P_digits_FromOctal_L0
        dsimp only
        have hb : idx (bytesInts (octF n d)) (i : Int) = some (((48 + n / 8 ^ (d - 1 - i) % 8 : Nat)) : Int) := by
          rw [idx_nat]
          simp only [bytesInts, List.getElem?_map, octF_at n d i hi, Option.map_some]
          exact congrArg some (u8_octD n _)
        have e1 : d - i = (d - 1 - i) + 1 := by omega
        have e2 : n / 8 ^ (d - i) = n / 8 ^ (d - 1 - i) / 8 := by rw [e1, div8]
        have hle : n / 8 ^ (d - 1 - i) ≤ n := Nat.div_le_self _ _
        have e3 : 8 * (n / 8 ^ (d - i)) + n / 8 ^ (d - 1 - i) % 8 = n / 8 ^ (d - (i + 1)) := by rw [e2, show d - (i + 1) = d - 1 - i by omega]; omega
        rw [len_bytes, length_octF, ltI_true (by omega), sel_true, within_true (by omega) (by omega), sel_true, hb, obind_some, ltI_false (by omega), nt_false, sel_true, ltI_false (by omega), sel_false, ltI_false (by decide), sel_false,
          ior8 (by omega) (by omega), iadd_one (by omega), e3]) (by
        unfold P_digits_FromOctal_L0
        dsimp only
        rw [len_bytes, length_octF, ltI_false (by omega), sel_false, Nat.sub_self, Nat.pow_zero, Nat.div_one])
    have e0 : ((0 : Int), (false, (((n / 8 ^ (d - 0) : Nat) : Int), (((0 : Nat) : Int), ())))) = (0, (false, (0, (0, ())))) := by rw [Nat.sub_zero, h0]; rfl
    simp only [e0] at this
    exact this
  rw [key, obind_some]
  rfl

theorem octD_not (n k : Nat) : isNB (octD n k) = false := by
  cases h : isNB (octD n k) with
  | false => rfl
  | true =>
    exfalso
    have hu := u8_octD n k
    rcases (isNB_iff _).1 h with e | e
    · rw [e] at hu; unfold u8 at hu; have : (0 : UInt8).toNat = 0 := rfl; omega
    · rw [e] at hu; unfold u8 at hu; have : (32 : UInt8).toNat = 32 := rfl; omega

theorem octF_last (n d : Nat) (h1 : 1 ≤ d) : (octF n d).getLast? = some (octD n 0) := by
  rw [List.getLast?_eq_getElem?, length_octF, octF_at n d (d - 1) (by omega), Nat.sub_self]

/-- The number of a field. -/
theorem number_val (n d : Nat) (hn : n < 9223372036854775808) (h1 : 1 ≤ d) (h2 : d ≤ 21) (h0 : n / 8 ^ d = 0) (z : List UInt8) (hz : ∀ x ∈ z, x = 0 ∨ x = 32) (hne : z ≠ []) (hl : z.length ≤ 1000) :
    P_header_number (octF n d ++ z, ()) = some ((n : Int), ()) := by
  unfold P_header_number
  dsimp only
  rw [trimRight_nb _ (by rw [List.length_append, length_octF]; omega), obind_some, rtrim_all z _ (fun x hx => (isNB_iff x).2 (hz x hx)), rtrim_id (fun x hx => by rw [octF_last n d h1] at hx; obtain rfl := Option.some.inj hx; exact octD_not n 0)]
  dsimp only
  have hzl : 0 < z.length := List.length_pos_iff.2 hne
  rw [fromOctal_oct n d hn h1 h2 h0, obind_some]
  dsimp only
  rw [nt_true, nt_false, sel_true, eqI_false (by simp only [len, List.length_append, length_octF]; omega), sel_false]

/-! ### Texts without noughts -/
def noNul (s : List UInt8) : Prop := ∀ x ∈ s, x ≠ 0
instance (s : List UInt8) : Decidable (noNul s) := inferInstanceAs (Decidable (∀ x ∈ s, x ≠ 0))

theorem index_nul : ∀ s : List UInt8, decide (Lib.indexByte s 0 < 0) = decide (noNul s) := by
  intro s
  induction s with
  | nil => rfl
  | cons b r ih =>
    unfold Lib.indexByte
    by_cases hb : b = 0
    · subst hb
      rw [if_pos (by rfl), decide_eq_false (by decide), decide_eq_false (fun h => h 0 (List.mem_cons_self ..) rfl)]
    · rw [if_neg (by simpa using hb)]
      by_cases hr : noNul r
      · rw [decide_eq_true hr] at ih
        have h1 : Lib.indexByte r 0 < 0 := of_decide_eq_true ih
        have h2 := (indexByte_range 0 r).1
        have h3 : Lib.indexByte r 0 = -1 := by omega
        rw [h3, if_pos (by rfl), decide_eq_true (by decide), decide_eq_true]
        intro x hx
        rcases List.mem_cons.1 hx with rfl | hx
        · exact hb
        · exact hr x hx
      · rw [decide_eq_false hr] at ih
        have h1 : ¬ Lib.indexByte r 0 < 0 := of_decide_eq_false ih
        rw [if_neg (by simp only [beq_iff_eq]; omega), decide_eq_false (by omega), decide_eq_false]
        intro h
        exact hr fun x hx => h x (List.mem_cons_of_mem _ hx)

theorem indexNul_val (s : List UInt8) : P_strings_IndexByte (s, (0, ())) = some (Lib.indexByte s 0, ()) := rfl

theorem text_val (s : List UInt8) (hs : s.length ≤ 1048576) : P_header_text (s, ()) = some (rtrim isNul s, (decide (noNul (rtrim isNul s)), ())) := by
  unfold P_header_text
  dsimp only
  rw [trimRight_nul s hs, obind_some]
  dsimp only
  rw [indexNul_val, obind_some]
  unfold ltI
  dsimp only
  rw [index_nul]

/-- The text of a field that was filled up with noughts. -/
theorem text_pad (s z : List UInt8) (h : noNul s) (hz : ∀ x ∈ z, x = 0) (hl : (s ++ z).length ≤ 1048576) : P_header_text (s ++ z, ()) = some (s, (true, ())) := by
  have e : rtrim isNul (s ++ z) = s := by
    rw [rtrim_all z s (fun x hx => (isNul_iff x).2 (hz x hx)), rtrim_id]
    intro x hx
    cases hn : isNul x with
    | false => rfl
    | true => exact absurd ((isNul_iff x).1 hn) (h x (List.mem_of_getLast? hx))
  rw [text_val _ hl, e, decide_eq_true h]

/-! ### Which headers may be -/
abbrev Hd := List UInt8 × Int × Int × Int × Int × Int × Int × List UInt8 × Unit
def clr (s : List UInt8) (most : Int) : Prop := s ≠ [] ∧ (s.length : Int) ≤ most ∧ noNul s
instance (s : List UInt8) (most : Int) : Decidable (clr s most) := inferInstanceAs (Decidable (_ ∧ _ ∧ _))
def inN (n b : Int) : Prop := 0 ≤ n ∧ n < b
instance (n b : Int) : Decidable (inN n b) := inferInstanceAs (Decidable (_ ∧ _))
def kindOk (h : Hd) : Prop := (h.2.1 = 1 ∧ h.2.2.2.2.2.2.2.1 = []) ∨ (h.2.1 = 2 ∧ h.2.2.2.2.2.2.2.1 = [] ∧ h.2.2.2.2.2.1 = 0) ∨ (h.2.1 = 3 ∧ clr h.2.2.2.2.2.2.2.1 100 ∧ h.2.2.2.2.2.1 = 0)
instance (h : Hd) : Decidable (kindOk h) := inferInstanceAs (Decidable (_ ∨ _ ∨ _))
def okHd (h : Hd) (most : Int) : Prop := inN h.2.2.1 2097152 ∧ inN h.2.2.2.1 2097152 ∧ inN h.2.2.2.2.1 2097152 ∧ inN h.2.2.2.2.2.1 8589934592 ∧ inN h.2.2.2.2.2.2.1 8589934592 ∧ clr h.1 most ∧ kindOk h
instance (h : Hd) (most : Int) : Decidable (okHd h most) := inferInstanceAs (Decidable (_ ∧ _ ∧ _ ∧ _ ∧ _ ∧ _ ∧ _))

theorem in_val (n b : Int) : P_header_in (n, (b, ())) = some (decide (inN n b), ()) := by
  unfold P_header_in
  dsimp only
  by_cases h : 0 ≤ n
  · rw [leI_true h, sel_true]
    unfold ltI inN
    congr 2
    simp [h]
  · rw [leI_false (by omega), sel_false, decide_eq_false (fun e => h e.1)]
theorem clear_val (s : List UInt8) (m : Int) : P_header_clear (s, (m, ())) = some (decide (clr s m), ()) := by
  unfold P_header_clear
  dsimp only
  by_cases h : s = []
  · subst h
    rw [show eqS [] [] = true from rfl, nt_true, sel_false, sel_false, obind_some, decide_eq_false (fun e => e.1 rfl)]
  · rw [show eqS s [] = false from decide_eq_false h, nt_false, sel_true]
    by_cases h2 : (s.length : Int) ≤ m
    · rw [leI_true (by simp only [len]; exact h2), sel_true, indexNul_val, obind_some, obind_some]
      unfold ltI
      dsimp only
      rw [index_nul]
      congr 2
      unfold clr
      simp [h, h2]
    · rw [leI_false (by simp only [len]; omega), sel_false, obind_some, decide_eq_false (fun e => h2 e.2.1)]

theorem is_val12 (h : Hd) (m : Int) : P_header_is (h, (m, ())) = some (decide (okHd h m), ()) := by
  unfold P_header_is
  dsimp only
  by_cases h1 : inN h.2.2.1 2097152
  case neg => rw [in_val, obind_some, decide_eq_false h1, sel_false, obind_some, sel_false, obind_some, sel_false, obind_some, sel_false, obind_some, nt_false, nt_true, sel_false, obind_some, sel_true, decide_eq_false (fun e => h1 e.1)]
  rw [in_val, obind_some, decide_eq_true h1, sel_true, in_val, obind_some, obind_some]
  by_cases h2 : inN h.2.2.2.1 2097152
  case neg => rw [decide_eq_false h2, sel_false, obind_some, sel_false, obind_some, sel_false, obind_some, nt_false, nt_true, sel_false, obind_some, sel_true, decide_eq_false (fun e => h2 e.2.1)]
  rw [decide_eq_true h2, sel_true, in_val, obind_some, obind_some]
  by_cases h3 : inN h.2.2.2.2.1 2097152
  case neg => rw [decide_eq_false h3, sel_false, obind_some, sel_false, obind_some, nt_false, nt_true, sel_false, obind_some, sel_true, decide_eq_false (fun e => h3 e.2.2.1)]
  rw [decide_eq_true h3, sel_true, in_val, obind_some, obind_some]
  by_cases h4 : inN h.2.2.2.2.2.1 8589934592
  case neg => rw [decide_eq_false h4, sel_false, obind_some, nt_false, nt_true, sel_false, obind_some, sel_true, decide_eq_false (fun e => h4 e.2.2.2.1)]
  rw [decide_eq_true h4, sel_true, in_val, obind_some, obind_some]
  by_cases h5 : inN h.2.2.2.2.2.2.1 8589934592
  case neg => rw [decide_eq_false h5, nt_false, nt_true, sel_false, obind_some, sel_true, decide_eq_false (fun e => h5 e.2.2.2.2.1)]
  rw [decide_eq_true h5, nt_true, nt_false, sel_true, clear_val, obind_some, obind_some]
  by_cases h6 : clr h.1 m
  case neg => rw [decide_eq_false h6, nt_false, sel_true, decide_eq_false (fun e => h6 e.2.2.2.2.2.1)]
  rw [decide_eq_true h6, nt_true, sel_false]
  have hk : decide (okHd h m) = decide (kindOk h) := decide_eq_decide.2 ⟨fun e => e.2.2.2.2.2.2, fun e => ⟨h1, h2, h3, h4, h5, h6, e⟩⟩
  rw [hk]
  by_cases k1 : h.2.1 = 1
  · rw [k1, eqI_self, sel_true]
    unfold eqS
    rw [show decide (h.2.2.2.2.2.2.2.1 = []) = decide (kindOk h) from decide_eq_decide.2 (by unfold kindOk; simp [k1])]
  · rw [eqI_false k1, sel_false]
    by_cases k2 : h.2.1 = 2
    · rw [k2, eqI_self, sel_true]
      unfold eqS eqI
      by_cases kl : h.2.2.2.2.2.2.2.1 = []
      · rw [decide_eq_true kl, sel_true, show decide (h.2.2.2.2.2.1 = 0) = decide (kindOk h) from decide_eq_decide.2 (by unfold kindOk; simp [k2, kl])]
      · rw [decide_eq_false kl, sel_false, show decide (kindOk h) = false from decide_eq_false (by unfold kindOk; simp [k2, kl])]
    · rw [eqI_false k2, sel_false]
      by_cases k3 : h.2.1 = 3
      · rw [k3, eqI_self, sel_true, clear_val, obind_some]
        dsimp only
        unfold eqI
        by_cases kl : clr h.2.2.2.2.2.2.2.1 100
        · rw [decide_eq_true kl, sel_true, show decide (h.2.2.2.2.2.1 = 0) = decide (kindOk h) from decide_eq_decide.2 (by unfold kindOk; simp [k3, kl])]
        · rw [decide_eq_false kl, sel_false, show decide (kindOk h) = false from decide_eq_false (by unfold kindOk; simp [k3, kl])]
      · rw [eqI_false k3, sel_false, show decide (kindOk h) = false from decide_eq_false (by unfold kindOk; simp [k1, k2, k3])]
end Go.Ge
