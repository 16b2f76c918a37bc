/- What a block is taken as: of any block; of one that was put. -/
import Derived.Test.YtkjpgahmolmnmaaDoorGq12F
namespace Go.Ge
set_option linter.unusedVariables false
set_option linter.unusedSimpArgs false

/-! ### Any block -/
theorem fromOctal_total (s : List UInt8) (hs : s.length ≤ 1048576) : ∃ n ok, P_digits_FromOctal (s, ()) = some (n, (ok, ())) := by
  unfold P_digits_FromOctal
  dsimp only
  cases hc : (sel (nt (ltI (len s) 1)) (ltI 21 (len s)) true) with
  | true => exact ⟨0, false, rfl⟩
  | false =>
    rw [sel_false, fits_true (by simp only [len]; omega), sel_true]
    have key : ∀ (k i : Nat) (v : Int), s.length - i ≤ k → i ≤ s.length → ∃ q, Loop (P_digits_FromOctal_L0 (s, ())) ((0, (false, (v, ((i : Int), ())))), ()) = some q := by
      intro k
      induction k with
      | zero =>
        intro i v h hi
        rw [Loop_eq]
        unfold P_digits_FromOctal_L0
        dsimp only
        rw [len_bytes, ltI_false (by omega), sel_false]
        exact ⟨_, rfl⟩
      | succ k ih =>
        intro i v h hi
        by_cases hlt : i < s.length
        · cases hd : (sel (nt (ltI (u8 s[i]) 48)) (ltI 55 (u8 s[i])) true) with
          | true =>
            have e0 : P_digits_FromOctal_L0 (s, ()) ((0, (false, (v, ((i : Int), ())))), ()) = some (.inr (1, ((0, (false, (v, ((i : Int), ())))), ()))) := by
              unfold P_digits_FromOctal_L0
              dsimp only
              rw [len_bytes, ltI_true (by omega), sel_true, within_true (by omega) (by omega), sel_true, idx_bytes s hlt, obind_some, hd, sel_true]
            rw [Loop_eq, e0]
            exact ⟨_, rfl⟩
          | false =>
            have e0 : P_digits_FromOctal_L0 (s, ()) ((0, (false, (v, ((i : Int), ())))), ()) = some (.inl ((0, (false, (ior .i64 (ishl .i64 v 3) (icv .i64 (isub .u8 (u8 s[i]) 48)), (((i + 1 : Nat) : Int), ())))), ())) := by
              unfold P_digits_FromOctal_L0
              dsimp only
              rw [len_bytes, ltI_true (by omega), sel_true, within_true (by omega) (by omega), sel_true, idx_bytes s hlt, obind_some, hd, sel_false, ltI_false (by decide), sel_false, iadd_one (by omega)]
            rw [Loop_eq, e0]
            exact ih (i + 1) _ (by omega) (by omega)
        · rw [Loop_eq]
          unfold P_digits_FromOctal_L0
          dsimp only
          rw [len_bytes, ltI_false (by omega), sel_false]
          exact ⟨_, rfl⟩
    obtain ⟨q, hq⟩ := key s.length 0 0 (by omega) (by omega)
    rw [show Loop (P_digits_FromOctal_L0 (s, ())) ((0, (false, (0, (0, ())))), ()) = some q from hq, obind_some]
    cases eqN q.1 0 with
    | true => exact ⟨_, _, rfl⟩
    | false => exact ⟨_, _, rfl⟩

theorem rtrim_length (p : UInt8 → Bool) (s : List UInt8) : (rtrim p s).length ≤ s.length := by
  unfold rtrim
  rw [List.length_reverse]
  have := List.takeWhile_append_dropWhile (p := p) (l := s.reverse)
  have := congrArg List.length this
  rw [List.length_append, List.length_reverse] at this
  omega

theorem number_total (s : List UInt8) (hs : s.length ≤ 1048576) : ∃ n, P_header_number (s, ()) = some (n, ()) := by
  unfold P_header_number
  dsimp only
  have hl := rtrim_length isNB s
  rw [trimRight_nb s hs, obind_some]
  obtain ⟨n, ok, h⟩ := fromOctal_total (rtrim isNB s) (by omega)
  dsimp only
  rw [h, obind_some]
  cases (sel (nt (nt ok)) (eqI (len (rtrim isNB s)) (len s)) true) with
  | true => exact ⟨_, rfl⟩
  | false => exact ⟨_, rfl⟩

def fld (b : List UInt8) (a n : Nat) : List UInt8 := (b.drop a).take n
theorem fld_length (b : List UInt8) (a n : Nat) : (fld b a n).length ≤ n := by simp [fld]; omega

theorem of_val12 (b : List UInt8) (hb : b.length = 512) (k : Int) (a n : Nat) (hk : idx hfields k = some ((a : Int), ((n : Int), ()))) (h : a + n ≤ 512) : P_header_of (b, (k, ())) = some (fld b a n, ()) := by
  unfold P_header_of
  rw [fields_val, obind_some]
  dsimp only
  rw [hk, obind_some]
  dsimp only
  rw [show iadd .i64 (a : Int) (n : Int) = ((a + n : Nat) : Int) from iadd_nat (by omega), inside_true (by omega) (by omega) (by simp only [len]; omega), sel_true]
  unfold sub minus fld
  rw [Int.toNat_natCast, show (((a + n : Nat) : Int) - (a : Int)).toNat = n by omega]

section
variable (b : List UInt8)
theorem o0 (hb : b.length = 512) : P_header_of (b, (0, ())) = some (fld b 0 100, ()) := of_val12 b hb 0 0 100 rfl (by omega)
theorem o1 (hb : b.length = 512) : P_header_of (b, (1, ())) = some (fld b 100 8, ()) := of_val12 b hb 1 100 8 rfl (by omega)
theorem o2 (hb : b.length = 512) : P_header_of (b, (2, ())) = some (fld b 108 8, ()) := of_val12 b hb 2 108 8 rfl (by omega)
theorem o3 (hb : b.length = 512) : P_header_of (b, (3, ())) = some (fld b 116 8, ()) := of_val12 b hb 3 116 8 rfl (by omega)
theorem o4 (hb : b.length = 512) : P_header_of (b, (4, ())) = some (fld b 124 12, ()) := of_val12 b hb 4 124 12 rfl (by omega)
theorem o5 (hb : b.length = 512) : P_header_of (b, (5, ())) = some (fld b 136 12, ()) := of_val12 b hb 5 136 12 rfl (by omega)
theorem o6 (hb : b.length = 512) : P_header_of (b, (6, ())) = some (fld b 148 8, ()) := of_val12 b hb 6 148 8 rfl (by omega)
theorem o7 (hb : b.length = 512) : P_header_of (b, (7, ())) = some (fld b 156 1, ()) := of_val12 b hb 7 156 1 rfl (by omega)
theorem o8 (hb : b.length = 512) : P_header_of (b, (8, ())) = some (fld b 157 100, ()) := of_val12 b hb 8 157 100 rfl (by omega)
theorem o9 (hb : b.length = 512) : P_header_of (b, (9, ())) = some (fld b 257 8, ()) := of_val12 b hb 9 257 8 rfl (by omega)
theorem o10 (hb : b.length = 512) : P_header_of (b, (10, ())) = some (fld b 345 155, ()) := of_val12 b hb 10 345 155 rfl (by omega)
end

def noHd : Hd := ([], (0, (0, (0, (0, (0, (0, ([], ()))))))))

theorem take_short (b : List UInt8) (hb : b.length ≠ 512) : P_header_Take (b, ()) = some (noHd, (2, ())) := by
  unfold P_header_Take
  dsimp only
  rw [eqI_false (by simp only [len]; omega), nt_false, nt_true, sel_false, obind_some, nt_true, sel_false, obind_some, sel_true]
  rfl

theorem take_other (b : List UInt8) (hb : b.length = 512) (hm : fld b 257 8 ≠ magic) : P_header_Take (b, ()) = some (noHd, (2, ())) := by
  unfold P_header_Take
  dsimp only
  rw [eqI_true (by simp only [len]; omega), nt_true, nt_false, sel_true, o9 b hb, obind_some, obind_some, show ([117, 115, 116, 97, 114, 0, 48, 48] : List UInt8) = magic from rfl]
  dsimp only
  rw [show eqS (fld b 257 8) magic = false from decide_eq_false hm, nt_false, nt_true, sel_false, obind_some, sel_true]
  rfl

/-- A block whose sum is another one than it tells. -/
theorem take_bad (b : List UInt8) (hb : b.length = 512) {n : Int} (hn : P_header_number (fld b 148 8, ()) = some (n, ())) (hne : n ≠ (sumTo b 512 : Int)) : P_header_Take (b, ()) = some (noHd, (2, ())) := by
  by_cases hm : fld b 257 8 = magic
  · unfold P_header_Take
    dsimp only
    rw [eqI_true (by simp only [len]; omega), nt_true, nt_false, sel_true, o9 b hb, obind_some, obind_some, show ([117, 115, 116, 97, 114, 0, 48, 48] : List UInt8) = magic from rfl]
    dsimp only
    rw [hm, show eqS magic magic = true from eqS_self _, nt_true, nt_false, sel_true, o6 b hb, obind_some]
    dsimp only
    rw [hn, obind_some, sum_val12 b (by omega), obind_some]
    dsimp only
    rw [hb, eqI_false hne, nt_false, obind_some, sel_true]
    rfl
  · exact take_other b hb hm

theorem fin_total {Q : Prop} (hQ : Q) (o : Option Bool) (ho : ∃ y, o = some y) (a c : Hd × Int × Unit) : ∃ x e, obind o (fun y => sel y (some a) (some c)) = some (x, (e, ())) ∧ (e = 0 → Q) := by
  obtain ⟨y, rfl⟩ := ho
  cases y with
  | true => exact ⟨a.1, a.2.1, rfl, fun _ => hQ⟩
  | false => exact ⟨c.1, c.2.1, rfl, fun _ => hQ⟩
theorem sel_total {α : Type} (c : Bool) (x y : Option α) (hx : ∃ v, x = some v) (hy : ∃ v, y = some v) : ∃ v, sel c x y = some v := by cases c <;> assumption

theorem take_total (b : List UInt8) (hb : b.length = 512) : ∃ x e, P_header_Take (b, ()) = some (x, (e, ())) ∧ (e = 0 → fld b 257 8 = magic) := by
  by_cases hm : fld b 257 8 = magic
  case neg => exact ⟨_, _, take_other b hb hm, fun e => absurd e (by decide)⟩
  obtain ⟨n6, h6⟩ := number_total (fld b 148 8) (by have := fld_length b 148 8; omega)
  by_cases hs : n6 = (sumTo b 512 : Int)
  case neg => exact ⟨_, _, take_bad b hb h6 hs, fun e => absurd e (by decide)⟩
  obtain ⟨n1, h1⟩ := number_total (fld b 100 8) (by have := fld_length b 100 8; omega)
  obtain ⟨n2, h2⟩ := number_total (fld b 108 8) (by have := fld_length b 108 8; omega)
  obtain ⟨n3, h3⟩ := number_total (fld b 116 8) (by have := fld_length b 116 8; omega)
  obtain ⟨n4, h4⟩ := number_total (fld b 124 12) (by have := fld_length b 124 12; omega)
  obtain ⟨n5, h5⟩ := number_total (fld b 136 12) (by have := fld_length b 136 12; omega)
  have t0 := text_val (fld b 0 100) (by have := fld_length b 0 100; omega)
  have t8 := text_val (fld b 157 100) (by have := fld_length b 157 100; omega)
  have t10 := text_val (fld b 345 155) (by have := fld_length b 345 155; omega)
  have l0 := rtrim_length isNul (fld b 0 100)
  have l10 := rtrim_length isNul (fld b 345 155)
  have m0 := fld_length b 0 100
  have m10 := fld_length b 345 155
  unfold P_header_Take
  dsimp only
  rw [eqI_true (by simp only [len]; omega), nt_true, nt_false, sel_true, o9 b hb, obind_some, obind_some, show ([117, 115, 116, 97, 114, 0, 48, 48] : List UInt8) = magic from rfl]
  dsimp only
  rw [hm, show eqS magic magic = true from eqS_self _, nt_true, nt_false, sel_true, o6 b hb, obind_some]
  dsimp only
  rw [h6, obind_some, sum_val12 b (by omega), obind_some]
  dsimp only
  rw [hb, eqI_true hs, nt_true, obind_some, sel_false, o0 b hb, obind_some]
  dsimp only
  rw [t0, obind_some, o8 b hb, obind_some]
  dsimp only
  rw [t8, obind_some, o10 b hb, obind_some]
  dsimp only
  rw [t10, obind_some]
  dsimp only
  have hpre : ∃ p : List UInt8, (sel (nt (eqS (rtrim isNul (fld b 345 155)) [])) (sel (fits (plus (len (rtrim isNul (fld b 345 155))) (len ([47] : List UInt8)))) (sel (fits (plus (len (app (rtrim isNul (fld b 345 155)) [47])) (len (rtrim isNul (fld b 0 100)))))
      (some ((app (app (rtrim isNul (fld b 345 155)) [47]) (rtrim isNul (fld b 0 100)), ()), ())) none) none) (some ((rtrim isNul (fld b 0 100), ()), ()))) = some ((p, ()), ()) := by
    cases (nt (eqS (rtrim isNul (fld b 345 155)) [])) with
    | true =>
      rw [sel_true, fits_true (by simp only [plus, len, List.length_cons, List.length_nil]; omega), sel_true, fits_true (by simp only [plus, len, app, List.length_append, List.length_cons, List.length_nil]; omega), sel_true]
      exact ⟨_, rfl⟩
    | false => exact ⟨_, rfl⟩
  obtain ⟨p, hp⟩ := hpre
  rw [hp, obind_some, o1 b hb, obind_some]
  dsimp only
  rw [h1, obind_some, o2 b hb, obind_some]
  dsimp only
  rw [h2, obind_some, o3 b hb, obind_some]
  dsimp only
  rw [h3, obind_some, o4 b hb, obind_some]
  dsimp only
  rw [h4, obind_some, o5 b hb, obind_some]
  dsimp only
  rw [h5, obind_some, o7 b hb, obind_some]
  exact fin_total rfl _ (sel_total _ _ _ ⟨_, by rw [is_val12, obind_some]⟩ ⟨_, rfl⟩) _ _

theorem magic_not_zero (b : List UInt8) (h : fld b 257 8 = magic) : ¬ ∀ x ∈ b, x = 0 := fun hz => by
  have h1 : (117 : UInt8) ∈ fld b 257 8 := by rw [h]; exact List.mem_cons_self ..
  have h2 : (117 : UInt8) ∈ b := List.mem_of_mem_drop (List.mem_of_mem_take h1)
  exact absurd (hz 117 h2) (by decide)
end Go.Ge
