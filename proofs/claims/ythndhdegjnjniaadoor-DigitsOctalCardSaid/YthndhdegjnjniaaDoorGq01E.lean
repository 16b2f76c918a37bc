/- Octal digits in plain words; the laws of digits. -/
import Derived.Test.YthndhdegjnjniaaDoorGq01D
import Derived.Test.YthndhdegjnjniaaDoorGq01C
namespace Go.Ge
set_option linter.unusedVariables false
set_option linter.unusedSimpArgs false
set_option maxRecDepth 100000

/-! ### The number of octal digits -/
def octStep (i : Nat) (n : Nat) (x : UInt8) : Option (Nat ⊕ (Nat × (Int × Bool × Int × Int × Unit) × Unit)) :=
  some (if x.toNat < 48 ∨ 55 < x.toNat then .inr (1, ((0, (false, ((n : Int), ((i : Int), ())))), ())) else .inl (8 * n + (x.toNat - 48)))
def octFin (i : Nat) (n : Nat) : Nat × (Int × Bool × Int × Int × Unit) × Unit := (0, ((0, (false, ((n : Int), ((i : Int), ())))), ()))

theorem octStep_in {i n n' : Nat} {x : UInt8} (hI : i ≤ 21 ∧ n < 8 ^ i) (hi : i < 21) (hs : octStep i n x = some (.inl n')) : i + 1 ≤ 21 ∧ n' < 8 ^ (i + 1) := by
  unfold octStep at hs
  have hs := Option.some.inj hs
  split at hs
  · cases hs
  · obtain rfl := Sum.inl.inj hs
    refine ⟨by omega, ?_⟩
    rw [Nat.pow_succ]
    omega

theorem pow8_le {i : Nat} (h : i ≤ 20) : 8 ^ i ≤ 1152921504606846976 := by
  have : (8 : Nat) ^ i ≤ 8 ^ 20 := Nat.pow_le_pow_right (by decide) h
  have e : (8 : Nat) ^ 20 = 1152921504606846976 := by decide
  omega

theorem fromOctal_run (s : List UInt8) (hs : s.length ≤ 21) : Loop (P_digits_FromOctal_L0 (s, ())) ((0, (false, (0, (0, ())))), ()) = runL octStep octFin s 0 0 := by
  have key := loop_run (f := P_digits_FromOctal_L0 (s, ())) s (fun (n : Nat) i => ((0, (false, ((n : Int), ((i : Int), ())))), ())) octStep octFin (fun i n => i ≤ 21 ∧ n < 8 ^ i)
    (fun n i x hx hi hI => by
      have hp := pow8_le (i := i) (by omega)
      obtain ⟨h1, h2⟩ := List.getElem?_eq_some_iff.1 hx
      have hxl := x.toNat_lt
      unfold P_digits_FromOctal_L0 octStep
      dsimp only
      rw [len_bytes, ltI_true (by omega), sel_true, within_true (by omega) (by omega), sel_true, idx_bytes s hi, h2, obind_some, iadd_one (by omega)]
      by_cases a : x.toNat < 48
      · rw [ltI_true (by unfold u8; omega), nt_true, sel_false, sel_true, if_pos (.inl a)]; rfl
      · by_cases b : 55 < x.toNat
        · rw [ltI_false (by unfold u8; omega), nt_false, sel_true, ltI_true (by unfold u8; omega), sel_true, if_pos (.inr b)]; rfl
        · rw [ltI_false (by unfold u8; omega), nt_false, sel_true, ltI_false (by unfold u8; omega), sel_false, show ltI 3 0 = false from rfl, sel_false, if_neg (by omega)]
          have e : u8 x = ((48 + (x.toNat - 48) : Nat) : Int) := by unfold u8; omega
          rw [e, ior8 (by omega) (by omega)]
          rfl)
    (fun n i x n' hx hI hq => octStep_in hI (by have := getElem?_lt hx; omega) hq)
    (fun n hI => by
      unfold P_digits_FromOctal_L0 octFin
      dsimp only
      rw [len_bytes, ltI_false (by omega), sel_false])
    (fun _ _ _ _ _ h => by cases h) 0 ⟨by omega, by decide⟩
  exact key

theorem refFromOctal_run (s : List UInt8) (hs : s.length ≤ 21) : Loop (P_ref01_FromOctal_L0 (s, ())) ((0, (false, (0, (0, ())))), ()) = runL octStep octFin s 0 0 := by
  have key := loop_run (f := P_ref01_FromOctal_L0 (s, ())) s (fun (n : Nat) i => ((0, (false, ((n : Int), ((i : Int), ())))), ())) octStep octFin (fun i n => i ≤ 21 ∧ n < 8 ^ i)
    (fun n i x hx hi hI => by
      have hp := pow8_le (i := i) (by omega)
      have hxl := x.toNat_lt
      unfold P_ref01_FromOctal_L0 octStep
      dsimp only
      rw [ltI_len_true hi, sel_true, idx_some' hx, obind_some, obind_some, obind_some, iadd_one (by omega)]
      by_cases a : x.toNat < 48
      · rw [ltI_true (by unfold u8; omega), nt_true, sel_false, obind_some, nt_true, sel_false, sel_true, if_pos (.inl a)]; rfl
      · by_cases b : 55 < x.toNat
        · rw [ltI_false (by unfold u8; omega), nt_false, sel_true, obind_some, ltI_true (by unfold u8; omega), nt_true, sel_false, sel_true, if_pos (.inr b)]; rfl
        · rw [ltI_false (by unfold u8; omega), nt_false, sel_true, obind_some, ltI_false (by unfold u8; omega), nt_false, sel_true, ltI_false (by omega), sel_false, if_neg (by omega)]
          have e : u8 x = ((48 + (x.toNat - 48) : Nat) : Int) := by unfold u8; omega
          rw [e, sub48 ⟨x.toNat - 48, by omega⟩, imul_i64 (by omega) (by omega), iadd_i64 (by dsimp only; omega) (by dsimp only; omega)]
          have e2 : (8 : Int) * (n : Int) + ((x.toNat - 48 : Nat) : Int) = ((8 * n + (x.toNat - 48) : Nat) : Int) := by omega
          dsimp only
          rw [e2]
          rfl)
    (fun n i x n' hx hI hq => octStep_in hI (by have := getElem?_lt hx; omega) hq)
    (fun n hI => by
      unfold P_ref01_FromOctal_L0 octFin
      dsimp only
      rw [ltI_len_end, sel_false])
    (fun _ _ _ _ _ h => by cases h) 0 ⟨by omega, by decide⟩
  exact key

theorem oct_run_total : ∀ (r : List UInt8) (i n : Nat), ∃ q, runL octStep octFin r i n = some q ∧ (q.1 = 0 ∨ q.1 = 1) := by
  intro r
  induction r with
  | nil => intro i n; exact ⟨_, rfl, .inl rfl⟩
  | cons x r ih =>
    intro i n
    unfold runL octStep
    by_cases h : x.toNat < 48 ∨ 55 < x.toNat
    · rw [if_pos h]; exact ⟨_, rfl, .inr rfl⟩
    · rw [if_neg h]; exact ih (i + 1) _

theorem fromOctal_same (s : List UInt8) (hs : s.length ≤ 1048576) : P_digits_FromOctal (s, ()) = P_ref01_FromOctal (s, ()) ∧ ∃ n b, P_digits_FromOctal (s, ()) = some (n, (b, ())) := by
  unfold P_digits_FromOctal P_ref01_FromOctal
  dsimp only
  by_cases h1 : s.length < 1
  · rw [ltI_true (by rw [len_eq]; omega), nt_true, sel_false, sel_true, sel_true]; exact ⟨rfl, _, _, rfl⟩
  · by_cases h2 : 21 < s.length
    · rw [ltI_false (by rw [len_eq]; omega), nt_false, sel_true, ltI_true (by rw [len_eq]; omega), sel_true, sel_true]; exact ⟨rfl, _, _, rfl⟩
    · rw [ltI_false (by rw [len_eq]; omega), nt_false, sel_true, ltI_false (by rw [len_eq]; omega), sel_false, sel_false, fits_true (by rw [len_eq]; omega), sel_true, fromOctal_run s (by omega), refFromOctal_run s (by omega)]
      refine ⟨rfl, ?_⟩
      obtain ⟨q, hq, hc⟩ := oct_run_total s 0 0
      rw [hq, obind_some]
      rcases hc with c | c
      · rw [c, eqN_zero, sel_true]; exact ⟨_, _, rfl⟩
      · rw [c, eqN_one, sel_false]; exact ⟨_, _, rfl⟩

theorem octal_same (n many : Int) (hn : n ≤ 9223372036854775807) : P_digits_Octal (n, (many, ())) = P_ref01_Octal (n, (many, ())) ∧ ∃ s b, P_digits_Octal (n, (many, ())) = some (s, (b, ())) := by
  by_cases h : 0 ≤ n ∧ 1 ≤ many ∧ many ≤ 21
  · obtain ⟨u, rfl⟩ := Int.eq_ofNat_of_zero_le h.1
    obtain ⟨d, rfl⟩ : ∃ d : Nat, many = (d : Int) := ⟨many.toNat, by omega⟩
    rw [octal_val u d (by omega) (by omega) (by omega), refOctal_val u d (by omega) (by omega) (by omega)]
    refine ⟨rfl, ?_⟩
    split
    · exact ⟨_, _, rfl⟩
    · exact ⟨_, _, rfl⟩
  · have e : sel (sel (nt (sel (nt (ltI n 0)) (ltI many 1) true)) (ltI 21 many) true) = fun (x y : Option (List UInt8 × Bool × Unit)) => x := by
      funext x y
      by_cases a : n < 0
      · rw [ltI_true a]; rfl
      · by_cases b : many < 1
        · rw [ltI_false (by omega), ltI_true b]; rfl
        · rw [ltI_false (by omega), ltI_false (by omega), ltI_true (by omega)]; rfl
    unfold P_digits_Octal P_ref01_Octal
    dsimp only
    rw [e]
    exact ⟨rfl, _, _, rfl⟩

/-! ### Of as many digits the greater number has the greater text -/
theorem octD_lt (a b k : Nat) : decide (octD a k < octD b k) = decide (a / 8 ^ k % 8 < b / 8 ^ k % 8) := by
  apply decide_eq_decide.2
  have ha : (octD a k).toNat = 48 + a / 8 ^ k % 8 := by unfold octD; rw [UInt8.toNat_ofNat', Nat.mod_eq_of_lt (by simp; omega)]
  have hb : (octD b k).toNat = 48 + b / 8 ^ k % 8 := by unfold octD; rw [UInt8.toNat_ofNat', Nat.mod_eq_of_lt (by simp; omega)]
  rw [UInt8.lt_iff_toNat_lt, ha, hb]
  omega
theorem octD_eq (a b k : Nat) : (octD a k == octD b k) = decide (a / 8 ^ k % 8 = b / 8 ^ k % 8) := by
  have ha : (octD a k).toNat = 48 + a / 8 ^ k % 8 := by unfold octD; rw [UInt8.toNat_ofNat', Nat.mod_eq_of_lt (by simp; omega)]
  have hb : (octD b k).toNat = 48 + b / 8 ^ k % 8 := by unfold octD; rw [UInt8.toNat_ofNat', Nat.mod_eq_of_lt (by simp; omega)]
  rw [Bool.eq_iff_iff, beq_iff_eq, decide_eq_true_iff]
  constructor
  · intro h
    have := congrArg UInt8.toNat h
    omega
  · intro h
    apply UInt8.toNat_inj.1
    omega
theorem oct_order (a b : Nat) : ∀ d, ltS (octF a d) (octF b d) = decide (a % 8 ^ d < b % 8 ^ d) := by
  intro d
  induction d with
  | zero => simp [octF, ltS_nil', Nat.mod_one]
  | succ d ih =>
    have e : ∀ n : Nat, n % 8 ^ (d + 1) = n / 8 ^ d % 8 * 8 ^ d + n % 8 ^ d := by
      intro n
      rw [Nat.pow_succ, Nat.mod_mul, Nat.mul_comm, Nat.add_comm]
    have hp : 0 < 8 ^ d := Nat.pow_pos (by decide)
    have la := Nat.mod_lt a hp
    have lb := Nat.mod_lt b hp
    rw [show octF a (d + 1) = octD a d :: octF a d from rfl, show octF b (d + 1) = octD b d :: octF b d from rfl, ltS_cons, octD_lt, octD_eq, ih, e a, e b]
    generalize a / 8 ^ d % 8 = p at *
    generalize b / 8 ^ d % 8 = q at *
    generalize a % 8 ^ d = s at *
    generalize b % 8 ^ d = t at *
    generalize 8 ^ d = m at *
    rw [Bool.eq_iff_iff]
    simp only [Bool.or_eq_true, Bool.and_eq_true, decide_eq_true_eq]
    constructor
    · rintro (h | ⟨rfl, h⟩)
      · have : (p + 1) * m ≤ q * m := Nat.mul_le_mul_right _ h
        rw [Nat.add_mul, Nat.one_mul] at this
        omega
      · omega
    · intro h
      rcases Nat.lt_trichotomy p q with c | c | c
      · exact .inl c
      · subst c; exact .inr ⟨rfl, by omega⟩
      · have : (q + 1) * m ≤ p * m := Nat.mul_le_mul_right _ c
        rw [Nat.add_mul, Nat.one_mul] at this
        omega

/-! ### awake -/
theorem itoa_min : Lib.itoa (-9223372036854775808) = [45, 57, 50, 50, 51, 51, 55, 50, 48, 51, 54, 56, 53, 52, 55, 55, 53, 56, 48, 56] := by
  simp [Lib.itoa, Lib.decDigits]
theorem itoa_70 : Lib.itoa (-70) = [45, 55, 48] := by simp [Lib.itoa, Lib.decDigits]
theorem num_01 : numF [48, 49] = (0, false) := by
  have : Lib.parseIntB 64 [48, 49] = .ok 1 := by decide
  unfold numF
  rw [this]
  simp [Lib.itoa, Lib.decDigits]

theorem awake01 : P_law01_awake () = some (true, ()) := by
  unfold P_law01_awake
  rw [show P_digits_Octal (493, (7, ())) = _ from octal_val 493 7 (by decide) (by decide) (by decide), if_pos (by decide), obind_some, ← itoa_min, num_val _ (by rw [itoa_min]; decide), numF_itoa (by decide) (by decide), obind_some, num_val _ (by decide), num_01, obind_some, unhex_val _ (by decide), obind_some, dec_val, itoa_70, obind_some, hex_val _ (by decide)]
  rfl

theorem if01 {c : Bool} {x : Option (Bool × Unit)} (h : c = false → x = some (true, ())) : sel c (obind (P_law01_awake ()) fun y => some (y.1, ())) x = some (true, ()) := by
  cases c with
  | true => rw [sel_true, awake01]; rfl
  | false => rw [sel_false]; exact h rfl
theorem or_sel {a b : Bool} : sel (nt a) b true = (a || b) := by cases a <;> rfl
theorem short_of {n : Nat} {s : List UInt8} (h : ltI (n : Int) (len s) = false) : s.length ≤ n := by
  unfold ltI len at h
  simp at h
  omega

theorem digitsDec_val (n : Int) (s : List UInt8) (hn : -9223372036854775808 ≤ n ∧ n ≤ 9223372036854775807) : P_law01_DigitsDec (n, (s, ())) = some (true, ()) := by
  unfold P_law01_DigitsDec
  dsimp only
  refine if01 fun h => ?_
  have hs := short_of (n := 100) h
  rw [num_val s (by omega), obind_some, refNum_val s (by omega), obind_some, dec_val, obind_some, refDec_val hn.1 hn.2, obind_some]
  dsimp only
  rw [eqS_self, eqI_self, eqB_self, awake01]
  rfl

theorem digitsHex_val (a b : List UInt8) : P_law01_DigitsHex (a, (b, ())) = some (true, ()) := by
  unfold P_law01_DigitsHex
  dsimp only
  refine if01 fun h => ?_
  rw [or_sel, Bool.or_eq_false_iff] at h
  have ha := short_of (n := 512) h.1
  have hb := short_of (n := 512) h.2
  rw [unhex_val b (by omega), obind_some, refUnhex_val b (by omega), obind_some, hex_val a (by omega), obind_some, refHex_val a (by omega), obind_some]
  dsimp only
  rw [eqS_self, eqS_self, eqB_self, awake01]
  rfl

theorem digitsOctal_val (n many : Int) (s : List UInt8) (hn : n ≤ 9223372036854775807) : P_law01_DigitsOctal (n, (many, (s, ()))) = some (true, ()) := by
  unfold P_law01_DigitsOctal
  dsimp only
  refine if01 fun h => ?_
  have hs := short_of (n := 100) h
  obtain ⟨e1, t, b, e2⟩ := octal_same n many hn
  obtain ⟨e3, m, c, e4⟩ := fromOctal_same s (by omega)
  rw [← e1, e2, obind_some, obind_some, ← e3, e4, obind_some, obind_some]
  dsimp only
  rw [eqS_self, eqB_self, eqI_self, eqB_self, awake01]
  rfl

theorem digitsBack_val (l : List Int) (a b : List UInt8) (hl : l.length = 2) (hr : ∀ (i : Nat) (x : Int), l[i]? = some x → -9223372036854775808 ≤ x ∧ x ≤ 9223372036854775807) : P_law01_DigitsBack (l, (a, (b, ()))) = some (true, ()) := by
  unfold P_law01_DigitsBack
  dsimp only
  refine if01 fun h => ?_
  rw [or_sel, Bool.or_eq_false_iff] at h
  have ha := short_of (n := 512) h.1
  have hb := short_of (n := 512) h.2
  obtain ⟨x, y, rfl⟩ : ∃ x y, l = [x, y] := by
    match l, hl with
    | [x, y], _ => exact ⟨x, y, rfl⟩
  obtain ⟨x0, x1⟩ := hr 0 x rfl
  obtain ⟨y0, y1⟩ := hr 1 y rfl
  have i0 : idx [x, y] 0 = some x := rfl
  have i1 : idx [x, y] 1 = some y := rfl
  have w0 : within 0 2 = true := rfl
  have w1 : within 1 2 = true := rfl
  have hdl : ∀ v : Int, -9223372036854775808 ≤ v → v ≤ 9223372036854775807 → (Lib.itoa v).length ≤ 1048576 := fun v p q => Nat.le_trans (Lib.itoa_length_le v p q) (by decide)
  simp only [i0, i1, w0, w1, obind_some, sel_true, dec_val]
  rw [num_val _ (hdl x x0 x1), numF_itoa x0 x1, obind_some, hex_val a (by omega), obind_some, unhex_val _ (by rw [length_hexF]; omega), unhex_hex, obind_some]
  dsimp only [ans]
  rw [eqI_self, nt_true, sel_false, sel_false, eqS_self, nt_true, sel_false, sel_false]
  have e1 : eqB (eqS (Lib.itoa x) (Lib.itoa y)) (eqI x y) = true := by
    by_cases e : x = y
    · subst e; rw [eqS_self, eqI_self]; rfl
    · rw [eqI_false e, eqS_false (fun q => e (itoa_inj x0 x1 y0 y1 q))]; rfl
  rw [e1, nt_true, sel_false, obind_some, hex_val b (by omega), obind_some]
  dsimp only
  have e2 : eqB (eqS (hexF a) (hexF b)) (eqS a b) = true := by
    by_cases e : a = b
    · subst e; rw [eqS_self, eqS_self]; rfl
    · have hne : hexF a ≠ hexF b := fun q => e (by
        have h1 := unhex_hex a
        rw [q, unhex_hex b] at h1
        exact (Option.some.inj h1).symm)
      rw [eqS_false e, eqS_false hne]; rfl
  rw [e2, nt_true, sel_false]
  -- octal digits
  have oct : ∀ v : Int, v ≤ 9223372036854775807 → (v < 0 ∧ P_digits_Octal (v, (21, ())) = some ([], (false, ()))) ∨ ∃ u : Nat, v = (u : Int) ∧ u < 9223372036854775808 ∧ P_digits_Octal (v, (21, ())) = some (octF u 21, (true, ())) := by
    intro v hv
    by_cases hneg : v < 0
    · refine .inl ⟨hneg, ?_⟩
      unfold P_digits_Octal
      dsimp only
      rw [ltI_true hneg]; rfl
    · obtain ⟨u, rfl⟩ : ∃ u : Nat, v = (u : Int) := ⟨v.toNat, by omega⟩
      refine .inr ⟨u, rfl, by omega, ?_⟩
      rw [show P_digits_Octal ((u : Int), (21, ())) = _ from octal_val u 21 (by omega) (by decide) (by decide), if_pos]
      rw [Nat.div_eq_of_lt]
      have : (8 : Nat) ^ 21 = 9223372036854775808 := by decide
      omega
  rcases oct x x1 with ⟨hx, ex⟩ | ⟨u, rfl, hu, ex⟩
  · rw [ex, obind_some]
    rcases oct y y1 with ⟨hy, ey⟩ | ⟨w, rfl, hw, ey⟩
    · rw [ey, obind_some]
      dsimp only
      rw [leI_false hx, leI_false hy, awake01]
      rfl
    · rw [ey, obind_some]
      dsimp only
      rw [leI_false hx, leI_true (by omega), awake01]
      rfl
  · rw [ex, obind_some]
    rcases oct y y1 with ⟨hy, ey⟩ | ⟨w, rfl, hw, ey⟩
    · rw [ey, obind_some]
      dsimp only
      rw [leI_true (by omega), leI_false hy, awake01]
      rfl
    · rw [ey, obind_some]
      dsimp only
      have hp : (8 : Nat) ^ 21 = 9223372036854775808 := by decide
      rw [leI_true (by omega), leI_true (by omega), fromOctal_oct u 21 hu (by decide) (by decide) (by rw [Nat.div_eq_of_lt]; omega), obind_some, oct_order, Nat.mod_eq_of_lt (by omega), Nat.mod_eq_of_lt (by omega), awake01]
      dsimp only
      rw [eqI_self, show eqI (len (octF u 21)) 21 = true from eqI_true (by rw [len_eq, length_octF]; rfl)]
      have e : eqB (decide (u < w)) (ltI (u : Int) (w : Int)) = true := by
        rw [ltI_nat, eqB_self]
      rw [e]
      rfl
end Go.Ge
