/- Numbers' decimal digits in plain words. -/
import Derived.Test.YtlhpaedjpdjcfaaDoorGq12C
import Derived.Test.YtlhpaedjpdjcfaaDoorGqC
import Derived.Test.YtlhpaedjpdjcfaaDoorGp01
import Derived.Lib.ParseIntBCases
import Derived.Lib.ItoaMem
namespace Go.Ge
set_option linter.unusedVariables false
set_option linter.unusedSimpArgs false
set_option maxRecDepth 100000

theorem dec_small {u : Nat} (h : u < 10) : Lib.decDigits u = [UInt8.ofNat (48 + u)] := by rw [Lib.decDigits, dif_pos h]
theorem dec_big {u : Nat} (h : ¬ u < 10) : Lib.decDigits u = Lib.decDigits (u / 10) ++ [UInt8.ofNat (48 + u % 10)] := by rw [Lib.decDigits, dif_neg h]
theorem digit_toNat {d : Nat} (h : d < 10) : (UInt8.ofNat (48 + d)).toNat = 48 + d := by
  rw [UInt8.toNat_ofNat', Nat.mod_eq_of_lt (by simp; omega)]
theorem dec_head (u : Nat) : ∃ d r, d < 10 ∧ Lib.decDigits u = UInt8.ofNat (48 + d) :: r := by
  induction u using Nat.strongRecOn with
  | _ u ih =>
    by_cases h : u < 10
    · exact ⟨u, [], h, dec_small h⟩
    · obtain ⟨d, r, h1, h2⟩ := ih (u / 10) (by omega)
      exact ⟨d, r ++ [UInt8.ofNat (48 + u % 10)], h1, by rw [dec_big h, h2]; rfl⟩

/-! ### What is parsed of digits -/
theorem parseM_dec (M : Nat) (hM : M ≤ 18446744073709551615) : ∀ (u : Nat), u ≤ M → ∀ m, Lib.parseUintM M 0 (Lib.decDigits u ++ m) = Lib.parseUintM M u m := by
  intro u
  induction u using Nat.strongRecOn with
  | _ u ih =>
    intro hu m
    have step : ∀ (acc d : Nat) (m : List UInt8), d < 10 → acc * 10 + d ≤ M → Lib.parseUintM M acc (UInt8.ofNat (48 + d) :: m) = Lib.parseUintM M (acc * 10 + d) m := by
      intro acc d m hd hle
      rw [Lib.parseUintM, digit_toNat hd, if_pos (by omega), if_neg (by omega), show 48 + d - 48 = d by omega, if_neg (by omega)]
    by_cases h : u < 10
    · rw [dec_small h, List.singleton_append, step 0 u m h (by omega)]
      congr 1; omega
    · rw [dec_big h, List.append_assoc, ih (u / 10) (by omega) (by omega), List.singleton_append, step (u / 10) (u % 10) m (by omega) (by omega)]
      congr 1; omega

theorem parse_itoa {v : Int} (h0 : -9223372036854775808 ≤ v) (h1 : v ≤ 9223372036854775807) : Lib.parseIntB 64 (Lib.itoa v) = .ok v := by
  have hU : ∀ u : Nat, u ≤ 18446744073709551615 → Lib.parseUintB 64 (Lib.decDigits u) = .ok u := by
    intro u hu
    unfold Lib.parseUintB
    obtain ⟨d, r, _, e⟩ := dec_head u
    rw [if_neg (by rw [e]; simp)]
    have := parseM_dec 18446744073709551615 (Nat.le_refl _) u hu []
    rw [List.append_nil] at this
    rw [show (2 ^ 64 - 1 : Nat) = 18446744073709551615 from rfl, this]
    rfl
  by_cases hv : v < 0
  · obtain ⟨u, rfl⟩ : ∃ u : Nat, v = -(u : Int) := ⟨v.natAbs, by omega⟩
    rw [Lib.itoa_neg u (by omega), Lib.parseIntB_minus, hU u (by omega)]
    unfold Lib.signedC
    dsimp only
    rw [if_neg (by omega)]
  · obtain ⟨u, rfl⟩ : ∃ u : Nat, v = (u : Int) := ⟨v.toNat, by omega⟩
    rw [Lib.itoa_nonneg u]
    obtain ⟨d, r, hd, e⟩ := dec_head u
    rw [e, Lib.parseIntB_plain 64 _ r (by rw [digit_toNat hd]; omega) (by rw [digit_toNat hd]; omega), ← e, hU u (by omega)]
    unfold Lib.signlessC
    dsimp only
    rw [if_neg (by omega)]

theorem numF_itoa {v : Int} (h0 : -9223372036854775808 ≤ v) (h1 : v ≤ 9223372036854775807) : numF (Lib.itoa v) = (v, true) := by
  unfold numF
  rw [parse_itoa h0 h1]
  simp
theorem numF_none {s : List UInt8} (h : ∀ v, -9223372036854775808 ≤ v → v ≤ 9223372036854775807 → Lib.itoa v ≠ s) : numF s = (0, false) := by
  unfold numF
  split
  · rename_i v hv
    have := Lib.parseIntB_bounds hv
    simp only [Nat.reduceSub, Nat.reducePow] at this
    rw [if_neg (h v (by omega) (by omega))]
  · rfl
theorem itoa_inj {a b : Int} (a0 : -9223372036854775808 ≤ a) (a1 : a ≤ 9223372036854775807) (b0 : -9223372036854775808 ≤ b) (b1 : b ≤ 9223372036854775807) (h : Lib.itoa a = Lib.itoa b) : a = b := by
  have := parse_itoa a0 a1
  rw [h, parse_itoa b0 b1] at this
  exact (Lib.NumEnd.ok.inj this).symm

theorem num_val (s : List UInt8) (hs : s.length ≤ 1048576) : P_digits_Num (s, ()) = some ((numF s).1, ((numF s).2, ())) := by
  show (if s.length ≤ 1048576 then some ((numF s).1, ((numF s).2, ())) else none) = _
  rw [if_pos hs]
theorem dec_val (n : Int) : P_digits_Dec (n, ()) = some (Lib.itoa n, ()) := rfl

/-! ### The reference's digits -/
theorem below_val {n : Nat} (h : n ≤ 9223372036854775808) : P_ref01_below (-(n : Int), ()) = some (Lib.decDigits n, ()) := by
  unfold P_ref01_below
  dsimp only
  rw [if_pos ⟨by omega, by omega⟩, Int.natAbs_neg, Int.natAbs_natCast]

theorem length_dec {u : Nat} (h : u < 18446744073709551616) : (Lib.decDigits u).length ≤ 20 := by
  rw [Lib.decDigits_length]; exact Lib.nDigits_le20 u h

theorem refDec_val {v : Int} (h0 : -9223372036854775808 ≤ v) (h1 : v ≤ 9223372036854775807) : P_ref01_Dec (v, ()) = some (Lib.itoa v, ()) := by
  unfold P_ref01_Dec
  dsimp only
  by_cases hv : v < 0
  · obtain ⟨u, rfl⟩ : ∃ u : Nat, v = -(u : Int) := ⟨v.natAbs, by omega⟩
    have hl := length_dec (u := u) (by omega)
    rw [ltI_true hv, sel_true, below_val (by omega), obind_some]
    dsimp only
    rw [fits_len2 (by simp only [List.length_cons, List.length_nil]; omega), sel_true, Lib.itoa_neg u (by omega)]
    rfl
  · obtain ⟨u, rfl⟩ : ∃ u : Nat, v = (u : Int) := ⟨v.toNat, by omega⟩
    rw [ltI_false (by omega), sel_false, isub_i64 (by omega) (by omega), show (0 : Int) - (u : Int) = -(u : Int) by omega, below_val (by omega), obind_some, Lib.itoa_nonneg]

/-! ### The reference's number -/
def numStep (i : Nat) (n : Int) (x : UInt8) : Option (Int ⊕ (Nat × (Int × Bool × Int × Int × Unit) × Unit)) :=
  some (if i = 0 ∧ x = 45 then .inl n else if (u8 x - 48 < 0 ∨ 9 < u8 x - 48) ∨ n < -922337203685477580 ∨ (n = -922337203685477580 ∧ 8 < u8 x - 48) then .inr (1, ((0, (false, (n, ((i : Int), ())))), ()))
    else .inl (10 * n - (u8 x - 48)))
def numFin (i : Nat) (n : Int) : Nat × (Int × Bool × Int × Int × Unit) × Unit := (0, ((0, (false, (n, ((i : Int), ())))), ()))
def InR (n : Int) : Prop := -9223372036854775808 ≤ n ∧ n ≤ 0

theorem u8_range (x : UInt8) : 0 ≤ u8 x ∧ u8 x ≤ 255 := by
  have := x.toNat_lt
  unfold u8
  omega
theorem u8_45 (c : UInt8) : eqI (u8 c) 45 = decide (c = 45) := u8_eq (n := 45)

theorem numStep_in {i : Nat} {n n' : Int} {x : UInt8} (h : InR n) (hs : numStep i n x = some (.inl n')) : InR n' := by
  unfold numStep at hs
  have hs := Option.some.inj hs
  have hx := u8_range x
  unfold InR at *
  split at hs
  · obtain rfl := Sum.inl.inj hs; exact h
  · split at hs
    · cases hs
    · obtain rfl := Sum.inl.inj hs
      omega

theorem refNum_loop (s : List UInt8) (hs : s.length ≤ 1048576) : Loop (P_ref01_Num_L0 (s, ())) ((0, (false, (0, (0, ())))), ()) = runL numStep numFin s 0 0 := by
  have key := loop_run (f := P_ref01_Num_L0 (s, ())) s (fun (n : Int) i => ((0, (false, (n, ((i : Int), ())))), ())) numStep numFin (fun _ n => InR n)
    (fun n i x hx hi hI => by
      have hr := u8_range x
      unfold P_ref01_Num_L0 numStep
      unfold InR at hI
      dsimp only
      rw [ltI_len_true hi, sel_true, idx_some' hx, obind_some, obind_some]
      have e0 : icv .i64 (u8 x) = u8 x := icv_i64 (by omega) (by omega)
      rw [e0, isub_i64 (a := u8 x) (b := 48) (by omega) (by omega), iadd_one (by omega), u8_45]
      have ei : eqI (i : Int) 0 = decide (i = 0) := by unfold eqI; apply decide_eq_decide.2; omega
      rw [ei]
      have e1 : sel (decide (i = 0)) (some (decide (x = 45))) (some false) = some (decide (i = 0 ∧ x = 45)) := by
        by_cases a : i = 0 <;> by_cases b : x = 45 <;> simp [a, b, sel]
      rw [e1, obind_some]
      by_cases a : i = 0 ∧ x = 45
      · rw [decide_eq_true a, sel_true, if_pos a]; rfl
      · rw [decide_eq_false a, sel_false, if_neg a]
        have e2 : sel (nt (sel (nt (sel (nt (ltI (u8 x - 48) 0)) (ltI 9 (u8 x - 48)) true)) (ltI n (-922337203685477580)) true)) (sel (eqI n (-922337203685477580)) (ltI 8 (u8 x - 48)) false) true = decide ((u8 x - 48 < 0 ∨ 9 < u8 x - 48) ∨ n < -922337203685477580 ∨ (n = -922337203685477580 ∧ 8 < u8 x - 48)) := by
          unfold ltI eqI
          by_cases b1 : u8 x - 48 < 0
          · simp [b1, sel, nt]
          · by_cases b2 : 9 < u8 x - 48
            · simp [b2, sel, nt]
            · by_cases b3 : n < -922337203685477580
              · simp [b1, b2, b3, sel, nt]
              · by_cases b4 : n = -922337203685477580
                · by_cases b5 : 8 < u8 x - 48 <;> simp [b1, b2, b4, b5, sel, nt]
                · simp [b1, b2, b3, b4, sel, nt]
        rw [e2]
        by_cases b : (u8 x - 48 < 0 ∨ 9 < u8 x - 48) ∨ n < -922337203685477580 ∨ (n = -922337203685477580 ∧ 8 < u8 x - 48)
        · rw [decide_eq_true b, sel_true, if_pos b]; rfl
        · rw [decide_eq_false b, sel_false, if_neg b, imul_i64 (by omega) (by omega), isub_i64 (by omega) (by omega)]; rfl)
    (fun n i x n' hx hI hq => numStep_in hI hq)
    (fun n _ => by
      unfold P_ref01_Num_L0 numFin
      dsimp only
      rw [ltI_len_end, sel_false])
    (fun _ _ _ _ _ h => by cases h) 0 ⟨by decide, by decide⟩
  exact key

theorem num_run_total : ∀ (r : List UInt8) (i : Nat) (n : Int), InR n → ∃ q, runL numStep numFin r i n = some q ∧ ((q.1 = 1 ∧ q.2.1.1 = 0 ∧ q.2.1.2.1 = false) ∨ (q.1 = 0 ∧ InR q.2.1.2.2.1)) := by
  intro r
  induction r with
  | nil => intro i n h; exact ⟨_, rfl, .inr ⟨rfl, h⟩⟩
  | cons x r ih =>
    intro i n h
    unfold runL
    cases hs : numStep i n x with
    | none => cases hs
    | some q =>
      cases q with
      | inl n' => exact ih (i + 1) n' (numStep_in h hs)
      | inr y =>
        refine ⟨y, rfl, .inl ?_⟩
        unfold numStep at hs
        have hs := Option.some.inj hs
        split at hs
        · cases hs
        · split at hs
          · obtain rfl := Sum.inr.inj hs; exact ⟨rfl, rfl, rfl⟩
          · cases hs

theorem num_run_dec : ∀ (u : Nat), u ≤ 9223372036854775808 → ∀ (i : Nat) (m : List UInt8), runL numStep numFin (Lib.decDigits u ++ m) i 0 = runL numStep numFin m (i + (Lib.decDigits u).length) (-(u : Int)) := by
  have step : ∀ (i acc d : Nat) (m : List UInt8), d < 10 → acc * 10 + d ≤ 9223372036854775808 → runL numStep numFin (UInt8.ofNat (48 + d) :: m) i (-(acc : Int)) = runL numStep numFin m (i + 1) (-((acc * 10 + d : Nat) : Int)) := by
    intro i acc d m hd hle
    have hu : u8 (UInt8.ofNat (48 + d)) = ((48 + d : Nat) : Int) := by unfold u8; rw [digit_toNat hd]
    have e : numStep i (-(acc : Int)) (UInt8.ofNat (48 + d)) = some (.inl (-((acc * 10 + d : Nat) : Int))) := by
      unfold numStep
      rw [hu, if_neg (fun q => by
        have := congrArg UInt8.toNat q.2
        rw [digit_toNat hd] at this
        have h45 : (45 : UInt8).toNat = 45 := rfl
        omega), if_neg (by omega)]
      congr 2
      omega
    conv => lhs; unfold runL
    rw [e]
  intro u
  induction u using Nat.strongRecOn with
  | _ u ih =>
    intro hu i m
    by_cases h : u < 10
    · rw [dec_small h, List.singleton_append]
      have := step i 0 u m h (by omega)
      simp only [Nat.zero_mul, Nat.zero_add] at this
      exact this
    · rw [dec_big h, List.append_assoc, ih (u / 10) (by omega) (by omega), List.singleton_append, step _ (u / 10) (u % 10) m (by omega) (by omega), List.length_append, show u / 10 * 10 + u % 10 = u by omega, List.length_singleton, Nat.add_assoc]

theorem refNum_val (s : List UInt8) (hs : s.length ≤ 1048576) : P_ref01_Num (s, ()) = some ((numF s).1, ((numF s).2, ())) := by
  unfold P_ref01_Num
  dsimp only
  by_cases h1 : s.length < 1
  · obtain rfl : s = [] := List.eq_nil_of_length_eq_zero (by omega)
    rw [numF_none (s := []) (fun v a b e => by
      have := parse_itoa a b
      rw [e] at this
      cases this)]
    rfl
  by_cases h2 : 20 < s.length
  · rw [numF_none (s := s) (fun v a b e => by
      have hl : (Lib.itoa v).length ≤ 20 := by
        by_cases hv : v < 0
        · obtain ⟨u, rfl⟩ : ∃ u : Nat, v = -(u : Int) := ⟨v.natAbs, by omega⟩
          rw [Lib.itoa_neg u (by omega), List.length_cons, Lib.decDigits_length]
          have : Lib.nDigits u ≤ 19 := by
            by_cases hu : u < 1
            · rw [Lib.nDigits_small (by omega)]; omega
            · have h20 := Lib.nDigits_unique
              rcases Nat.lt_or_ge (Lib.nDigits u) 20 with q | q
              · omega
              · exfalso
                have hp : 10 ^ 19 ≤ u := by
                  rcases Nat.lt_or_ge u (10 ^ 19) with q2 | q2
                  · exfalso
                    have : ∀ k u, u < 10 ^ (k + 1) → Lib.nDigits u ≤ k + 1 := by
                      intro k
                      induction k with
                      | zero => intro u hu; rw [Lib.nDigits_small (by simpa using hu)]; omega
                      | succ k ih =>
                        intro u hu
                        by_cases h10 : u < 10
                        · rw [Lib.nDigits_small h10]; omega
                        · rw [Lib.nDigits_big h10]
                          have := ih (u / 10) (by rw [Nat.div_lt_iff_lt_mul (by decide)]; rw [Nat.pow_succ] at hu; exact hu)
                          omega
                    have := this 18 u q2
                    omega
                  · exact q2
                have : (10 : Nat) ^ 19 = 10000000000000000000 := by decide
                omega
          omega
        · obtain ⟨u, rfl⟩ : ∃ u : Nat, v = (u : Int) := ⟨v.toNat, by omega⟩
          rw [Lib.itoa_nonneg]
          exact length_dec (by omega)
      rw [e] at hl
      omega)]
    rw [ltI_false (by rw [len_eq]; omega), nt_false, sel_true, ltI_true (by rw [len_eq]; omega), sel_true]
  rw [ltI_false (by rw [len_eq]; omega), nt_false, sel_true, ltI_false (by rw [len_eq]; omega), sel_false, refNum_loop s hs]
  obtain ⟨x, r, rfl⟩ : ∃ x r, s = x :: r := by cases s with | nil => exact absurd (by decide) h1 | cons x r => exact ⟨x, r, rfl⟩
  -- what comes of a number at the end
  have fin : ∀ n, InR n → ∀ j, obind (some (numFin j n)) (fun (y1 : Nat × (Int × Bool × Int × Int × Unit) × Unit) => sel (eqN y1.1 (0 : Nat))
      (obind (idx (x :: r) (0 : Int)) (fun (y2 : UInt8) => obind (sel (nt (eqI (u8 y2) (45 : Int)))
      (sel (eqI y1.2.1.2.2.1 (-9223372036854775808 : Int))
      (some ((1 : Nat), (((0 : Int), (false, (y1.2.1.2.2.1, ()))), ())))
      (some ((0 : Nat), ((y1.2.1.1, (y1.2.1.2.1, (isub IntKind.i64 (0 : Int) y1.2.1.2.2.1, ()))), ()))))
      (some ((0 : Nat), ((y1.2.1.1, (y1.2.1.2.1, (y1.2.1.2.2.1, ()))), ())))) (fun (y3 : Nat × (Int × Bool × Int × Unit) × Unit) => sel (eqN y3.1 (0 : Nat))
      (obind (P_ref01_Dec (y3.2.1.2.2.1, ())) (fun (y4 : (List UInt8) × Unit) => sel (nt (eqS y4.1 (x :: r)))
      (some ((0 : Int), (false, ())))
      (some (y3.2.1.2.2.1, (true, ())))))
      (some (y3.2.1.1, (y3.2.1.2.1, ()))))))
      (some (y1.2.1.1, (y1.2.1.2.1, ())))) = if x ≠ 45 ∧ n = -9223372036854775808 then some (0, (false, ())) else if Lib.itoa (if x = 45 then n else -n) = x :: r then some ((if x = 45 then n else -n), (true, ())) else some (0, (false, ())) := by
    intro n hn j
    unfold InR at hn
    rw [obind_some]
    unfold numFin
    dsimp only
    rw [eqN_zero, sel_true, show idx (x :: r) 0 = some x from rfl, obind_some, u8_45]
    by_cases hx : x = 45
    · rw [decide_eq_true hx, nt_true, sel_false, obind_some]
      dsimp only
      rw [eqN_zero, sel_true, refDec_val (by omega) (by omega), obind_some, if_neg (by simp [hx]), if_pos hx]
      by_cases e : Lib.itoa n = x :: r
      · rw [eqS_true e, nt_true, sel_false, if_pos e]
      · rw [eqS_false e, nt_false, sel_true, if_neg e]
    · rw [decide_eq_false hx, nt_false, sel_true]
      by_cases hm : n = -9223372036854775808
      · rw [eqI_true hm, sel_true, obind_some]
        dsimp only
        rw [eqN_one, sel_false, if_pos ⟨hx, hm⟩]
      · rw [eqI_false hm, sel_false, obind_some]
        dsimp only
        rw [eqN_zero, sel_true, isub_i64 (by omega) (by omega), show (0 : Int) - n = -n by omega, refDec_val (by omega) (by omega), obind_some, if_neg (by simp [hm]), if_neg hx]
        by_cases e : Lib.itoa (-n) = x :: r
        · rw [eqS_true e, nt_true, sel_false, if_pos e]
        · rw [eqS_false e, nt_false, sel_true, if_neg e]
  by_cases hex : ∃ v : Int, (-9223372036854775808 ≤ v ∧ v ≤ 9223372036854775807) ∧ Lib.itoa v = x :: r
  · obtain ⟨v, ⟨v0, v1⟩, hv⟩ := hex
    have hnum : numF (x :: r) = (v, true) := by rw [← hv]; exact numF_itoa v0 v1
    rw [hnum]
    by_cases hneg : v < 0
    · obtain ⟨u, rfl⟩ : ∃ u : Nat, v = -(u : Int) := ⟨v.natAbs, by omega⟩
      rw [Lib.itoa_neg u (by omega)] at hv
      obtain ⟨hx, hr⟩ := List.cons.inj hv
      have e1 : runL numStep numFin (x :: r) 0 0 = some (numFin (0 + 1 + (Lib.decDigits u).length) (-(u : Int))) := by
        conv => lhs; unfold runL
        rw [show numStep 0 0 x = some (.inl 0) by unfold numStep; rw [if_pos ⟨rfl, hx.symm⟩]]
        dsimp only
        have := num_run_dec u (by omega) (0 + 1) []
        rw [List.append_nil, hr] at this
        rw [this, hr]; rfl
      rw [e1, fin _ ⟨by omega, by omega⟩, if_neg (by simp [hx.symm]), if_pos hx.symm, if_pos (by rw [Lib.itoa_neg u (by omega), hx, hr])]
    · obtain ⟨u, rfl⟩ : ∃ u : Nat, v = (u : Int) := ⟨v.toNat, by omega⟩
      rw [Lib.itoa_nonneg] at hv
      have e1 : runL numStep numFin (x :: r) 0 0 = some (numFin (0 + (Lib.decDigits u).length) (-(u : Int))) := by
        have := num_run_dec u (by omega) 0 []
        rw [List.append_nil, hv] at this
        rw [this, hv]; rfl
      have hx : x ≠ 45 := by
        obtain ⟨d, r', hd, e⟩ := dec_head u
        rw [hv] at e
        intro q
        have := congrArg UInt8.toNat (List.cons.inj e).1
        rw [q, digit_toNat hd] at this
        have h45 : (45 : UInt8).toNat = 45 := rfl
        omega
      rw [e1, fin _ ⟨by omega, by omega⟩, if_neg (by rintro ⟨_, q⟩; omega), if_neg hx, if_pos (by rw [Int.neg_neg, Lib.itoa_nonneg]; exact hv), Int.neg_neg]
  · have hno : ∀ v : Int, -9223372036854775808 ≤ v → v ≤ 9223372036854775807 → Lib.itoa v ≠ x :: r := fun v a b e => hex ⟨v, ⟨a, b⟩, e⟩
    rw [numF_none hno]
    obtain ⟨q, hq, hc⟩ := num_run_total (x :: r) 0 0 ⟨by decide, by decide⟩
    rw [hq]
    rcases hc with ⟨c1, c2, c3⟩ | ⟨c1, c2⟩
    · rw [obind_some, c1, eqN_one, sel_false, c2, c3]
    · have e : obind (some q) (fun (y1 : Nat × (Int × Bool × Int × Int × Unit) × Unit) => sel (eqN y1.1 (0 : Nat))
          (obind (idx (x :: r) (0 : Int)) (fun (y2 : UInt8) => obind (sel (nt (eqI (u8 y2) (45 : Int)))
          (sel (eqI y1.2.1.2.2.1 (-9223372036854775808 : Int))
          (some ((1 : Nat), (((0 : Int), (false, (y1.2.1.2.2.1, ()))), ())))
          (some ((0 : Nat), ((y1.2.1.1, (y1.2.1.2.1, (isub IntKind.i64 (0 : Int) y1.2.1.2.2.1, ()))), ()))))
          (some ((0 : Nat), ((y1.2.1.1, (y1.2.1.2.1, (y1.2.1.2.2.1, ()))), ())))) (fun (y3 : Nat × (Int × Bool × Int × Unit) × Unit) => sel (eqN y3.1 (0 : Nat))
          (obind (P_ref01_Dec (y3.2.1.2.2.1, ())) (fun (y4 : (List UInt8) × Unit) => sel (nt (eqS y4.1 (x :: r)))
          (some ((0 : Int), (false, ())))
          (some (y3.2.1.2.2.1, (true, ())))))
          (some (y3.2.1.1, (y3.2.1.2.1, ()))))))
          (some (y1.2.1.1, (y1.2.1.2.1, ())))) = some (0, (false, ())) := by
        unfold InR at c2
        rw [obind_some, c1, eqN_zero, sel_true, show idx (x :: r) 0 = some x from rfl, obind_some, u8_45]
        by_cases hx : x = 45
        · rw [decide_eq_true hx, nt_true, sel_false, obind_some]
          dsimp only
          rw [eqN_zero, sel_true, refDec_val (by omega) (by omega), obind_some, eqS_false (hno _ (by omega) (by omega)), nt_false, sel_true]
        · rw [decide_eq_false hx, nt_false, sel_true]
          by_cases hm : q.2.1.2.2.1 = -9223372036854775808
          · rw [eqI_true hm, sel_true, obind_some]
            dsimp only
            rw [eqN_one, sel_false]
          · rw [eqI_false hm, sel_false, obind_some]
            dsimp only
            rw [eqN_zero, sel_true, isub_i64 (by omega) (by omega), refDec_val (by omega) (by omega), obind_some, eqS_false (hno _ (by omega) (by omega)), nt_false, sel_true]
      exact e
end Go.Ge
