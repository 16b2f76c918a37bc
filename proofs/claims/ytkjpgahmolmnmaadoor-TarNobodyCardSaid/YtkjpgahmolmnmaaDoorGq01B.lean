/- Pairs of hexadecimal digits as bytes, in plain words. -/
import Derived.Test.YtkjpgahmolmnmaaDoorGq01A
namespace Go.Ge
set_option linter.unusedVariables false
set_option linter.unusedSimpArgs false

def hv (c : UInt8) : Int := Lib.indexByte hexT c
theorem hvT : ∀ n : Fin 256, (hv (UInt8.ofNat n.val) = -1 ∧ ∀ j : Fin 16, hx j.val ≠ UInt8.ofNat n.val) ∨ ∃ j : Fin 16, hv (UInt8.ofNat n.val) = (j.val : Int) ∧ hx j.val = UInt8.ofNat n.val ∧ ∀ i : Fin 16, i.val < j.val → hx i.val ≠ UInt8.ofNat n.val := by decide +kernel
theorem hv_cases (c : UInt8) : (hv c = -1 ∧ ∀ j : Nat, j < 16 → hx j ≠ c) ∨ ∃ j : Nat, j < 16 ∧ hv c = (j : Int) ∧ hx j = c ∧ ∀ i : Nat, i < j → hx i ≠ c := by
  have h := hvT ⟨c.toNat, c.toNat_lt⟩
  have e : UInt8.ofNat c.toNat = c := by simp
  simp only [e] at h
  rcases h with ⟨h1, h2⟩ | ⟨j, h1, h2, h3⟩
  · exact .inl ⟨h1, fun j hj => h2 ⟨j, hj⟩⟩
  · exact .inr ⟨j.val, j.isLt, h1, h2, fun i hi => h3 ⟨i, Nat.lt_trans hi j.isLt⟩ hi⟩
theorem hv_hx : ∀ n : Fin 16, hv (hx n.val) = (n.val : Int) := by decide +kernel

theorem byteIn (c : UInt8) : (show Int from u8 c).toNat.toUInt8 = c := by simp [u8]
theorem index_val (c : UInt8) : P_strings_IndexByte (hexT, (u8 c, ())) = some (hv c, ()) := by
  have e : P_internal_stringslite_IndexByte (hexT, (u8 c, ())) = some (hv c, ()) := by
    unfold P_internal_stringslite_IndexByte hv
    rw [byteIn]
    rfl
  unfold P_strings_IndexByte
  dsimp only
  rw [e]
  rfl

theorem u8_inj {a b : UInt8} (h : u8 a = u8 b) : a = b := by
  have : a.toNat = b.toNat := by unfold u8 at h; omega
  exact UInt8.toNat_inj.1 this

theorem value_val (c : UInt8) : P_ref01_value (u8 c, ()) = some (hv c, ()) := by
  unfold P_ref01_value
  have step : ∀ (r k : Nat), k < 16 → hx k ≠ c → P_ref01_value_L0 (u8 c, ()) (((r : Int), ((k : Int), ())), ()) = some (.inl (((r : Int), (((k + 1 : Nat) : Int), ())), ())) := fun r k hk hne => by
    unfold P_ref01_value_L0
    dsimp only
    rw [ltI_true (by omega), sel_true, dig_val hk, obind_some, eqI_false (fun e => hne (u8_inj e)), sel_false, iadd_one (by omega)]
  rcases hv_cases c with ⟨h1, h2⟩ | ⟨j, hj, h1, h2, h3⟩
  · have := loop_seq (f := P_ref01_value_L0 (u8 c, ())) (r := (0, (((0 : Nat) : Int), (((16 : Nat) : Int), ())), ())) 16 (fun k => ((((0 : Nat) : Int), ((k : Int), ())), ())) (fun k hk => step 0 k hk (h2 k hk)) (by
      unfold P_ref01_value_L0
      dsimp only
      rw [ltI_false (by decide), sel_false])
    rw [show Loop (P_ref01_value_L0 (u8 c, ())) ((0, (0, ())), ()) = _ from this, obind_some]
    dsimp only
    rw [show eqN 0 0 = true from rfl, sel_true, h1]
  · have := loop_seq (f := P_ref01_value_L0 (u8 c, ())) (r := (1, ((j : Int), ((j : Int), ())), ())) j (fun k => ((((0 : Nat) : Int), ((k : Int), ())), ())) (fun k hk => step 0 k (by omega) (h3 k hk)) (by
      unfold P_ref01_value_L0
      dsimp only
      rw [ltI_true (by omega), sel_true, dig_val hj, obind_some, eqI_true (by rw [h2]), sel_true])
    rw [show Loop (P_ref01_value_L0 (u8 c, ())) ((0, (0, ())), ()) = _ from this, obind_some]
    dsimp only
    rw [show eqN 1 0 = false from rfl, sel_false, h1]

/-- The bytes of pairs of digits. -/
def unhexF : List UInt8 → Option (List UInt8)
  | [] => some []
  | [_] => none
  | a :: b :: r => if hv a < 0 ∨ hv b < 0 then none else (unhexF r).map (UInt8.ofNat (16 * (hv a).toNat + (hv b).toNat) :: ·)

theorem pairT : ∀ (i j : Fin 16), icv .u8 (ior .i64 (ishl .i64 (i.val : Int) 4) (j.val : Int)) = u8 (UInt8.ofNat (16 * i.val + j.val)) := by decide +kernel
theorem pairR : ∀ (i j : Fin 16), icv .u8 (iadd .i64 (imul .i64 16 (i.val : Int)) (j.val : Int)) = u8 (UInt8.ofNat (16 * i.val + j.val)) := by decide +kernel

theorem sub_tail (l : List UInt8) (k : Nat) (h : k ≤ l.length) : sub l (k : Int) (minus (len l) (k : Int)) = l.drop k := by
  unfold sub minus len
  rw [Int.toNat_natCast, List.take_of_length_le (by rw [List.length_drop]; omega)]

/-- What an answer of (text, whether) comes to. -/
def ans : Option (List UInt8) → List UInt8 × Bool × Unit
  | some l => (l, (true, ()))
  | none => ([], (false, ()))

theorem unhex_loop : ∀ (n : Nat) (s : List UInt8) (acc : List Int), s.length ≤ n → s.length % 2 = 0 → acc.length + s.length ≤ 2097152 →
    ∃ q, Loop P_digits_Unhex_L0 ((s, ([], (false, ((), ())))), (acc, ())) = some q ∧ (match unhexF s with
      | some l => q.1 = 0 ∧ q.2.2.1 = acc ++ bytesInts l
      | none => q.1 = 1 ∧ q.2.1.2.1 = [] ∧ q.2.1.2.2.1 = false) := by
  intro n
  induction n using Nat.strongRecOn with
  | _ n ih =>
    intro s acc hn h2 hb
    rw [Loop_eq]
    match s, hn, h2, hb with
    | [], _, _, _ =>
      refine ⟨(0, (([], ([], (false, ((), ())))), (acc, ()))), ?_, rfl, ?_⟩
      · unfold P_digits_Unhex_L0
        rfl
      · simp [bytesInts]
    | [_], _, h2, _ => simp at h2
    | a :: b :: r, hn, h2, hb =>
      simp only [List.length_cons] at hn h2 hb
      have e0 : P_digits_Unhex_L0 ((a :: b :: r, ([], (false, ((), ())))), (acc, ())) = (if hv a < 0 ∨ hv b < 0 then some (.inr (1, ((a :: b :: r, ([], (false, ((), ())))), (acc, ()))))
          else some (.inl ((r, ([], (false, ((), ())))), (acc ++ [u8 (UInt8.ofNat (16 * (hv a).toNat + (hv b).toNat))], ())))) := by
        unfold P_digits_Unhex_L0
        dsimp only
        rw [show nt (eqS (a :: b :: r) []) = true from by simp [nt, eqS], sel_true, show idx (a :: b :: r) 0 = some a from rfl, obind_some,
          show ([48, 49, 50, 51, 52, 53, 54, 55, 56, 57, 97, 98, 99, 100, 101, 102] : List UInt8) = hexT from rfl, index_val, obind_some, show idx (a :: b :: r) 1 = some b from rfl, obind_some, index_val, obind_some]
        dsimp only
        by_cases ha : hv a < 0
        · rw [ltI_true ha, nt_true, sel_false, sel_true, if_pos (.inl ha)]
        · rw [ltI_false (by omega), nt_false, sel_true]
          by_cases hb' : hv b < 0
          · rw [ltI_true hb', sel_true, if_pos (.inr hb')]
          · rw [ltI_false (by omega), sel_false, if_neg (by omega), ltI_false (by decide), sel_false]
            have hp : icv .u8 (ior .i64 (ishl .i64 (hv a) 4) (hv b)) = u8 (UInt8.ofNat (16 * (hv a).toNat + (hv b).toNat)) := by
              rcases hv_cases a with ⟨h, _⟩ | ⟨i, hi, h, _⟩
              · omega
              rcases hv_cases b with ⟨h', _⟩ | ⟨j, hj, h', _⟩
              · omega
              rw [h, h']
              exact pairT ⟨i, hi⟩ ⟨j, hj⟩
            rw [hp, fits_true (by simp only [plus, len, List.length_cons, List.length_nil]; omega), sel_true, inside_true (by decide) (by simp only [len, List.length_cons]; omega) (Int.le_refl _), sel_true]
            have := sub_tail (a :: b :: r) 2 (by simp)
            rw [show sub (a :: b :: r) 2 (minus (len (a :: b :: r)) 2) = r from this]
            rfl
      rw [e0]
      by_cases hab : hv a < 0 ∨ hv b < 0
      · rw [if_pos hab]
        refine ⟨_, rfl, ?_⟩
        simp only [unhexF, if_pos hab]
        exact ⟨trivial, trivial, trivial⟩
      · rw [if_neg hab]
        obtain ⟨q, q1, q2⟩ := ih r.length (by omega) r (acc ++ [u8 (UInt8.ofNat (16 * (hv a).toNat + (hv b).toNat))]) (Nat.le_refl _) (by omega) (by simp only [List.length_append, List.length_cons, List.length_nil]; omega)
        refine ⟨q, q1, ?_⟩
        simp only [unhexF, if_neg hab]
        cases hu : unhexF r with
        | none => rw [hu] at q2; exact q2
        | some l =>
          rw [hu] at q2
          refine ⟨q2.1, ?_⟩
          rw [q2.2, List.append_assoc]
          rfl

theorem unhexF_odd : ∀ (n : Nat) (s : List UInt8), s.length ≤ n → s.length % 2 = 1 → unhexF s = none := by
  intro n
  induction n using Nat.strongRecOn with
  | _ n ih =>
    intro s hn h
    match s, hn, h with
    | [], _, h => simp at h
    | [_], _, _ => rfl
    | a :: b :: r, hn, h =>
      simp only [List.length_cons] at hn h
      simp only [unhexF]
      split
      · rfl
      · rw [ih r.length (by omega) r (Nat.le_refl _) (by omega)]; rfl

theorem unhex_val (s : List UInt8) (hs : s.length ≤ 1048576) : P_digits_Unhex (s, ()) = some (ans (unhexF s)) := by
  unfold P_digits_Unhex
  dsimp only
  rw [eqI_false (by decide), sel_false, show irem (len s) 2 = ((s.length % 2 : Nat) : Int) from irem_nat s.length 2]
  rcases Nat.mod_two_eq_zero_or_one s.length with h | h
  · rw [h, show eqI ((0 : Nat) : Int) 0 = true from rfl, nt_true, sel_false]
    obtain ⟨q, q1, q2⟩ := unhex_loop s.length s [] (Nat.le_refl _) h (by simp; omega)
    rw [q1, obind_some]
    cases hu : unhexF s with
    | none =>
      rw [hu] at q2
      rw [q2.1, show eqN 1 0 = false from rfl, sel_false, q2.2.1, q2.2.2]
      rfl
    | some l =>
      rw [hu] at q2
      rw [q2.1, show eqN 0 0 = true from rfl, sel_true, q2.2, List.nil_append, intsBytes_bytes]
      rfl
  · rw [h, show eqI ((1 : Nat) : Int) 0 = false from rfl, nt_false, sel_true, unhexF_odd s.length s (Nat.le_refl _) h]
    rfl
end Go.Ge
