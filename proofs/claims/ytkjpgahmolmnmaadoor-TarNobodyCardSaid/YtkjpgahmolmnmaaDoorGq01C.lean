/- Pairs of hexadecimal digits as bytes: the reference. -/
import Derived.Test.YtkjpgahmolmnmaaDoorGq01B
namespace Go.Ge
set_option linter.unusedVariables false
set_option linter.unusedSimpArgs false

theorem iadd_nat {a b : Nat} (h : a + b < 4611686018427387904) : iadd .i64 (a : Int) (b : Int) = ((a + b : Nat) : Int) := by
  rw [iadd_i64 (by omega) (by omega)]; omega

theorem refUnhex_loop (s : List UInt8) (hs : s.length ≤ 1048576) : ∀ (n i : Nat) (acc : List Int), s.length - i ≤ n → i ≤ s.length → (s.length - i) % 2 = 0 → acc.length ≤ i →
    ∃ q, Loop (P_ref01_Unhex_L0 (s, ())) ((([] : List UInt8), (false, ((), ((i : Int), ())))), (acc, ())) = some q ∧ (match unhexF (s.drop i) with
      | some l => q.1 = 0 ∧ q.2.2.1 = acc ++ bytesInts l
      | none => q.1 = 1 ∧ q.2.1.1 = [] ∧ q.2.1.2.1 = false) := by
  intro n
  induction n using Nat.strongRecOn with
  | _ n ih =>
    intro i acc hn hi h2 hb
    rw [Loop_eq]
    by_cases hlt : i < s.length
    · have h1 : i + 1 < s.length := by omega
      have hd : s.drop i = s[i] :: s[i + 1] :: s.drop (i + 2) := by
        rw [List.drop_eq_getElem_cons hlt, List.drop_eq_getElem_cons h1]
      rw [hd]
      generalize ha : s[i] = a
      generalize hb' : s[i + 1] = b
      have e0 : P_ref01_Unhex_L0 (s, ()) ((([] : List UInt8), (false, ((), ((i : Int), ())))), (acc, ())) = (if hv a < 0 ∨ hv b < 0 then some (.inr (1, (([], (false, ((), ((i : Int), ())))), (acc, ()))))
          else some (.inl ((([] : List UInt8), (false, ((), (((i + 2 : Nat) : Int), ())))), (acc ++ [u8 (UInt8.ofNat (16 * (hv a).toNat + (hv b).toNat))], ())))) := by
        unfold P_ref01_Unhex_L0
        dsimp only
        rw [iadd_one (by omega), ltI_true (by simp only [len]; omega), sel_true, idx_str s hlt, obind_some, ha, value_val, obind_some, idx_str s h1, obind_some, hb', value_val, obind_some]
        dsimp only
        by_cases hva : hv a < 0
        · rw [ltI_true hva, nt_true, sel_false, sel_true, if_pos (.inl hva)]
        · rw [ltI_false (by omega), nt_false, sel_true]
          by_cases hvb : hv b < 0
          · rw [ltI_true hvb, sel_true, if_pos (.inr hvb)]
          · rw [ltI_false (by omega), sel_false, if_neg (by omega)]
            have hp : icv .u8 (iadd .i64 (imul .i64 16 (hv a)) (hv b)) = u8 (UInt8.ofNat (16 * (hv a).toNat + (hv b).toNat)) := by
              rcases hv_cases a with ⟨h, _⟩ | ⟨j, hj, h, _⟩
              · omega
              rcases hv_cases b with ⟨h', _⟩ | ⟨k, hk, h', _⟩
              · omega
              rw [h, h']
              exact pairR ⟨j, hj⟩ ⟨k, hk⟩
            rw [hp, fits_true (by simp only [plus, len, List.length_cons, List.length_nil]; omega), sel_true, show iadd .i64 (i : Int) 2 = ((i + 2 : Nat) : Int) from iadd_nat (b := 2) (by omega)]
            rfl
      rw [e0]
      by_cases hab : hv a < 0 ∨ hv b < 0
      · rw [if_pos hab]
        refine ⟨_, rfl, ?_⟩
        simp only [unhexF, if_pos hab]
        exact ⟨trivial, trivial, trivial⟩
      · rw [if_neg hab]
        obtain ⟨q, q1, q2⟩ := ih (s.length - (i + 2)) (by omega) (i + 2) (acc ++ [u8 (UInt8.ofNat (16 * (hv a).toNat + (hv b).toNat))]) (Nat.le_refl _) (by omega) (by omega) (by simp only [List.length_append, List.length_cons, List.length_nil]; omega)
        refine ⟨q, q1, ?_⟩
        simp only [unhexF, if_neg hab]
        cases hu : unhexF (s.drop (i + 2)) with
        | none => rw [hu] at q2; exact q2
        | some l =>
          rw [hu] at q2
          refine ⟨q2.1, ?_⟩
          rw [q2.2, List.append_assoc]
          rfl
    · have : i = s.length := by omega
      subst this
      rw [List.drop_length]
      refine ⟨(0, (([], (false, ((), ((s.length : Int), ())))), (acc, ()))), ?_, rfl, by simp [bytesInts]⟩
      unfold P_ref01_Unhex_L0
      dsimp only
      rw [iadd_one (by omega), ltI_false (by simp only [len]; omega), sel_false]
      rfl

theorem refUnhex_val (s : List UInt8) (hs : s.length ≤ 1048576) : P_ref01_Unhex (s, ()) = some (ans (unhexF s)) := by
  unfold P_ref01_Unhex
  dsimp only
  rw [eqI_false (by decide), sel_false, show irem (len s) 2 = ((s.length % 2 : Nat) : Int) from irem_nat s.length 2]
  rcases Nat.mod_two_eq_zero_or_one s.length with h | h
  · rw [h, show eqI ((0 : Nat) : Int) 1 = false from rfl, sel_false]
    obtain ⟨q, q1, q2⟩ := refUnhex_loop s hs s.length 0 [] (by omega) (by omega) (by simpa using h) (by simp)
    rw [show Loop (P_ref01_Unhex_L0 (s, ())) (([], (false, ((), (0, ())))), ([], ())) = some q from q1, obind_some]
    rw [List.drop_zero] at q2
    cases hu : unhexF s with
    | none =>
      rw [hu] at q2
      rw [q2.1, show eqN 1 0 = false from rfl, sel_false, q2.2.1, q2.2.2]
      rfl
    | some l =>
      rw [hu] at q2
      rw [q2.1, show eqN 0 0 = true from rfl, sel_true, q2.2, List.nil_append, intsBytes_bytes]
      rfl
  · rw [h, show eqI ((1 : Nat) : Int) 1 = true from rfl, sel_true, unhexF_odd s.length s (Nat.le_refl _) h]
    rfl

/-- What was told as digits is read as it was. -/
theorem unhex_hex : ∀ l : List UInt8, unhexF (hexF l) = some l := by
  intro l
  induction l with
  | nil => rfl
  | cons b r ih =>
    have hb := b.toNat_lt
    have h1 := hv_hx ⟨b.toNat / 16, by omega⟩
    have h2 := hv_hx ⟨b.toNat % 16, by omega⟩
    simp only at h1 h2
    simp only [hexF, unhexF, h1, h2, ih, Option.map_some]
    rw [if_neg (by omega)]
    congr 2
    rw [Int.toNat_natCast, Int.toNat_natCast, show 16 * (b.toNat / 16) + b.toNat % 16 = b.toNat by omega]
    simp
end Go.Ge
