/- The laws of layer 02 in plain words. -/
import Derived.Test.YtkjpgahmolmnmaaDoorGq02C
namespace Go.Ge
set_option linter.unusedVariables false
set_option linter.unusedSimpArgs false

set_option maxRecDepth 100000 in
theorem sha_abc : idx (sha [97, 98, 99]) 0 = some 186 ∧ idx (sha [97, 98, 99]) 1 = some 120 ∧ idx (sha [97, 98, 99]) 31 = some 173 := ⟨by kernel_rfl, by kernel_rfl, by kernel_rfl⟩
set_option maxRecDepth 100000 in
theorem sha_nil : idx (sha []) 0 = some 227 ∧ idx (sha []) 31 = some 85 := ⟨by kernel_rfl, by kernel_rfl⟩

theorem awake02 : P_law02_awake () = some (true, ()) := by
  unfold P_law02_awake
  rw [shaSum_val _ (by decide), obind_some, shaSum_val _ (by decide), obind_some, show within 0 32 = true from by decide, show within 1 32 = true from by decide, show within 31 32 = true from by decide]
  dsimp only
  rw [sha_abc.1, sha_abc.2.1, sha_abc.2.2, sha_nil.1, sha_nil.2]
  rfl

theorem eqL_self (l : List Int) : eqL l l = true := by simp [eqL]

theorem shaIs_val (s : List UInt8) : P_law02_ShaIs (s, ()) = some (true, ()) := by
  unfold P_law02_ShaIs
  dsimp only
  by_cases h : s.length ≤ 2048
  · rw [ltI_false (by unfold len; omega), nt_false, sel_true, shaSum_val s (by omega), obind_some, refSum_val s (by omega), obind_some, obind_some]
    dsimp only
    rw [eqL_self, sel_true, awake02, obind_some, obind_some]
  · rw [ltI_true (by unfold len; omega), nt_true, sel_false, obind_some, sel_true, awake02, obind_some, obind_some]

theorem strm0_eq : (((false, (([0, 0, 0, 0, 0, 0, 0, 0] : List Int), ())), (([0, 0, 0, 0, 0, 0, 0, 0, 0, 0, 0, 0, 0, 0, 0, 0, 0, 0, 0, 0, 0, 0, 0, 0, 0, 0, 0, 0, 0, 0, 0, 0, 0, 0, 0, 0, 0, 0, 0, 0, 0, 0, 0, 0, 0, 0, 0, 0, 0, 0, 0, 0, 0, 0, 0, 0, 0, 0, 0, 0, 0, 0, 0, 0] : List Int), ((0 : Int), ()))) : Strm) = strm0 := rfl

theorem inv_n {st : Strm} {all : List UInt8} (h : Inv st all) : st.2.2.1 = (all.length : Int) := by obtain ⟨wait, rfl, _⟩ := h; rfl

abbrev PartS := (Bool × List UInt8 × Int × Unit) × Strm × Strm × Unit

theorem parts_loop (l : List (List UInt8)) (hl : l.length ≤ 20) : ∃ r, Loop (P_law02_ShaParts_L0 (l, ())) ((false, ([], (0, ()))), (strm0, (strm0, ()))) = some r ∧
    ((r.1 = 1 ∧ r.2.1.1 = true) ∨ (r.1 = 0 ∧ ∃ all, r.2.1.2.1 = all ∧ all.length ≤ 6000 ∧ Inv r.2.2.1 all ∧ Inv r.2.2.2.1 all)) := by
  refine Loop_rule (P_law02_ShaParts_L0 (l, ())) (fun st : PartS => ∃ (i : Nat) (all : List UInt8), i ≤ l.length ∧ all.length ≤ 300 * i ∧ st.1.2.1 = all ∧ st.1.2.2.1 = (i : Int) ∧ Inv st.2.1 all ∧ Inv st.2.2.1 all) (fun st => l.length - st.1.2.2.1.toNat)
    (fun r => (r.1 = 1 ∧ r.2.1.1 = true) ∨ (r.1 = 0 ∧ ∃ all, r.2.1.2.1 = all ∧ all.length ≤ 6000 ∧ Inv r.2.2.1 all ∧ Inv r.2.2.2.1 all)) ?_ _ ⟨0, [], by omega, by simp, rfl, rfl, inv0, inv0⟩
  rintro ⟨⟨ret, al, ix, u1⟩, s, t, u2⟩ ⟨i, all, hi, hall, h1, h2, h3, h4⟩
  dsimp only at h1 h2 h3 h4
  subst h1; subst h2
  unfold P_law02_ShaParts_L0
  dsimp only
  by_cases hlt : i < l.length
  · rw [ltI_true (by unfold len; omega), sel_true, idx_getD l [] hlt, obind_some]
    generalize l.getD i [] = p
    by_cases hp : p.length ≤ 300
    · obtain ⟨t', a1, a2⟩ := add_val p al t h4 (by omega)
      obtain ⟨s', b1, b2⟩ := add_val p al s h3 (by omega)
      have hlen : (al ++ p).length ≤ 6000 := by rw [List.length_append]; omega
      have hn : t'.2.2.1 = ((al ++ p).length : Int) := inv_n a2
      rw [ltI_false (by unfold len; omega), sel_false, obind_some, a1, obind_some, obind_some, b1, obind_some, obind_some, fits_true (by unfold plus len; omega), sel_true]
      dsimp only
      rw [sum_val _ (by omega) t' a2, obind_some, show app al p = al ++ p from rfl, refSum_val _ (by omega), obind_some]
      dsimp only
      rw [eqL_self, nt_true, nt_false, sel_true]
      unfold P_sha_Stream_Len
      rw [obind_some]
      dsimp only
      rw [hn, eqI_true (by rfl), nt_true, sel_false]
      refine ⟨_, rfl, ⟨i + 1, al ++ p, by omega, by rw [List.length_append]; omega, rfl, by rw [iadd_one (by omega)], b2, a2⟩, ?_⟩
      dsimp only
      rw [iadd_one (by omega)]
      omega
    · rw [ltI_true (by unfold len; omega), sel_true, awake02, obind_some]
      exact ⟨_, rfl, .inl ⟨rfl, rfl⟩⟩
  · rw [ltI_false (by unfold len; omega), sel_false]
    exact ⟨_, rfl, .inr ⟨rfl, al, rfl, by omega, h3, h4⟩⟩

theorem shaParts_val (l : List (List UInt8)) : P_law02_ShaParts (l, ()) = some (true, ()) := by
  unfold P_law02_ShaParts
  dsimp only
  by_cases h : l.length ≤ 20
  · obtain ⟨r, hr, hpost⟩ := parts_loop l h
    rw [ltI_false (by unfold len; omega), sel_false, strm0_eq, hr, obind_some]
    rcases hpost with ⟨e, ht⟩ | ⟨e, all, ha, hlen, i1, i2⟩
    · rw [e, show eqN 1 0 = false from rfl, sel_false, ht]
    · subst ha
      rw [e, show eqN 0 0 = true from rfl, sel_true, sum_val _ (by omega) _ i1, obind_some, refSum_val _ (by omega), obind_some]
      dsimp only
      rw [eqL_self, nt_true, sel_false]
      unfold P_sha_Stream_Reset P_sha_Stream_Len
      rw [obind_some]
      dsimp only
      rw [strm0_eq, obind_some]
      dsimp only
      rw [show eqI 0 0 = true from rfl, sel_true, sum_val [] (by simp) strm0 inv0, obind_some, refSum_val [] (by simp), obind_some]
      dsimp only
      rw [eqL_self, sel_true, awake02, obind_some, obind_some]
  · rw [ltI_true (by unfold len; omega), sel_true, awake02, obind_some]

theorem shaNobody_val (s : List UInt8) : P_law02_ShaNobody (s, ()) = some (true, ()) := by
  unfold P_law02_ShaNobody
  dsimp only
  by_cases h : s.length ≤ 2048
  · have e0 : P_law02_ShaNobody_L0 = P_sha_Stream_Sum_L0 := rfl
    have e1 : P_law02_ShaNobody_L1 = P_sha_Stream_Sum_L1 ((), (strm0, ())) := rfl
    have e2 : P_law02_ShaNobody_L2 = P_sha_Stream_Sum_L2 := rfl
    obtain ⟨st1, a1, a2⟩ := add_val [128] [] strm0 inv0 (by simp)
    obtain ⟨st2, b1, b2⟩ := sum_zeros [] (by simp) st1 a2
    obtain ⟨st3, c1, c2⟩ := add_val (intsBytes (lenL ([] : List UInt8).length)) _ st2 b2 (by decide)
    have c1' : P_sha_Stream_Add ((intsBytes (lenL 0), ()), st2, ()) = some ((), st3, ()) := c1
    rw [ltI_false (by unfold len; omega), sel_false, show eqI 0 0 = true from rfl, sel_true, e0, e1, e2, strm0_eq, zeros32, show intsBytes ([128] : List Int) = [128] from rfl, a1, obind_some]
    dsimp only
    rw [b1, obind_some]
    dsimp only
    rw [show ([0, 0, 0, 0, 0, 0, 0, 0] : List Int) = zeros 8 from rfl, sum_last 0 (by omega) strm0 rfl, obind_some, inside_true (by decide) (by decide) (by decide), sel_true]
    dsimp only
    rw [show sub (lenL 0) 0 (minus 8 0) = lenL 0 from rfl, c1', obind_some]
    have c2' : Inv st3 (pad []) := c2
    obtain ⟨wait, rfl, h1, h2⟩ := c2'
    have h64 : 64 ≤ (pad []).length := by decide
    simp only [h64, decide_true, if_true]
    rw [sum_out _ _ (length_hsB _ _) _ _ () () () () () (), obind_some, refSum_val [] (by simp), obind_some]
    have : eqL (outW (hsB (pad []) ((pad []).length / 64)) 32) (sha []) = true := by unfold sha; exact eqL_self _
    dsimp only
    rw [this, sel_true, awake02, obind_some, obind_some]
  · rw [ltI_true (by unfold len; omega), sel_true, awake02, obind_some]
end Go.Ge
