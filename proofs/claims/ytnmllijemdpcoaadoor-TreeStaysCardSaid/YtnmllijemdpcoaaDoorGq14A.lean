/- Trees: nodes, and what may be one, in plain words. -/
import Derived.Test.YtnmllijemdpcoaaDoorGp14z
import Derived.Test.YtnmllijemdpcoaaDoorGqD
import Derived.Test.YtnmllijemdpcoaaDoorGq07D
namespace Go.Ge
set_option linter.unusedVariables false
set_option linter.unusedSimpArgs false

abbrev Nd := List UInt8 × Int × Int × List UInt8 × List UInt8 × Unit

/-! ### Paths -/
theorem leI_iff {a b : Int} : (leI a b = true) ↔ a ≤ b := by
  constructor
  · intro h
    rcases Int.lt_or_le b a with g | g
    · rw [leI_false g] at h; cases h
    · exact g
  · exact leI_true
theorem leI_dec {a b : Int} : leI a b = decide (a ≤ b) := by
  rw [Bool.eq_iff_iff, leI_iff, decide_eq_true_eq]
theorem clean_same {p : List UInt8} (hp : p ≠ []) : ((cleanF p).2 = 0 ∧ (cleanF p).1 = p) ↔ ((parts p).all isNm = true ∧ (parts p).length ≤ 8 ∧ p.length ≤ 96) := by
  constructor
  · rintro ⟨h1, h2⟩
    obtain ⟨h3, h4⟩ := cleanF_ok h1
    obtain ⟨h5, h6, h7⟩ := clean_names h3
    have e : joinS (names p) = p := by rw [← h4, h2]
    have e2 : parts p = names p := by
      have := parts_names p
      rw [e] at this
      exact this
    rw [e2]
    refine ⟨h5, h6, ?_⟩
    rw [e] at h7
    exact h7
  · rintro ⟨h1, h2, h3⟩
    have hk : ∀ x ∈ parts p, keepN x = true := fun x hx => by
      have := List.all_eq_true.1 h1 x hx
      unfold isNm at this
      have := of_decide_eq_true this
      unfold keepN
      refine decide_eq_true ⟨fun e => ?_, this.1⟩
      subst e
      exact absurd this.2.2.1 (by decide)
    have hn : names p = parts p := List.filter_eq_self.2 hk
    have hj : joinS (names p) = p := by rw [hn, joinS_parts]
    have hh : p.head? ≠ some 47 := by
      rw [← hj]
      exact head_joinS fun x hx => ⟨(names_mem p x hx).1, (names_mem p x hx).2.1⟩
    have hc : cleanOk p = true := by
      unfold cleanOk
      rw [hj, hn]
      simp [h1, h2, h3, hh]
    unfold cleanF
    rw [if_pos hc]
    exact ⟨rfl, hj⟩

def okPath (p : List UInt8) : Bool := decide (p ≠ []) && (parts p).all isNm && decide ((parts p).length ≤ 8) && decide (p.length ≤ 92) && decide ((splitF p).2.length ≤ 28) && decide ((markF (splitF p).2).1 = 0)

theorem isPath_val (p : List UInt8) (hp : p.length ≤ 4096) : P_tree_isPath (p, ()) = some (okPath p, ()) := by
  unfold P_tree_isPath
  dsimp only
  rw [clean_val p hp, obind_some, psplit_val p (by omega), obind_some]
  dsimp only
  rw [mark_val, obind_some]
  dsimp only
  rw [sel_and, sel_and, sel_and, sel_and, sel_and]
  congr 2
  rw [Bool.eq_iff_iff]
  unfold okPath
  by_cases h0 : p = []
  · subst h0; simp [eqS, nt]
  · have hc := clean_same h0
    simp only [Bool.and_eq_true, decide_eq_true_eq, eqI, eqS, nt_eq, leI_iff, len, Bool.not_eq_true', decide_eq_false_iff_not]
    constructor
    · rintro ⟨⟨⟨⟨a1, a2⟩, a3⟩, a4, a5⟩, a6⟩
      obtain ⟨b1, b2, b3⟩ := hc.1 ⟨a1, a2⟩
      exact ⟨⟨⟨⟨⟨h0, b1⟩, b2⟩, by omega⟩, by omega⟩, a6⟩
    · rintro ⟨⟨⟨⟨⟨_, b1⟩, b2⟩, b3⟩, b4⟩, b5⟩
      obtain ⟨a1, a2⟩ := hc.2 ⟨b1, b2, by omega⟩
      exact ⟨⟨⟨⟨a1, a2⟩, h0⟩, by omega, by omega⟩, b5⟩

def kindF (n : Nd) : Bool := if n.2.1 = 1 then decide (n.2.2.2.2.1 = [] ∧ n.2.2.2.1.length ≤ 8192) else if n.2.1 = 2 then decide (n.2.2.2.2.1 = [] ∧ n.2.2.2.1 = []) else if n.2.1 = 3 then decide (n.2.2.2.1 = [] ∧ n.2.2.2.2.1 ≠ [] ∧ n.2.2.2.2.1.length ≤ 100 ∧ 0 ∉ n.2.2.2.2.1) else false
/-- What a node may be. -/
def mayF (n : Nd) : Bool := okPath n.1 && decide (0 ≤ n.2.2.1) && decide (n.2.2.1 ≤ 4095) && kindF n

theorem indexByte_val (s : List UInt8) (c : UInt8) : P_strings_IndexByte (s, (u8 c, ())) = some (Lib.indexByte s c, ()) := by
  have : (show Int from u8 c).toNat.toUInt8 = c := by simp [u8]
  unfold P_strings_IndexByte P_internal_stringslite_IndexByte
  dsimp only
  rw [this]
  rfl

theorem tis_val (n : Nd) (hp : n.1.length ≤ 4096) : P_tree_is (n, ()) = some (mayF n, ()) := by
  obtain ⟨p, k, m, d, l, u⟩ := n
  unfold P_tree_is mayF kindF
  dsimp only
  rw [isPath_val p hp, obind_some]
  dsimp only
  have e1 : ltI m 0 = !decide (0 ≤ m) := by unfold ltI; by_cases h : m < 0 <;> simp [h] <;> omega
  have e2 : ltI 4095 m = !decide (m ≤ 4095) := by unfold ltI; by_cases h : 4095 < m <;> simp [h] <;> omega
  rw [e1, e2]
  cases okPath p with
  | false => rfl
  | true =>
    cases decide (0 ≤ m) with
    | false => rfl
    | true =>
      cases decide (m ≤ 4095) with
      | false => rfl
      | true =>
        simp only [nt_true, nt_false, sel_true, sel_false, Bool.not_true, Bool.true_and]
        by_cases k1 : k = 1
        · subst k1
          simp only [eqI, decide_true, sel_true, if_true, eqS, leI_dec, len, sel_and]
          congr 2
          rw [Bool.eq_iff_iff]; simp; intro _; omega
        · rw [show eqI k 1 = false by simp [eqI, k1], sel_false, if_neg k1]
          by_cases k2 : k = 2
          · subst k2
            simp only [eqI, decide_true, sel_true, if_true, eqS, leI_dec, len, sel_and]
            congr 2
            rw [Bool.eq_iff_iff]; simp
          · rw [show eqI k 2 = false by simp [eqI, k2], sel_false, if_neg k2]
            by_cases k3 : k = 3
            · subst k3
              rw [show eqI 3 3 = true by rfl, sel_true, if_pos rfl, sel_and, sel_and, show ((l, ((0 : Int), ())) : List UInt8 × Int × Unit) = (l, (u8 0, ())) by rfl, indexByte_val, obind_some]
              dsimp only
              have e3 : ltI (Lib.indexByte l 0) 0 = decide (0 ∉ l) := indexByte_nul l
              rw [e3]
              by_cases hd : d = []
              · by_cases hl : l = []
                · subst hd hl; rfl
                · by_cases h1 : l.length ≤ 100
                  · simp [eqS, hd, hl, leI_dec, len, nt, sel, obind, h1, show (l.length : Int) ≤ 100 by omega]
                  · simp [eqS, hd, hl, leI_dec, len, nt, sel, obind, h1, show ¬ (l.length : Int) ≤ 100 by omega]
              · simp [eqS, hd, sel, obind]
            · rw [show eqI k 3 = false by simp [eqI, k3], sel_false, if_neg k3]

end Go.Ge
