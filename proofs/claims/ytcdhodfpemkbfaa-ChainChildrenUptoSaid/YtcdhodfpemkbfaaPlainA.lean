/- Layer 19 in plain words: what the functions compute, as functional programs, and that they end. -/
import Derived.Test.YtcdhodfpemkbfaaHolds
namespace Go.Proofs.Ytcdhodfpemkbfaa
open Go Go.Ge
set_option linter.unusedVariables false
set_option linter.unusedSimpArgs false

abbrev Str := List UInt8
abbrev Ly := Str × Str × List Str × Str × Int × Int × Bool × Unit
abbrev S1 := (Bool × Int × Unit) × Unit
abbrev SI := (Int × Int × Unit) × Unit
abbrev SC := (Unit × Int × Unit) × List Str × Unit

/-! ### Few -/
def fewB (l : List Ly) (x : S1) : Option (S1 ⊕ (Nat × S1)) :=
  sel (sel (ltI x.1.2.1 (len l)) (ltI x.1.2.1 40) false)
    (obind (idx l x.1.2.1) fun x_1 =>
      obind (sel (nt (ltI 100 (len x_1.1))) (obind (idx l x.1.2.1) fun x => some (ltI 100 (len x.2.1))) (some true)) fun x_2 =>
        sel x_2 (some (Sum.inr (1, (false, x.1.2.1, ()), ()))) (some (Sum.inl ((x.1.1, iadd IntKind.i64 x.1.2.1 1, ()), ()))))
    (some (Sum.inr (0, (x.1.1, x.1.2.1, ()), ())))

theorem few_eq (l : List Ly) : cFew.spec (l, ()) = obind (Ge.Loop (fewB l) ((false, 0, ()), ())) fun x => sel (eqN x.1 0) (some (leI (len l) 40, ())) (some (x.2.1.1, ())) := by kernel_rfl

theorem idx_lt {α : Type} {l : List α} {i : Nat} (h : i < l.length) : idx l (i : Int) = some l[i] := by rw [idx_nat, List.getElem?_eq_getElem h]

theorem few_ends (l : List Ly) (hl : l.length ≤ 2097152) : ∃ b, cFew.spec (l, ()) = some (b, ()) := by
  rw [few_eq]
  obtain ⟨r, hr, _⟩ := Loop_rule (fewB l) (fun x => ∃ i : Nat, i ≤ l.length ∧ x = ((false, (i : Int), ()), ())) (fun x => l.length - x.1.2.1.toNat) (fun _ => True) (by
    rintro x ⟨i, hi, rfl⟩
    unfold fewB
    simp only [len, ltI_nat]
    by_cases h : i < l.length
    · rw [idx_lt h]
      simp only [h, decide_true, sel_true, obind_some]
      cases hq : ltI (i : Int) 40 with
      | false => exact ⟨_, rfl, trivial⟩
      | true =>
        simp only [sel_true]
        cases hb : nt (ltI 100 ((l[i].1.length : Nat) : Int)) with
        | true =>
          simp only [sel_true, obind_some]
          cases ltI 100 ((l[i].2.1.length : Nat) : Int) with
          | true => exact ⟨_, rfl, trivial⟩
          | false =>
            refine ⟨_, rfl, ⟨i + 1, h, by rw [iadd_one (by omega)]⟩, ?_⟩
            rw [iadd_one (by omega)]
            simp only [Int.toNat_natCast]
            omega
        | false => exact ⟨_, rfl, trivial⟩
    · simp only [h, decide_false, sel_false]
      exact ⟨_, rfl, trivial⟩) _ ⟨0, Nat.zero_le _, rfl⟩
  have hr' : Ge.Loop (fewB l) ((false, 0, ()), ()) = some r := hr
  show ∃ b, (obind (Ge.Loop (fewB l) ((false, 0, ()), ())) fun x => sel (eqN x.1 0) (some (leI (len l) 40, ())) (some (x.2.1.1, ())) : Option (Bool × Unit)) = some (b, ())
  rw [hr', obind_some]
  cases eqN r.1 0 with
  | true => exact ⟨_, rfl⟩
  | false => exact ⟨_, rfl⟩

/-! ### SameTexts -/
def sameTB (s t : List Str) (x : S1) : Option (S1 ⊕ (Nat × S1)) :=
  sel (sel (ltI x.1.2.1 (len s)) (ltI x.1.2.1 (len t)) false)
    (obind (idx s x.1.2.1) fun x_1 => obind (idx t x.1.2.1) fun x_2 =>
      sel (nt (eqS x_1 x_2)) (some (Sum.inr (1, (false, x.1.2.1, ()), ()))) (some (Sum.inl ((x.1.1, iadd IntKind.i64 x.1.2.1 1, ()), ()))))
    (some (Sum.inr (0, (x.1.1, x.1.2.1, ()), ())))

theorem sameT_eq (s t : List Str) : cSameT.spec (s, t, ()) = sel (nt (eqI (len s) (len t))) (some (false, ())) (obind (Ge.Loop (sameTB s t) ((false, 0, ()), ())) fun x => sel (eqN x.1 0) (some (true, ())) (some (x.2.1.1, ()))) := by kernel_rfl

theorem sameT_self (s : List Str) (hs : s.length ≤ 2097152) : cSameT.spec (s, s, ()) = some (true, ()) := by
  have hl : Ge.Loop (sameTB s s) ((false, 0, ()), ()) = some (0, ((false, (s.length : Int), ()), ())) := loop_seq (f := sameTB s s) s.length (fun i => ((false, (i : Int), ()), ())) ?_ ?_
  · rw [sameT_eq, eqI_self, nt_true, sel_false, hl]; rfl
  · intro i hi
    unfold sameTB
    simp only [len, ltI_nat, hi, decide_true, sel_true, idx_lt hi, obind_some, eqS_self, nt_true, sel_false]
    rw [iadd_one (by omega)]
  · unfold sameTB
    simp only [len, ltI_nat, Nat.lt_irrefl, decide_false, sel_false]

/-! ### SameLayers -/
noncomputable def sameLB (a b : List Ly) (x : S1) : Option (S1 ⊕ (Nat × S1)) :=
  sel (sel (ltI x.1.2.1 (len a)) (ltI x.1.2.1 (len b)) false)
    (obind (idx a x.1.2.1) fun x_1 => obind (idx b x.1.2.1) fun x_2 =>
      obind (sel (nt (sel (nt (nt (eqS x_1.1 x_2.1))) (nt (eqS x_1.2.1 x_2.2.1)) true)) (obind (cSameT.spec (x_1.2.2.1, x_2.2.2.1, ())) fun x => some (nt x.1)) (some true)) fun x_3 =>
        sel (sel (nt (sel (nt (sel (nt (sel (nt x_3) (nt (eqS x_1.2.2.2.1 x_2.2.2.2.1)) true)) (nt (eqI x_1.2.2.2.2.1 x_2.2.2.2.2.1)) true)) (nt (eqI x_1.2.2.2.2.2.1 x_2.2.2.2.2.2.1)) true)) (nt (eqB x_1.2.2.2.2.2.2.1 x_2.2.2.2.2.2.2.1)) true)
          (some (Sum.inr (1, (false, x.1.2.1, ()), ()))) (some (Sum.inl ((x.1.1, iadd IntKind.i64 x.1.2.1 1, ()), ()))))
    (some (Sum.inr (0, (x.1.1, x.1.2.1, ()), ())))

theorem sameL_eq (a b : List Ly) : cSameL.spec (a, b, ()) = sel (nt (eqI (len a) (len b))) (some (false, ())) (obind (Ge.Loop (sameLB a b) ((false, 0, ()), ())) fun x => sel (eqN x.1 0) (some (true, ())) (some (x.2.1.1, ()))) := by kernel_rfl

theorem sameL_self (a : List Ly) (ha : a.length ≤ 2097152) (hn : ∀ x ∈ a, x.2.2.1.length ≤ 2097152) : cSameL.spec (a, a, ()) = some (true, ()) := by
  have hl : Ge.Loop (sameLB a a) ((false, 0, ()), ()) = some (0, ((false, (a.length : Int), ()), ())) := loop_seq (f := sameLB a a) a.length (fun i => ((false, (i : Int), ()), ())) ?_ ?_
  · rw [sameL_eq, eqI_self, nt_true, sel_false, hl]; rfl
  · intro i hi
    unfold sameLB
    have hq := sameT_self a[i].2.2.1 (hn _ (List.getElem_mem hi))
    simp only [len, ltI_nat, hi, decide_true, sel_true, idx_lt hi, obind_some, eqS_self, eqI_self, eqB_self, nt_true, nt_false, sel_false, hq]
    rw [iadd_one (by omega)]
    rfl
  · unfold sameLB
    simp only [len, ltI_nat, Nat.lt_irrefl, decide_false, sel_false]
end Go.Proofs.Ytcdhodfpemkbfaa
