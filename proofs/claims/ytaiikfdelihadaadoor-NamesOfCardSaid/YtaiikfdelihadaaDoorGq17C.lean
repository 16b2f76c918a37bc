/- Whether a record may have names; whether they are free; records with them. -/
import Derived.Test.YtaiikfdelihadaaDoorGq17B
namespace Go.Ge
set_option linter.unusedVariables false
set_option linter.unusedSimpArgs false
open Go.Lib

theorem sortS_pair (l : List Tx) : (sortS l).Pairwise (fun a b => a ≤ b) := by
  have := List.pairwise_mergeSort (le := fun x y : Tx => decide (x ≤ y)) (fun a b c h k => by simp only [decide_eq_true_eq] at h k ⊢; exact List.le_trans h k) (fun a b => by simp only [Bool.or_eq_true, decide_eq_true_eq]; exact List.le_total a b) l
  unfold sortS
  exact this.imp fun h => of_decide_eq_true h
theorem sortS_nodup (l : List Tx) : (sortS l).Nodup ↔ l.Nodup := (List.mergeSort_perm l _).nodup_iff

theorem keeps_at {m : List Tx} {j : Nat} (hj : j < m.length) : keeps m.toArray j = decide (j = 0 ∨ m[j] ≠ m[j - 1]'(by omega)) := by
  unfold keeps
  have h1 : m.toArray[j]! = m[j] := by simp [hj]
  have h2 : m.toArray[j - 1]! = m[j - 1]'(by omega) := by simp [show j - 1 < m.length by omega]
  rw [h1, h2]

/-- Fewer are left of a sorted list where no neighbours are the same just where one stands twice. -/
theorem compact_less (m : List Tx) (hs : m.Pairwise (fun a b => a ≤ b)) : (compact m).length < m.length ↔ ¬ m.Nodup := by
  unfold compact compactUpTo
  rw [List.length_map]
  have hlen : (List.range m.length).length = m.length := List.length_range
  have : ((List.range m.length).filter (keeps m.toArray)).length < m.length ↔ ∃ x, x ∈ List.range m.length ∧ ¬ keeps m.toArray x = true := by
    have := List.length_filter_lt_length_iff_exists (p := keeps m.toArray) (l := List.range m.length)
    rwa [hlen] at this
  rw [this]
  constructor
  · rintro ⟨j, hj, hk⟩ hn
    have hj' := List.mem_range.1 hj
    rw [keeps_at hj'] at hk
    simp only [decide_eq_true_eq, not_or, Decidable.not_not] at hk
    have hp := List.pairwise_iff_getElem.1 hn (j - 1) j (by omega) hj' (by omega)
    exact hp hk.2.symm
  · intro hn
    by_cases h : ∃ i j, ∃ (hij : i < j) (hj : j < m.length), m[i]'(by omega) = m[j]
    · obtain ⟨i, j, hij, hj, he⟩ := h
      refine ⟨j, List.mem_range.2 hj, ?_⟩
      rw [keeps_at hj]
      simp only [decide_eq_true_eq, not_or, Decidable.not_not]
      refine ⟨by omega, ?_⟩
      have le := fun a b (h1 : a < b) (h2 : b < m.length) => List.pairwise_iff_getElem.1 hs a b (by omega) h2 h1
      have h1 : m[j - 1]'(by omega) ≤ m[j] := le (j - 1) j (by omega) hj
      have h2 : m[j] ≤ m[j - 1]'(by omega) := by
        rw [← he]
        rcases Nat.lt_or_ge i (j - 1) with q | q
        · exact le i (j - 1) q (by omega)
        · have : i = j - 1 := by omega
          subst this
          exact List.le_refl _
      exact (List.le_antisymm h1 h2).symm
    · exfalso
      apply hn
      refine List.pairwise_iff_getElem.2 fun i j hi hj hij he => h ⟨i, j, hij, hj, he⟩

/-- May a record have these names? -/
def okNames (l : List Tx) : Bool := l.all isNameB && decide l.Nodup && decide (l.length ≤ 4)
def checkI (l : List Tx) : Int := if okNames l = true then 0 else 1

theorem check_val (l : List Tx) (hl : l.length ≤ 4294967296) : P_names_Check (l, ()) = some (checkI l, ()) := by
  unfold P_names_Check
  dsimp only
  have e4 : nt (ltI 4 (len l)) = decide (l.length ≤ 4) := by
    unfold nt ltI len
    rw [← decide_not]
    apply decide_eq_decide.2; omega
  have hc : ltI (len (compact (sortS l))) (len l) = !decide l.Nodup := by
    have h := compact_less (sortS l) (sortS_pair l)
    rw [sortS_len, sortS_nodup] at h
    unfold ltI len
    rw [← decide_not]
    apply decide_eq_decide.2
    rw [← h]; omega
  have hs : P_slices_Sort_string_string l () = some (sortS l) := by
    unfold P_slices_Sort_string_string
    rw [fits_len hl]; rfl
  rw [fits_len hl, sel_true, hs, obind_some]
  unfold P_slices_Compact_string_string
  rw [obind_some]
  rcases srch (f := P_names_Check_L0 (l, ())) l (fun i => (((0 : Int), (i, ())), ())) (fun _ x => !isNameB x) (fun i x => (1, (((i : Int), ((i : Int), ())), ()))) (0, (((0 : Int), (len l, ())), ())) hl (fun i x hx hi ha => by
      unfold P_names_Check_L0
      dsimp only
      rw [ltI_len_true hi, sel_true, idx_some' hx, obind_some, isName_val, obind_some, nt_eq, sel_if, ha]
      by_cases h : isNameB x = true <;> simp [h]) (by unfold P_names_Check_L0; dsimp only; rw [ltI_len_end, sel_false]; rfl) with ⟨i, x, hx, hp, hj, h⟩ | ⟨hn, h⟩
  · rw [h, obind_some]
    have : l.all isNameB = false := by
      rw [List.all_eq_false]
      exact ⟨x, mem_at.2 ⟨i, hx⟩, by simpa using hp⟩
    have hI : checkI l = 1 := by unfold checkI okNames; rw [this]; rfl
    rw [hI]
    show sel (sel (nt (sel (nt (ltI 4 (len l))) (ltI (len (compact (sortS l))) (len l)) true)) (leI 0 (i : Int)) true) _ _ = _
    rw [leI_true (show (0 : Int) ≤ (i : Int) by omega)]
    cases nt (sel (nt (ltI 4 (len l))) (ltI (len (compact (sortS l))) (len l)) true) <;> rfl
  · rw [h, obind_some]
    have : l.all isNameB = true := by
      rw [List.all_eq_true]
      intro x hx
      obtain ⟨i, hi⟩ := mem_at.1 hx
      simpa using hn i x hi
    show sel (sel (nt (sel (nt (ltI 4 (len l))) (ltI (len (compact (sortS l))) (len l)) true)) (leI 0 (-1)) true) _ _ = _
    rw [e4, hc, show leI 0 (-1) = false from rfl]
    unfold checkI okNames
    rw [this]
    cases decide l.Nodup <;> cases decide (l.length ≤ 4) <;> rfl

theorem refNames_val (l : List Tx) (hl : l.length ≤ 4294967296) (hx : ∀ x ∈ l, x.length ≤ 4294967296) : P_ref06_Names (l, ()) = some (okNames l, ()) := by
  unfold P_ref06_Names
  -- of the names ahead, none is the same
  have inner : ∀ (r : Bool) (i : Nat) (x : Tx), l[i]? = some x → (∃ j y, j < i ∧ l[j]? = some y ∧ y = x ∧ ∃ q, Loop (P_ref06_Names_L1 (l, ()) ((r, ((i : Int), ())), ())) ((r, ((0 : Int), ())), ()) = some (1, ((false, q), ()))) ∨ ((∀ j y, j < i → l[j]? = some y → y ≠ x) ∧ ∃ q, Loop (P_ref06_Names_L1 (l, ()) ((r, ((i : Int), ())), ())) ((r, ((0 : Int), ())), ()) = some (0, ((r, q), ()))) := by
    intro r i x hxi
    have hi := getElem?_lt hxi
    have hmin : min i l.length = i := by omega
    rcases srchTo (f := P_ref06_Names_L1 (l, ()) ((r, ((i : Int), ())), ())) l i (fun j => ((r, (j, ())), ())) (fun _ y => decide (y = x)) (fun j y => (1, ((false, ((j : Int), ())), ()))) (fun n => (0, ((r, ((n : Int), ())), ()))) (by omega) (fun j y hy hj hji ha => by
        unfold P_ref06_Names_L1
        dsimp only
        rw [ltI_true (show (j : Int) < (i : Int) by omega), sel_true, idx_some' hy, obind_some, idx_some' hxi, obind_some, sel_if, ha]
        by_cases h : y = x <;> simp [eqS, h]) (by
        unfold P_ref06_Names_L1
        dsimp only
        rw [hmin, ltI_false (Int.le_refl _), sel_false]) with ⟨j, y, hji, hy, hp, _, h⟩ | ⟨hn, h⟩
    · exact .inl ⟨j, y, hji, hy, of_decide_eq_true hp, _, h⟩
    · exact .inr ⟨fun j y hji hy => of_decide_eq_false (hn j y hji hy), _, h⟩
  let bad : Nat → Tx → Bool := fun i x => !isNameB x || (l.take i).contains x
  have hbad : ∀ i x, l[i]? = some x → ((l.take i).contains x = true ↔ ∃ j y, j < i ∧ l[j]? = some y ∧ y = x) := by
    intro i x hxi
    simp only [List.contains_eq_mem, decide_eq_true_eq]
    rw [mem_at]
    constructor
    · rintro ⟨j, hj⟩
      rw [List.getElem?_take] at hj
      split at hj
      · exact ⟨j, x, by assumption, hj, rfl⟩
      · cases hj
    · rintro ⟨j, y, hji, hy, rfl⟩
      exact ⟨j, by rw [List.getElem?_take, if_pos hji]; exact hy⟩
  rcases srch (f := P_ref06_Names_L0 (l, ())) l (fun i => ((false, (i, ())), ())) bad (fun i x => (1, ((false, ((i : Int), ())), ()))) (0, ((false, (len l, ())), ())) hl (fun i x hxi hi ha => by
      unfold P_ref06_Names_L0
      dsimp only
      rw [ltI_len_true hi, sel_true, idx_some' hxi, obind_some, refIsName_val x (hx x (mem_at.2 ⟨i, hxi⟩)), obind_some]
      dsimp only
      cases hb : isNameB x with
      | false => simp [bad, hb, nt, sel]
      | true =>
        rw [nt_true, sel_false]
        rcases inner false i x hxi with ⟨j, y, h1, h2, h3, q, h⟩ | ⟨hn, q, h⟩
        · have hcon := (hbad i x hxi).2 ⟨j, y, h1, h2, h3⟩
          rw [h, obind_some]
          show some _ = _
          simp only [bad, hb, hcon]
          rfl
        · have hcon : (l.take i).contains x = false := by
            rw [← Bool.not_eq_true]
            intro hc
            obtain ⟨j, y, h1, h2, h3⟩ := (hbad i x hxi).1 hc
            exact hn j y h1 h2 h3
          rw [h, obind_some, ha]
          simp only [bad, hb, hcon]
          rfl) (by unfold P_ref06_Names_L0; dsimp only; rw [ltI_len_end, sel_false]; rfl) with ⟨i, x, hxi, hp, hj, h⟩ | ⟨hn, h⟩
  · rw [h, obind_some]
    have : okNames l = false := by
      unfold okNames
      simp only [bad, Bool.or_eq_true, Bool.not_eq_true'] at hp
      rcases hp with hp | hp
      · have : l.all isNameB = false := by rw [List.all_eq_false]; exact ⟨x, mem_at.2 ⟨i, hxi⟩, by simpa using hp⟩
        rw [this]; rfl
      · have : ¬ l.Nodup := fun hnd => by
          obtain ⟨j, y, h1, h2, h3⟩ := (hbad i x hxi).1 hp
          obtain ⟨hi', hxi'⟩ := List.getElem?_eq_some_iff.1 hxi
          obtain ⟨hj', hyj⟩ := List.getElem?_eq_some_iff.1 h2
          exact List.pairwise_iff_getElem.1 hnd j i hj' hi' h1 (by rw [hyj, hxi', h3])
        rw [decide_eq_false this, Bool.and_false]; rfl
    rw [this]; rfl
  · rw [h, obind_some]
    have h1 : l.all isNameB = true := by
      rw [List.all_eq_true]
      intro x hx2
      obtain ⟨i, hi⟩ := mem_at.1 hx2
      have := hn i x hi
      simp only [bad, Bool.or_eq_false_iff, Bool.not_eq_false'] at this
      exact this.1
    have h2 : l.Nodup := by
      refine List.pairwise_iff_getElem.2 fun j i hj hi hji he => ?_
      have := hn i l[i] (List.getElem?_eq_getElem hi)
      simp only [bad, Bool.or_eq_false_iff] at this
      have hc := (hbad i l[i] (List.getElem?_eq_getElem hi)).2 ⟨j, l[j], hji, List.getElem?_eq_getElem hj, he⟩
      rw [hc] at this
      cases this.2
    show some (leI (len l) 4, ()) = _
    unfold okNames
    rw [h1, decide_eq_true h2]
    have : leI (len l) 4 = decide (l.length ≤ 4) := by unfold leI len; apply decide_eq_decide.2; omega
    rw [this]; rfl

theorem refCheck_val (l : List Tx) (hl : l.length ≤ 4294967296) (hx : ∀ x ∈ l, x.length ≤ 4294967296) : P_ref17_Check (l, ()) = some (checkI l, ()) := by
  unfold P_ref17_Check
  dsimp only
  rw [refNames_val l hl hx, obind_some]
  unfold checkI
  cases okNames l <;> rfl
end Go.Ge
