/- The law NamesIs in plain words. -/
import Derived.Test.YtaiikfdelihadaaDoorGq17D
namespace Go.Ge
set_option linter.unusedVariables false
set_option linter.unusedSimpArgs false

theorem min_end {α : Type} {n : Nat} {l : List α} {c : Int} (hc : c = n) : sel (ltI ((min n l.length : Nat) : Int) (len l)) (ltI ((min n l.length : Nat) : Int) c) false = false := by
  subst hc
  by_cases h : l.length ≤ n
  · rw [Nat.min_eq_right h, ltI_len_end, sel_false]
  · rw [Nat.min_eq_left (by omega), ltI_false (Int.le_refl _)]
    cases ltI (n : Int) (len l) <;> rfl
theorem leI_len_lit {α : Type} {l : List α} {n : Nat} {c : Int} (hc : c = n) : leI (len l) c = decide (l.length ≤ n) := by subst hc; exact leI_len n l
theorem ltI_lit_len {α : Type} {l : List α} {n : Nat} {c : Int} (hc : c = n) : ltI c (len l) = decide (n < l.length) := by subst hc; exact ltI_len n l

/-- Few texts, of few bytes. -/
def FewT (l : List Tx) : Prop := l.length ≤ 8 ∧ ∀ x ∈ l, x.length ≤ 100

theorem fewTexts_val (l : List Tx) : ∃ b, P_ref17_FewTexts (l, ()) = some (b, ()) ∧ (b = true → FewT l) := by
  unfold P_ref17_FewTexts
  rcases srchTo (f := P_ref17_FewTexts_L0 (l, ())) l 8 (fun i => ((false, (i, ())), ())) (fun _ x => decide (100 < x.length)) (fun i x => (1, ((false, ((i : Int), ())), ()))) (fun n => (0, ((false, ((n : Int), ())), ()))) (by omega) (fun i x hx hi hi8 ha => by
      unfold P_ref17_FewTexts_L0
      dsimp only
      rw [ltI_len_true hi, sel_true, ltI_true (show (i : Int) < 8 by omega), sel_true, idx_some' hx, obind_some, ltI_lit_len (n := 100) (c := 100) rfl, sel_if, ha]
      by_cases h : 100 < x.length <;> simp [h]) (by unfold P_ref17_FewTexts_L0; dsimp only; rw [min_end (c := 8) rfl, sel_false]) with ⟨i, x, hi, hx, hp, _, h⟩ | ⟨hn, h⟩
  · rw [h]; exact ⟨false, rfl, fun h => by cases h⟩
  · rw [h]
    refine ⟨_, rfl, fun hb => ?_⟩
    dsimp only at hb
    rw [leI_len_lit (n := 8) (c := 8) rfl] at hb
    have h8 := of_decide_eq_true hb
    refine ⟨h8, fun x hx => ?_⟩
    obtain ⟨i, hi⟩ := mem_at.1 hx
    have := hn i x (by have := getElem?_lt hi; omega) hi
    simpa using this

def FewN (l : List Nm) : Prop := l.length ≤ 40 ∧ ∀ x ∈ l, x.1.length ≤ 100 ∧ FewT x.2.1

theorem few_val (l : List Nm) : ∃ b, P_ref17_Few (l, ()) = some (b, ()) ∧ (b = true → FewN l) := by
  unfold P_ref17_Few
  have hq : ∀ x : Nm, ∃ b, P_ref17_FewTexts (x.2.1, ()) = some (b, ()) ∧ (b = true → FewT x.2.1) := fun x => fewTexts_val x.2.1
  let few : Nm → Bool := fun x => Classical.choose (hq x)
  have few1 : ∀ x : Nm, P_ref17_FewTexts (x.2.1, ()) = some (few x, ()) := fun x => (Classical.choose_spec (hq x)).1
  have few2 : ∀ x : Nm, few x = true → FewT x.2.1 := fun x => (Classical.choose_spec (hq x)).2
  rcases srchTo (f := P_ref17_Few_L0 (l, ())) l 40 (fun i => ((false, (i, ())), ())) (fun _ x => decide (100 < x.1.length) || !few x) (fun i x => (1, ((false, ((i : Int), ())), ()))) (fun n => (0, ((false, ((n : Int), ())), ()))) (by omega) (fun i x hx hi hi8 ha => by
      unfold P_ref17_Few_L0
      dsimp only
      rw [ltI_len_true hi, sel_true, ltI_true (show (i : Int) < 40 by omega), sel_true, idx_some' hx, obind_some, ltI_lit_len (n := 100) (c := 100) rfl, obind_some, few1, obind_some, ha]
      by_cases h : 100 < x.1.length
      · simp [h, sel, nt, obind]
      · simp only [h, decide_false, nt_false, sel_true, obind_some, Bool.false_or, nt_eq]
        cases few x <;> rfl) (by unfold P_ref17_Few_L0; dsimp only; rw [min_end (c := 40) rfl, sel_false]) with ⟨i, x, hi, hx, hp, _, h⟩ | ⟨hn, h⟩
  · rw [h]; exact ⟨false, rfl, fun h => by cases h⟩
  · rw [h]
    refine ⟨_, rfl, fun hb => ?_⟩
    dsimp only at hb
    rw [leI_len_lit (n := 40) (c := 40) rfl] at hb
    have h8 := of_decide_eq_true hb
    refine ⟨h8, fun x hx => ?_⟩
    obtain ⟨i, hi⟩ := mem_at.1 hx
    have := hn i x (by have := getElem?_lt hi; omega) hi
    simp only [Bool.or_eq_false_iff, decide_eq_false_iff_not, Bool.not_eq_false'] at this
    exact ⟨by omega, few2 x this.2⟩

theorem FewT.small {l : List Tx} (h : FewT l) : l.length ≤ 4294967296 := by have := h.1; omega
theorem FewT.each {l : List Tx} (h : FewT l) : ∀ x ∈ l, x.length ≤ 4294967296 := fun x hx => by have := h.2 x hx; omega
theorem FewN.small {l : List Nm} (h : FewN l) : Small l := ⟨by have := h.1; omega, fun x hx => by have := (h.2 x hx).2.1; omega⟩

theorem small_lit {l : List Nm} (h : (decide (l.length ≤ 40) && l.all fun x => decide (x.2.1.length ≤ 8)) = true) : Small l := by
  simp only [Bool.and_eq_true, decide_eq_true_eq, List.all_eq_true] at h
  exact ⟨by omega, fun x hx => by have := h.2 x hx; omega⟩

theorem set_small {l : List Nm} (hl : Small l) {k : Nat} {v : Nm} (hv : v.2.1.length ≤ 4294967296) : Small (l.set k v) := ⟨by rw [List.length_set]; exact hl.1, fun x hx => by
  rcases List.mem_or_eq_of_mem_set hx with h | h
  · exact hl.2 x h
  · rw [h]; exact hv⟩

def id1 : Tx := [48, 48, 48, 48, 48, 49]
def id2 : Tx := [48, 48, 48, 48, 48, 50]
def awl : List Nm := [(id1, ([[97], [98]], ())), (id2, ([[99]], ()))]
def awm : List Nm := [(id1, ([[97], [98]], ())), (id2, ([[100]], ()))]

theorem awake17 : P_law17_awake () = some (true, ()) := by
  unfold P_law17_awake
  have h1 : P_names_Set (awl, (id2, ([[100]], ()))) = some (awm, (0, ())) := by
    rw [names_set_val awl id2 [[100]] (small_lit (by decide +kernel)) (by decide)]
    decide +kernel
  have h2 : P_names_Owner (awm, ([100], ())) = some (id2, (true, ())) := by
    rw [names_owner_val awm [100] (small_lit (by decide +kernel))]
    decide +kernel
  have h3 : P_names_Free (awl, (id1, ([[98]], ()))) = some (0, ()) := by
    rw [names_free_val awl id1 [[98]] (small_lit (by decide +kernel)) (by decide)]
    decide +kernel
  have h4 : P_names_Free (awl, (id2, ([[98]], ()))) = some (8, ()) := by
    rw [names_free_val awl id2 [[98]] (small_lit (by decide +kernel)) (by decide)]
    decide +kernel
  have h5 : P_names_Check ([[65]], ()) = some (1, ()) := by
    rw [check_val [[65]] (by decide)]
    decide +kernel
  have h6 : P_names_Of (3, ((0, ([([120], ([], ([], ([], (0, (0, (false, ()))))))), ([121], ([], ([], ([], (0, (0, (true, ())))))))], ([], ([], ())))), ())) = some ([([121], ([], ()))], ()) := by
    unfold P_names_Of
    dsimp only
    rw [show eqI 3 1 = false from rfl, sel_false, show eqI 3 2 = false from rfl, sel_false, show eqI 3 3 = true from rfl, sel_true]
    have : Loop (P_names_Of_L2 (3, ((0, ([([120], ([], ([], ([], (0, (0, (false, ()))))))), ([121], ([], ([], ([], (0, (0, (true, ())))))))], ([], ([], ())))), ()))) (((0 : Int), ()), ((), (([] : List Nm), ()))) = some ((2, ()), ((), ([([121], ([], ()))], ()))) := by
      have hcl : P_slices_Clone_string_string ([], ()) = some ([], ()) := clone_strs [] (by decide)
      refine loop_of_rounds (n := 3) ?_
      have r1 : P_names_Of_L2 (3, ((0, ([([120], ([], ([], ([], (0, (0, (false, ()))))))), ([121], ([], ([], ([], (0, (0, (true, ())))))))], ([], ([], ())))), ())) (((0 : Int), ()), ((), (([] : List Nm), ()))) = some (.inl (((1 : Int), ()), ((), (([] : List Nm), ())))) := by rfl
      have r2 : P_names_Of_L2 (3, ((0, ([([120], ([], ([], ([], (0, (0, (false, ()))))))), ([121], ([], ([], ([], (0, (0, (true, ())))))))], ([], ([], ())))), ())) (((1 : Int), ()), ((), (([] : List Nm), ()))) = some (.inl (((2 : Int), ()), ((), ([([121], ([], ()))], ())))) := by
        unfold P_names_Of_L2
        dsimp only
        rfl
      have r3 : P_names_Of_L2 (3, ((0, ([([120], ([], ([], ([], (0, (0, (false, ()))))))), ([121], ([], ([], ([], (0, (0, (true, ())))))))], ([], ([], ())))), ())) (((2 : Int), ()), ((), ([([121], ([], ()))], ()))) = some (.inr (((2 : Int), ()), ((), ([([121], ([], ()))], ())))) := by rfl
      simp only [rounds, r1, r2, r3, Option.bind]
    rw [this]
    rfl
  show obind (P_names_Set (awl, (id2, ([[100]], ())))) _ = _
  rw [h1, obind_some]
  show obind (P_names_Owner (awm, ([100], ()))) _ = _
  rw [h2, obind_some]
  show obind (obind (P_names_Free (awl, (id1, ([[98]], ())))) _) _ = _
  rw [h3, obind_some, obind_some]
  show obind (obind (P_names_Free (awl, (id2, ([[98]], ())))) _) _ = _
  rw [h4, obind_some, obind_some]
  show obind (obind (P_names_Check ([[65]], ())) _) _ = _
  rw [h5, obind_some, obind_some]
  show obind (obind (P_names_Of _) _) _ = _
  rw [h6]
  rfl

theorem namesIs_val (l : List Nm) (id : Tx) (given : List Tx) : P_law17_NamesIs (l, (id, (given, ()))) = some (true, ()) := by
  unfold P_law17_NamesIs
  dsimp only
  obtain ⟨b1, h1, hb1⟩ := few_val l
  obtain ⟨b2, h2, hb2⟩ := fewTexts_val given
  rw [h1, obind_some, h2, obind_some, awake17, obind_some]
  dsimp only
  cases b1 with
  | false => rfl
  | true =>
    have hl := hb1 rfl
    rw [nt_true, nt_false, sel_true]
    cases hc : ltI 100 (len id) with
    | true => rfl
    | false =>
      rw [nt_false, sel_true, obind_some]
      cases b2 with
      | false => rfl
      | true =>
        have hg := hb2 rfl
        have hs := hl.small
        rw [nt_true, sel_false, names_set_val l id given hs hg.small, obind_some, ref_set_val l id given hs (by have := hl.1; omega) hg.small hg.each, obind_some]
        rcases srch (f := P_law17_NamesIs_L0 (l, (id, (given, ())))) given (fun i => ((false, (i, ())), ())) (fun _ _ => false) (fun i x => (1, ((false, ((i : Int), ())), ()))) (0, ((false, (len given, ())), ())) hg.small (fun i x hx hi ha => by
            unfold P_law17_NamesIs_L0
            dsimp only
            rw [ltI_len_true hi, sel_true, idx_some' hx, obind_some, names_owner_val l x hs, obind_some, obind_some, ref17_owner_val l x hs, obind_some, eqS_self, eqB_self, ha]
            rfl) (by unfold P_law17_NamesIs_L0; dsimp only; rw [ltI_len_end, sel_false]; rfl) with ⟨i, x, hx, hp, hj, h⟩ | ⟨hn, h⟩
        · cases hp
        · have hset : Small (setI l id given).1 := by
            unfold setI
            split
            · exact ⟨by simp, fun x hx => by cases hx⟩
            · split
              · exact ⟨by simp, fun x hx => by cases hx⟩
              · split
                · exact ⟨by simp, fun x hx => by cases hx⟩
                · exact set_small hs hg.small
          rw [h, obind_some]
          dsimp only
          rw [eqN_zero, sel_true, same_val _ _ hset, obind_some, decide_eq_true rfl, eqI_self, check_val given hg.small, refCheck_val given hg.small hg.each, names_free_val l id given hs hg.small, ref_free_val l id given hs hg.small hg.each]
          dsimp only
          rw [obind_some, obind_some, obind_some, obind_some]
          dsimp only
          rw [eqI_self, eqI_self]
          rfl
end Go.Ge
