/- The law NamesOf in plain words. -/
import Derived.Test.YtaiikfdelihadaaDoorGq17F
namespace Go.Ge
set_option linter.unusedVariables false
set_option linter.unusedSimpArgs false

abbrev Item := Tx × Tx × Tx × Unit
abbrev LayerT := Tx × Tx × List Tx × Tx × Int × Int × Bool × Unit
abbrev ImageT := Tx × List Tx × Tx × Tx × List Item × Unit
abbrev BoxT := Tx × List Tx × Tx × Tx × Tx × List Item × Unit
abbrev BaseT := Int × List LayerT × List ImageT × List BoxT × Unit

theorem few6t_val (l : List Tx) : ∃ b, P_ref06_few (l, ()) = some (b, ()) ∧ (b = true → FewT l) := by
  unfold P_ref06_few
  rcases srchTo (f := P_ref06_few_L0 (l, ())) l 8 (fun i => ((false, (i, ())), ())) (fun _ x => decide (100 < x.length)) (fun i x => (1, ((false, ((i : Int), ())), ()))) (fun n => (0, ((false, ((n : Int), ())), ()))) (by omega) (fun i x hx hi hi8 ha => by
      unfold P_ref06_few_L0
      dsimp only
      rw [ltI_len_true hi, sel_true, ltI_true (show (i : Int) < 8 by omega), sel_true, idx_some' hx, obind_some, ltI_lit_len (n := 100) (c := 100) rfl, sel_if, ha]
      by_cases h : 100 < x.length <;> simp [h]) (by unfold P_ref06_few_L0; dsimp only; rw [min_end (c := 8) rfl, sel_false]) with ⟨i, x, hi, hx, hp, _, h⟩ | ⟨hn, h⟩
  · rw [h]; exact ⟨false, rfl, fun h => by cases h⟩
  · rw [h]
    refine ⟨_, rfl, fun hb => ?_⟩
    dsimp only at hb
    rw [leI_len_lit (n := 8) (c := 8) rfl] at hb
    have h8 := of_decide_eq_true hb
    refine ⟨h8, fun x hx => ?_⟩
    obtain ⟨i, hi⟩ := mem_at.1 hx
    have := hn i x (by have := getElem?_lt hi; omega) hi
    simpa using this

theorem few6i_val (l : List Item) : ∃ b, P_ref06_fewItems (l, ()) = some (b, ()) := by
  unfold P_ref06_fewItems
  rcases srchTo (f := P_ref06_fewItems_L0 (l, ())) l 8 (fun i => ((false, (i, ())), ())) (fun _ x => decide (100 < x.1.length) || decide (200 < x.2.2.1.length)) (fun i x => (1, ((false, ((i : Int), ())), ()))) (fun n => (0, ((false, ((n : Int), ())), ()))) (by omega) (fun i x hx hi hi8 ha => by
      unfold P_ref06_fewItems_L0
      dsimp only
      rw [ltI_len_true hi, sel_true, ltI_true (show (i : Int) < 8 by omega), sel_true, idx_some' hx, obind_some, ltI_lit_len (n := 100) (c := 100) rfl, obind_some, ltI_lit_len (n := 200) (c := 200) rfl, ha]
      by_cases h : 100 < x.1.length
      · simp [h, sel, nt, obind]
      · by_cases h2 : 200 < x.2.2.1.length <;> simp [h, h2, sel, nt, obind]) (by unfold P_ref06_fewItems_L0; dsimp only; rw [min_end (c := 8) rfl, sel_false]) with ⟨i, x, hi, hx, hp, _, h⟩ | ⟨hn, h⟩
  · rw [h]; exact ⟨false, rfl⟩
  · rw [h]; exact ⟨_, rfl⟩

/-- A base of few parts. -/
structure FewB (b : BaseT) : Prop where
  ll : b.2.1.length ≤ 40
  ln : ∀ x ∈ b.2.1, FewT x.2.2.1
  il : b.2.2.1.length ≤ 40
  inn : ∀ x ∈ b.2.2.1, FewT x.2.1
  bl : b.2.2.2.1.length ≤ 40
  bn : ∀ x ∈ b.2.2.2.1, FewT x.2.1

theorem few6_val (b : BaseT) : ∃ c, P_ref06_Few (b, ()) = some (c, ()) ∧ (c = true → FewB b) := by
  obtain ⟨few, hfew⟩ : ∃ few : List Tx → Bool, ∀ l, P_ref06_few (l, ()) = some (few l, ()) ∧ (few l = true → FewT l) := ⟨fun l => Classical.choose (few6t_val l), fun l => Classical.choose_spec (few6t_val l)⟩
  obtain ⟨fewi, hfewi⟩ : ∃ few : List Item → Bool, ∀ l, P_ref06_fewItems (l, ()) = some (few l, ()) := ⟨fun l => Classical.choose (few6i_val l), fun l => Classical.choose_spec (few6i_val l)⟩
  obtain ⟨n, la, im, bo, u⟩ := b
  unfold P_ref06_Few
  rcases srchTo (f := P_ref06_Few_L0 ((n, (la, (im, (bo, u)))), ())) la 40 (fun i => ((false, (i, ())), ())) (fun _ x => !few x.2.2.1) (fun i x => (1, ((false, ((i : Int), ())), ()))) (fun n => (0, ((false, ((n : Int), ())), ()))) (by omega) (fun i x hx hi hi8 ha => by
      unfold P_ref06_Few_L0
      dsimp only
      rw [ltI_len_true hi, sel_true, ltI_true (show (i : Int) < 40 by omega), sel_true, idx_some' hx, obind_some, (hfew _).1, obind_some, nt_eq, ha]
      cases few x.2.2.1 <;> rfl) (by unfold P_ref06_Few_L0; dsimp only; rw [min_end (c := 40) rfl, sel_false]) with ⟨i, x, hi, hx, hp, _, h⟩ | ⟨hn0, h⟩
  · rw [h]; exact ⟨false, rfl, fun h => by cases h⟩
  rw [h, obind_some]
  dsimp only
  rw [eqN_zero, sel_true]
  rcases srchTo (f := P_ref06_Few_L1 ((n, (la, (im, (bo, u)))), ())) im 40 (fun i => ((false, (i, ())), ())) (fun _ x => !few x.2.1 || decide (200 < x.2.2.2.1.length) || !fewi x.2.2.2.2.1) (fun i x => (1, ((false, ((i : Int), ())), ()))) (fun n => (0, ((false, ((n : Int), ())), ()))) (by omega) (fun i x hx hi hi8 ha => by
      unfold P_ref06_Few_L1
      dsimp only
      rw [ltI_len_true hi, sel_true, ltI_true (show (i : Int) < 40 by omega), sel_true, idx_some' hx, obind_some, (hfew _).1, obind_some, obind_some, obind_some, ltI_lit_len (n := 200) (c := 200) rfl, hfewi, obind_some, ha]
      dsimp only
      cases few x.2.1 with
      | false => rfl
      | true =>
        by_cases h2 : 200 < x.2.2.2.1.length
        · simp [h2, sel, nt, obind]
        · cases hq : fewi x.2.2.2.2.1 <;> simp [h2, sel, nt, obind]) (by unfold P_ref06_Few_L1; dsimp only; rw [min_end (c := 40) rfl, sel_false]) with ⟨i, x, hi, hx, hp, _, h⟩ | ⟨hn1, h⟩
  · rw [h]; exact ⟨false, rfl, fun h => by cases h⟩
  rw [h, obind_some]
  dsimp only
  rw [eqN_zero, sel_true]
  rcases srchTo (f := P_ref06_Few_L2 ((n, (la, (im, (bo, u)))), ())) bo 40 (fun i => ((false, (i, ())), ())) (fun _ x => !few x.2.1 || decide (200 < x.2.2.2.2.1.length) || !fewi x.2.2.2.2.2.1) (fun i x => (1, ((false, ((i : Int), ())), ()))) (fun n => (0, ((false, ((n : Int), ())), ()))) (by omega) (fun i x hx hi hi8 ha => by
      unfold P_ref06_Few_L2
      dsimp only
      rw [ltI_len_true hi, sel_true, ltI_true (show (i : Int) < 40 by omega), sel_true, idx_some' hx, obind_some, (hfew _).1, obind_some, obind_some, obind_some, ltI_lit_len (n := 200) (c := 200) rfl, hfewi, obind_some, ha]
      dsimp only
      cases few x.2.1 with
      | false => rfl
      | true =>
        by_cases h2 : 200 < x.2.2.2.2.1.length
        · simp [h2, sel, nt, obind]
        · cases hq : fewi x.2.2.2.2.2.1 <;> simp [h2, sel, nt, obind]) (by unfold P_ref06_Few_L2; dsimp only; rw [min_end (c := 40) rfl, sel_false]) with ⟨i, x, hi, hx, hp, _, h⟩ | ⟨hn2, h⟩
  · rw [h]; exact ⟨false, rfl, fun h => by cases h⟩
  rw [h, obind_some]
  refine ⟨_, rfl, fun hb => ?_⟩
  rw [leI_len_lit (n := 40) (c := 40) rfl, leI_len_lit (n := 40) (c := 40) rfl, leI_len_lit (n := 40) (c := 40) rfl] at hb
  have h1 : la.length ≤ 40 := by
    by_cases q : la.length ≤ 40
    · exact q
    · rw [decide_eq_false q] at hb; cases hb
  have h2 : im.length ≤ 40 := by
    by_cases q : im.length ≤ 40
    · exact q
    · rw [decide_eq_true h1, decide_eq_false q] at hb; cases hb
  have h3 : bo.length ≤ 40 := by
    by_cases q : bo.length ≤ 40
    · exact q
    · rw [decide_eq_true h1, decide_eq_true h2, decide_eq_false q] at hb; cases hb
  refine ⟨h1, fun x hx => ?_, h2, fun x hx => ?_, h3, fun x hx => ?_⟩
  · dsimp only at hx
    obtain ⟨i, hi⟩ := mem_at.1 hx
    have := hn0 i x (by have := getElem?_lt hi; omega) hi
    exact (hfew _).2 (by simpa using this)
  · dsimp only at hx
    obtain ⟨i, hi⟩ := mem_at.1 hx
    have := hn1 i x (by have := getElem?_lt hi; omega) hi
    simp only [Bool.or_eq_false_iff, Bool.not_eq_false'] at this
    exact (hfew _).2 this.1.1
  · dsimp only at hx
    obtain ⟨i, hi⟩ := mem_at.1 hx
    have := hn2 i x (by have := getElem?_lt hi; omega) hi
    simp only [Bool.or_eq_false_iff, Bool.not_eq_false'] at this
    exact (hfew _).2 this.1.1

def ofL (x : LayerT) : List Nm := if x.2.2.2.2.2.2.1 = true then [(x.1, (x.2.2.1, ()))] else []
def ofI (x : ImageT) : List Nm := [(x.1, (x.2.1, ()))]
def ofB (x : BoxT) : List Nm := [(x.1, (x.2.1, ()))]
def ofV (kind : Int) (b : BaseT) : List Nm := if kind = 1 then b.2.2.2.1.flatMap ofB else if kind = 2 then b.2.2.1.flatMap ofI else if kind = 3 then b.2.1.flatMap ofL else []

theorem flatMap_len {α β : Type} {g : α → List β} (hg : ∀ x, (g x).length ≤ 1) (l : List α) : (l.flatMap g).length ≤ l.length := by
  induction l with
  | nil => simp
  | cons a r ih => rw [List.flatMap_cons, List.length_append, List.length_cons]; have := hg a; omega
theorem flatMap_take_len {α β : Type} {g : α → List β} (hg : ∀ x, (g x).length ≤ 1) (l : List α) (i : Nat) : ((l.take i).flatMap g).length ≤ l.length := by
  have := flatMap_len hg (l.take i)
  rw [List.length_take] at this
  omega
theorem ofL_len (x : LayerT) : (ofL x).length ≤ 1 := by unfold ofL; split <;> simp
theorem ofI_len (x : ImageT) : (ofI x).length ≤ 1 := by simp [ofI]
theorem ofB_len (x : BoxT) : (ofB x).length ≤ 1 := by simp [ofB]

theorem fits_more {α : Type} {s : List α} {x : α} (h : s.length ≤ 1000) : fits (plus (len s) (len [x])) = true := fits_len2 (by simp; omega)

theorem names_of_val (kind : Int) (b : BaseT) (hb : FewB b) : P_names_Of (kind, (b, ())) = some (ofV kind b, ()) := by
  unfold P_names_Of ofV
  dsimp only
  by_cases h1 : kind = 1
  · rw [if_pos h1, eqI_true h1, sel_true]
    have := fold_app (f := P_names_Of_L0 (kind, (b, ()))) b.2.2.2.1 (fun s i => ((i, ()), ((), (s, ())))) ofB ((len b.2.2.2.1, ()), ((), (b.2.2.2.1.flatMap ofB, ()))) (by have := hb.bl; omega) (fun i x hx hi ha => by
        unfold P_names_Of_L0
        dsimp only
        have hf := flatMap_take_len ofB_len b.2.2.2.1 i
        rw [ltI_len_true hi, sel_true, idx_some' hx, obind_some, clone_strs _ (hb.bn x (mem_at.2 ⟨i, hx⟩)).small, obind_some, fits_more (by have := hb.bl; omega), sel_true, ha]
        rfl) (by unfold P_names_Of_L0; dsimp only; rw [ltI_len_end, sel_false]; rfl)
    rw [this, obind_some, obind_some]
  · rw [if_neg h1, eqI_false h1, sel_false]
    by_cases h2 : kind = 2
    · rw [if_pos h2, eqI_true h2, sel_true]
      have := fold_app (f := P_names_Of_L1 (kind, (b, ()))) b.2.2.1 (fun s i => ((i, ()), ((), (s, ())))) ofI ((len b.2.2.1, ()), ((), (b.2.2.1.flatMap ofI, ()))) (by have := hb.il; omega) (fun i x hx hi ha => by
          unfold P_names_Of_L1
          dsimp only
          have hf := flatMap_take_len ofI_len b.2.2.1 i
          rw [ltI_len_true hi, sel_true, idx_some' hx, obind_some, clone_strs _ (hb.inn x (mem_at.2 ⟨i, hx⟩)).small, obind_some, fits_more (by have := hb.il; omega), sel_true, ha]
          rfl) (by unfold P_names_Of_L1; dsimp only; rw [ltI_len_end, sel_false]; rfl)
      rw [this, obind_some, obind_some, obind_some]
    · rw [if_neg h2, eqI_false h2, sel_false]
      by_cases h3 : kind = 3
      · rw [if_pos h3, eqI_true h3, sel_true]
        have := fold_app (f := P_names_Of_L2 (kind, (b, ()))) b.2.1 (fun s i => ((i, ()), ((), (s, ())))) ofL ((len b.2.1, ()), ((), (b.2.1.flatMap ofL, ()))) (by have := hb.ll; omega) (fun i x hx hi ha => by
            unfold P_names_Of_L2
            dsimp only
            have hf := flatMap_take_len ofL_len b.2.1 i
            rw [ltI_len_true hi, sel_true, idx_some' hx, obind_some, clone_strs _ (hb.ln x (mem_at.2 ⟨i, hx⟩)).small, obind_some, fits_more (by have := hb.ll; omega), sel_true, ha]
            unfold ofL
            cases x.2.2.2.2.2.2.1 with
            | false => simp [sel, obind, way1]
            | true => rfl) (by unfold P_names_Of_L2; dsimp only; rw [ltI_len_end, sel_false]; rfl)
        rw [this, obind_some, obind_some, obind_some, obind_some]
      · rw [if_neg h3, eqI_false h3, sel_false]; rfl

theorem ref_of_val (kind : Int) (b : BaseT) (hb : FewB b) : P_ref17_Of (kind, (b, ())) = some (ofV kind b, ()) := by
  unfold P_ref17_Of ofV
  dsimp only
  by_cases h1 : kind = 1
  · rw [if_pos h1, eqI_true h1, sel_true]
    have := fold_app (f := P_ref17_Of_L0 (kind, (b, ()))) b.2.2.2.1 (fun s i => (((), (i, ())), (s, ()))) ofB (((), (len b.2.2.2.1, ())), (b.2.2.2.1.flatMap ofB, ())) (by have := hb.bl; omega) (fun i x hx hi ha => by
        unfold P_ref17_Of_L0
        dsimp only
        have hf := flatMap_take_len ofB_len b.2.2.2.1 i
        rw [ltI_len_true hi, sel_true, idx_some' hx, obind_some, obind_some, fits_more (by have := hb.bl; omega), sel_true, ha]
        rfl) (by unfold P_ref17_Of_L0; dsimp only; rw [ltI_len_end, sel_false]; rfl)
    rw [this, obind_some, obind_some]
  · rw [if_neg h1, eqI_false h1, sel_false]
    by_cases h2 : kind = 2
    · rw [if_pos h2, eqI_true h2, sel_true]
      have := fold_app (f := P_ref17_Of_L1 (kind, (b, ()))) b.2.2.1 (fun s i => (((), (i, ())), (s, ()))) ofI (((), (len b.2.2.1, ())), (b.2.2.1.flatMap ofI, ())) (by have := hb.il; omega) (fun i x hx hi ha => by
          unfold P_ref17_Of_L1
          dsimp only
          have hf := flatMap_take_len ofI_len b.2.2.1 i
          rw [ltI_len_true hi, sel_true, idx_some' hx, obind_some, obind_some, fits_more (by have := hb.il; omega), sel_true, ha]
          rfl) (by unfold P_ref17_Of_L1; dsimp only; rw [ltI_len_end, sel_false]; rfl)
      rw [this, obind_some, obind_some, obind_some]
    · rw [if_neg h2, eqI_false h2, sel_false]
      by_cases h3 : kind = 3
      · rw [if_pos h3, eqI_true h3, sel_true]
        have := fold_app (f := P_ref17_Of_L2 (kind, (b, ()))) b.2.1 (fun s i => (((), (i, ())), (s, ()))) ofL (((), (len b.2.1, ())), (b.2.1.flatMap ofL, ())) (by have := hb.ll; omega) (fun i x hx hi ha => by
            unfold P_ref17_Of_L2
            dsimp only
            have hf := flatMap_take_len ofL_len b.2.1 i
            rw [ltI_len_true hi, sel_true, idx_some' hx, obind_some, obind_some, obind_some, fits_more (by have := hb.ll; omega), sel_true, ha]
            unfold ofL
            cases x.2.2.2.2.2.2.1 with
            | false => simp [sel, obind, way1]
            | true => rfl) (by unfold P_ref17_Of_L2; dsimp only; rw [ltI_len_end, sel_false]; rfl)
        rw [this, obind_some, obind_some, obind_some, obind_some]
      · rw [if_neg h3, eqI_false h3, sel_false]; rfl

theorem ofV_small (kind : Int) (b : BaseT) (hb : FewB b) : Small (ofV kind b) := by
  unfold ofV
  split
  · refine ⟨by have := flatMap_len ofB_len b.2.2.2.1; have := hb.bl; omega, fun x hx => ?_⟩
    rw [List.mem_flatMap] at hx
    obtain ⟨y, hy, hx⟩ := hx
    simp only [ofB, List.mem_singleton] at hx
    subst hx
    exact (hb.bn y hy).small
  · split
    · refine ⟨by have := flatMap_len ofI_len b.2.2.1; have := hb.il; omega, fun x hx => ?_⟩
      rw [List.mem_flatMap] at hx
      obtain ⟨y, hy, hx⟩ := hx
      simp only [ofI, List.mem_singleton] at hx
      subst hx
      exact (hb.inn y hy).small
    · split
      · refine ⟨by have := flatMap_len ofL_len b.2.1; have := hb.ll; omega, fun x hx => ?_⟩
        rw [List.mem_flatMap] at hx
        obtain ⟨y, hy, hx⟩ := hx
        unfold ofL at hx
        split at hx
        · simp only [List.mem_singleton] at hx
          subst hx
          exact (hb.ln y hy).small
        · cases hx
      · exact ⟨by simp, fun x hx => by cases hx⟩

theorem namesOf_val (kind : Int) (b : BaseT) : P_law17_NamesOf (kind, (b, ())) = some (true, ()) := by
  unfold P_law17_NamesOf
  dsimp only
  obtain ⟨c, h1, hc⟩ := few6_val b
  rw [h1, obind_some, awake17, obind_some]
  dsimp only
  cases c with
  | false => rfl
  | true =>
    have hb := hc rfl
    rw [nt_true, sel_false, names_of_val kind b hb, obind_some, ref_of_val kind b hb, obind_some, same_val _ _ (ofV_small kind b hb), obind_some, decide_eq_true rfl]
    rfl
end Go.Ge
