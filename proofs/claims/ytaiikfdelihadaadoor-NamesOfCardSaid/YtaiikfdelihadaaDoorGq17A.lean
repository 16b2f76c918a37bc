/- Records' names in plain words: who has one, where an id stands, whether names may be. -/
import Derived.Test.YtaiikfdelihadaaDoorGqD
import Derived.Test.YtaiikfdelihadaaDoorGp17
namespace Go.Ge
set_option linter.unusedVariables false
set_option linter.unusedSimpArgs false

abbrev Tx := List UInt8
abbrev Nm := Tx × List Tx × Unit

theorem ref17_has_val (l : List Tx) (s : Tx) (hl : l.length ≤ 4294967296) : P_ref17_has (l, (s, ())) = some (decide (s ∈ l), ()) := by
  unfold P_ref17_has
  rcases srch (f := P_ref17_has_L0 (l, (s, ()))) l (fun i => ((false, (i, ())), ())) (fun _ x => decide (x = s)) (fun i x => (1, ((true, ((i : Int), ())), ()))) (0, ((false, (len l, ())), ())) hl (fun i x hx hi ha => by
      unfold P_ref17_has_L0
      dsimp only
      rw [ltI_len_true hi, sel_true, idx_some' hx, obind_some, sel_if, ha]
      by_cases h : x = s <;> simp [eqS, h]) (by unfold P_ref17_has_L0; dsimp only; rw [ltI_len_end, sel_false]; rfl) with ⟨i, x, hx, hp, hj, h⟩ | ⟨hn, h⟩
  · rw [h, obind_some]
    have : s ∈ l := by rw [← of_decide_eq_true hp]; exact mem_at.2 ⟨i, hx⟩
    rw [decide_eq_true this]; rfl
  · rw [h, obind_some]
    have : s ∉ l := fun hs => by
      obtain ⟨i, hi⟩ := mem_at.1 hs
      have := hn i s hi
      simp at this
    simp [this, eqN, sel]

/-- Where an id stands first; -1: nowhere. -/
def findI (l : List Nm) (id : Tx) : Int := match l.findIdx? (fun x => decide (x.1 = id)) with | some i => (i : Int) | none => -1

theorem findI_at {l : List Nm} {id : Tx} {i : Nat} {x : Nm} (hx : l[i]? = some x) (hp : x.1 = id) (hj : ∀ j y, j < i → l[j]? = some y → decide (y.1 = id) = false) : findI l id = i := by
  unfold findI
  have : l.findIdx? (fun x => decide (x.1 = id)) = some i := by
    rw [List.findIdx?_eq_some_iff_getElem]
    obtain ⟨hi, rfl⟩ := List.getElem?_eq_some_iff.1 hx
    exact ⟨hi, by simp [hp], fun j hji => by have := hj j l[j] hji (List.getElem?_eq_getElem (by omega)); simpa using this⟩
  rw [this]
theorem findI_none {l : List Nm} {id : Tx} (hn : ∀ (i : Nat) (x : Nm), l[i]? = some x → decide (x.1 = id) = false) : findI l id = -1 := by
  unfold findI
  have : l.findIdx? (fun x => decide (x.1 = id)) = none := by
    rw [List.findIdx?_eq_none_iff]
    intro x hx
    obtain ⟨i, hi⟩ := mem_at.1 hx
    exact hn i x hi
  rw [this]

theorem ref17_find_val (l : List Nm) (id : Tx) (hl : l.length ≤ 4294967296) : P_ref17_find (l, (id, ())) = some (findI l id, ()) := by
  unfold P_ref17_find
  rcases srch (f := P_ref17_find_L0 (l, (id, ()))) l (fun i => (((0 : Int), (i, ())), ())) (fun _ x => decide (x.1 = id)) (fun i x => (1, (((i : Int), ((i : Int), ())), ()))) (0, (((0 : Int), (len l, ())), ())) hl (fun i x hx hi ha => by
      unfold P_ref17_find_L0
      dsimp only
      rw [ltI_len_true hi, sel_true, idx_some' hx, obind_some, sel_if, ha]
      by_cases h : x.1 = id <;> simp [eqS, h]) (by unfold P_ref17_find_L0; dsimp only; rw [ltI_len_end, sel_false]; rfl) with ⟨i, x, hx, hp, hj, h⟩ | ⟨hn, h⟩
  · rw [h, obind_some, findI_at hx (of_decide_eq_true hp) hj]; rfl
  · rw [h, obind_some, findI_none hn]; rfl

theorem names_find_val (l : List Nm) (id : Tx) (hl : l.length ≤ 4294967296) : P_names_find (l, (id, ())) = some (findI l id, ()) := by
  unfold P_names_find
  rcases srch (f := P_names_find_L0 (l, (id, ()))) l (fun i => (((0 : Int), (i, ())), (id, ()))) (fun _ x => decide (x.1 = id)) (fun i x => (1, (((i : Int), ((i : Int), ())), (id, ())))) (0, (((0 : Int), (len l, ())), (id, ()))) hl (fun i x hx hi ha => by
      unfold P_names_find_L0
      dsimp only
      rw [ltI_len_true hi, sel_true, idx_some' hx, obind_some, sel_if, ha]
      by_cases h : x.1 = id <;> simp [eqS, h]) (by unfold P_names_find_L0; dsimp only; rw [ltI_len_end, sel_false]; rfl) with ⟨i, x, hx, hp, hj, h⟩ | ⟨hn, h⟩
  · rw [h, obind_some, findI_at hx (of_decide_eq_true hp) hj]; rfl
  · rw [h, obind_some, findI_none hn]; rfl

theorem contains_val (l : List Tx) (s : Tx) (hl : l.length ≤ 4294967296) : P_slices_Contains_string_string (l, (s, ())) = some (decide (s ∈ l), ()) := by
  unfold P_slices_Contains_string_string P_slices_Index_string_string
  dsimp only
  rcases srch (f := P_slices_Index_string_string_L0 (l, (s, ()))) l (fun i => (((0 : Int), (i, ())), ())) (fun _ x => decide (x = s)) (fun i x => (1, (((i : Int), ((i : Int), ())), ()))) (0, (((0 : Int), (len l, ())), ())) hl (fun i x hx hi ha => by
      unfold P_slices_Index_string_string_L0
      dsimp only
      rw [ltI_len_true hi, sel_true, idx_some' hx, obind_some, sel_if, ha]
      by_cases h : x = s
      · simp [eqS, h]
      · have h' : ¬ s = x := fun e => h e.symm
        simp [eqS, h, h']) (by unfold P_slices_Index_string_string_L0; dsimp only; rw [ltI_len_end, sel_false]; rfl) with ⟨i, x, hx, hp, hj, h⟩ | ⟨hn, h⟩
  · rw [h, obind_some]
    have : s ∈ l := by rw [← of_decide_eq_true hp]; exact mem_at.2 ⟨i, hx⟩
    rw [decide_eq_true this]
    show some (leI 0 (i : Int), ()) = _
    rw [leI_true (by omega)]
  · rw [h, obind_some]
    have : s ∉ l := fun hs => by
      obtain ⟨i, hi⟩ := mem_at.1 hs
      have := hn i s hi
      simp at this
    simp [this, eqN, sel, obind, leI]

/-- Whose a name is. -/
def ownerI (l : List Nm) (s : Tx) : Tx × Bool × Unit := match l.find? (fun x => decide (s ∈ x.2.1)) with | some x => (x.1, (true, ())) | none => ([], (false, ()))

theorem ownerI_at {l : List Nm} {s : Tx} {i : Nat} {x : Nm} (hx : l[i]? = some x) (hp : decide (s ∈ x.2.1) = true) (hj : ∀ j y, j < i → l[j]? = some y → decide (s ∈ y.2.1) = false) : ownerI l s = (x.1, (true, ())) := by
  unfold ownerI
  have : l.find? (fun x => decide (s ∈ x.2.1)) = some x := by
    rw [List.find?_eq_some_iff_getElem]
    obtain ⟨hi, rfl⟩ := List.getElem?_eq_some_iff.1 hx
    exact ⟨hp, i, hi, rfl, fun j hji => by have := hj j l[j] hji (List.getElem?_eq_getElem (by omega)); simpa using this⟩
  rw [this]
theorem ownerI_none {l : List Nm} {s : Tx} (hn : ∀ (i : Nat) (x : Nm), l[i]? = some x → decide (s ∈ x.2.1) = false) : ownerI l s = ([], (false, ())) := by
  unfold ownerI
  have : l.find? (fun x => decide (s ∈ x.2.1)) = none := by
    rw [List.find?_eq_none]
    intro x hx
    obtain ⟨i, hi⟩ := mem_at.1 hx
    have := hn i x hi
    simpa using this
  rw [this]

def Small (l : List Nm) : Prop := l.length ≤ 4294967296 ∧ ∀ x ∈ l, x.2.1.length ≤ 4294967296

theorem ref17_owner_val (l : List Nm) (s : Tx) (hl : Small l) : P_ref17_Owner (l, (s, ())) = some (ownerI l s) := by
  unfold P_ref17_Owner
  rcases srch (f := P_ref17_Owner_L0 (l, (s, ()))) l (fun i => ((([] : Tx), (false, (i, ()))), ())) (fun _ x => decide (s ∈ x.2.1)) (fun i x => (1, ((x.1, (true, ((i : Int), ()))), ()))) (0, (([], (false, (len l, ()))), ())) hl.1 (fun i x hx hi ha => by
      unfold P_ref17_Owner_L0
      dsimp only
      rw [ltI_len_true hi, sel_true, idx_some' hx, obind_some, ref17_has_val _ _ (hl.2 x (mem_at.2 ⟨i, hx⟩)), obind_some, sel_if, obind_some, ha]
      by_cases h : s ∈ x.2.1 <;> simp [h]) (by unfold P_ref17_Owner_L0; dsimp only; rw [ltI_len_end, sel_false]; rfl) with ⟨i, x, hx, hp, hj, h⟩ | ⟨hn, h⟩
  · rw [h, obind_some, ownerI_at hx hp hj]; rfl
  · rw [h, obind_some, ownerI_none hn]; rfl

theorem names_owner_val (l : List Nm) (s : Tx) (hl : Small l) : P_names_Owner (l, (s, ())) = some (ownerI l s) := by
  unfold P_names_Owner
  rcases srch (f := P_names_Owner_L0 (l, (s, ()))) l (fun i => ((([] : Tx), (false, (i, ()))), ())) (fun _ x => decide (s ∈ x.2.1)) (fun i x => (1, ((x.1, (true, ((i : Int), ()))), ()))) (0, (([], (false, (len l, ()))), ())) hl.1 (fun i x hx hi ha => by
      unfold P_names_Owner_L0
      dsimp only
      rw [ltI_len_true hi, sel_true, idx_some' hx, obind_some, contains_val _ _ (hl.2 x (mem_at.2 ⟨i, hx⟩)), obind_some, sel_if, ha]
      by_cases h : s ∈ x.2.1 <;> simp [h]) (by unfold P_names_Owner_L0; dsimp only; rw [ltI_len_end, sel_false]; rfl) with ⟨i, x, hx, hp, hj, h⟩ | ⟨hn, h⟩
  · rw [h, obind_some, ownerI_at hx hp hj]; rfl
  · rw [h, obind_some, ownerI_none hn]; rfl
end Go.Ge
