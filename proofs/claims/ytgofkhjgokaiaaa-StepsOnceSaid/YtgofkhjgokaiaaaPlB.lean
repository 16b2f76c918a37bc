/- Plain laws of what the functions compute: part 2. -/
import Derived.Test.YtgofkhjgokaiaaaPlA
/- The document's inodes (ref08): what the functions on a table come to. -/
namespace Go.Ge
set_option linter.unusedSectionVars false
set_option linter.unusedVariables false
set_option linter.unusedSimpArgs false
variable [Lp]

abbrev Ent := List UInt8 × Int × Unit
abbrev Nd := Int × Bool × Int × Int × List UInt8 × List Ent × Unit
abbrev Tb := Int × Int × List Nd × Unit
abbrev Hn := Int × Int × Int × Unit
abbrev Fs := Tb × List Hn × Unit
abbrev Opr := Int × List UInt8 × List UInt8 × Int × Int × Int × List UInt8 × Int × Int × Unit
abbrev Rs := Int × Int × List UInt8 × List (List UInt8) × Unit
abbrev Ac9 := Int × Bool × Opr × Unit
abbrev Dk := Fs × Fs × List Ac9 × Unit
abbrev Pt := List (Int × Int × Unit) × Int × Unit
abbrev Wd := Dk × Pt × Unit

def zN : Nd := (0, false, 0, 0, [], [], ())
def getN (L : List Nd) (id : Int) : Option Nd := L.find? fun x => decide (x.1 = id)

theorem find_first {α : Type} {l : List α} {p : α → Bool} {i : Nat} {x : α} (hx : l[i]? = some x) (hp : p x = true) (hj : ∀ j y, j < i → l[j]? = some y → p y = false) : l.find? p = some x := by
  have hi := getElem?_lt hx
  rw [List.find?_eq_some_iff_getElem]
  refine ⟨hp, i, hi, (List.getElem?_eq_some_iff.1 hx).2, fun j hj' => ?_⟩
  have := hj j _ hj' (List.getElem?_eq_getElem (by omega))
  simp [this]
theorem find_not {α : Type} {l : List α} {p : α → Bool} (h : ∀ (i : Nat) x, l[i]? = some x → p x = false) : l.find? p = none := by
  rw [List.find?_eq_none]
  intro x hx
  obtain ⟨i, hi⟩ := mem_at.1 hx
  simp [h i x hi]

theorem getN_mem {L : List Nd} {id : Int} {x : Nd} (h : getN L id = some x) : x ∈ L ∧ x.1 = id := ⟨List.mem_of_find?_eq_some h, by simpa using List.find?_some h⟩

theorem get_val (t : Tb) (id : Int) (hl : t.2.2.1.length ≤ 4294967296) :
    P_ref08_Table_get ((id, ()), (t, ())) = some ((((getN t.2.2.1 id).getD zN), ((getN t.2.2.1 id).isSome, ())), (t, ())) := by
  unfold P_ref08_Table_get
  rcases srch (f := P_ref08_Table_get_L0 ((id, ()), (t, ()))) t.2.2.1 (fun i => ((false, (i, ())), (zN, ()))) (fun _ x => decide (x.1 = id)) (fun i x => (1, ((true, ((i : Int), ())), (x, ())))) (0, ((false, ((t.2.2.1.length : Int), ())), (zN, ()))) hl
    (fun i x hx hi hadd => by
      unfold P_ref08_Table_get_L0
      dsimp only
      rw [ltI_len, decide_eq_true hi, sel_true, within_true (by omega) (by rw [len_eq]; omega), sel_true, idx_some' hx, obind_some, obind_some, sel_true, hadd]
      by_cases h : x.1 = id
      · rw [eqI_true h]; simp [h, sel]
      · rw [eqI_false h]; simp [h, sel])
    (by unfold P_ref08_Table_get_L0; dsimp only; rw [ltI_len_end]; rfl) with ⟨i, x, hx, hp, hj, h⟩ | ⟨hn, h⟩
  · refine ob h ?_
    have e : getN t.2.2.1 id = some x := find_first hx hp hj
    rw [e]; rfl
  · refine ob h ?_
    have e : getN t.2.2.1 id = none := find_not hn
    rw [e]; rfl

/-- A node in the place of what has its number. -/
def setG (n y : Nd) : List Nd := if y.1 ≠ n.1 then [y] else if 0 < n.2.2.1 ∨ 0 < n.2.2.2.1 then [n] else []
def setN (n : Nd) (L : List Nd) : List Nd := L.flatMap (setG n)
theorem setG_len (n y : Nd) : (setG n y).length ≤ 1 := by
  unfold setG
  by_cases h : y.1 ≠ n.1
  · rw [if_pos h]; simp
  · rw [if_neg h]; split <;> simp
theorem setN_len (n : Nd) (L : List Nd) : (setN n L).length ≤ L.length := by
  induction L with
  | nil => simp [setN]
  | cons y r ih => have := setG_len n y; simp only [setN, List.flatMap_cons, List.length_append, List.length_cons] at ih ⊢; omega

abbrev tset (t : Tb) (n : Nd) : Tb := (t.1, (t.2.1, (setN n t.2.2.1, ())))

theorem set_val (t : Tb) (n : Nd) (hl : t.2.2.1.length ≤ 4294967295) : P_ref08_Table_set ((n, ()), (t, ())) = some ((), (tset t n, ())) := by
  unfold P_ref08_Table_set
  refine ob (fold_app (f := P_ref08_Table_set_L0 ((n, ()), (t, ()))) t.2.2.1 (fun o i => (((), (i, ())), (o, ()))) (setG n) (((), ((t.2.2.1.length : Int), ())), (setN n t.2.2.1, ())) (by omega) (fun i x hx hi hadd => ?_) ?_) rfl
  · have hsl := setN_len n (t.2.2.1.take i)
    rw [List.length_take] at hsl
    unfold P_ref08_Table_set_L0
    dsimp only
    have hf : ∀ (z : Nd), fits (plus (len ((t.2.2.1.take i).flatMap (setG n))) (len [z])) = true := fun z => fits_len2 (by
      have : ((t.2.2.1.take i).flatMap (setG n)).length ≤ min i t.2.2.1.length := hsl
      simp only [List.length_singleton]; omega)
    rw [ltI_len, decide_eq_true hi, sel_true, within_true (by omega) (by rw [len_eq]; omega), sel_true, idx_some' hx, obind_some, hadd]
    simp only [sel_true, obind_some, hf]
    by_cases h : x.1 = n.1
    · rw [eqI_true h, nt_true, sel_false]
      by_cases k : 0 < n.2.2.1
      · rw [ltI_true k]
        simp only [nt_true, sel_false, sel_true, obind_some, way1_inl]
        simp [setG, h, k, app_eq]
      · rw [ltI_false (by omega)]
        by_cases k2 : 0 < n.2.2.2.1
        · rw [ltI_true k2]
          simp only [nt_false, sel_false, sel_true, obind_some, way1_inl]
          simp [setG, h, k, k2, app_eq]
        · rw [ltI_false (by omega)]
          simp only [nt_false, sel_false, sel_true, obind_some, way1_inl]
          simp [setG, h, k, k2, app_eq]
    · rw [eqI_false h, nt_false]
      simp only [sel_true, obind_some, way1_inl]
      simp [setG, h, app_eq]
  · unfold P_ref08_Table_set_L0
    dsimp only
    rw [ltI_len_end]
    rfl

/-- How many bytes are used: some number. -/
theorem used_val (t : Tb) (hl : t.2.2.1.length ≤ 4294967296) : ∃ n, P_ref08_Table_Used (t, ()) = some (n, ()) := by
  unfold P_ref08_Table_Used
  obtain ⟨s, _, h, _⟩ := fold_loop (f := P_ref08_Table_Used_L0 (t, ())) t.2.2.1 (fun s i => ((s, (i, ())), ())) (fun s _ x => iadd .i64 (iadd .i64 s 64) (len x.2.2.2.2.1)) (fun s => ((s, ((t.2.2.1.length : Int), ())), ())) (fun _ _ => True) hl
    (fun s i x hx hi hadd _ => by
      refine ⟨?_, trivial⟩
      unfold P_ref08_Table_Used_L0
      dsimp only
      rw [ltI_len, decide_eq_true hi, sel_true, idx_some' hx, obind_some, hadd, way1_inl])
    (fun s _ => by unfold P_ref08_Table_Used_L0; dsimp only; rw [ltI_len_end]; rfl) (0 : Int) trivial
  exact ⟨s, ob h rfl⟩
end Go.Ge

/- The document's inodes (ref08): what only looks at a table. -/
namespace Go.Ge
set_option linter.unusedSectionVars false
set_option linter.unusedVariables false
set_option linter.unusedSimpArgs false
variable [Lp]

/-- An error that is no pause. -/
def Er (e : Int) : Prop := 0 ≤ e ∧ e ≤ 13

theorem isName_ok (s : List UInt8) (hs : s.length ≤ 4294967296) : ∃ b, P_ref08_isName (s, ()) = some (b, ()) ∧ (b = true → s.length ≤ 32) := by
  unfold P_ref08_isName
  rcases srch (f := P_ref08_isName_L0 (s, ())) s (fun i => ((false, (i, ())), ())) (fun _ c => (eqI (u8 c) 0 || eqI (u8 c) 47)) (fun i _ => (1, ((false, ((i : Int), ())), ()))) (0, ((false, ((s.length : Int), ())), ())) hs
    (fun i c hc hi hadd => by
      unfold P_ref08_isName_L0
      dsimp only
      rw [ltI_len, decide_eq_true hi, sel_true, idx_some' hc, obind_some, obind_some, hadd]
      cases h1 : eqI (u8 c) 0
      · cases h2 : eqI (u8 c) 47 <;> rfl
      · rfl)
    (by unfold P_ref08_isName_L0; dsimp only; rw [ltI_len_end]; rfl) with ⟨i, x, hx, hp, hj, h⟩ | ⟨hn, h⟩
  · exact ⟨false, ob h rfl, fun h => by cases h⟩
  · by_cases hl : s.length ≤ 32
    · exact ⟨_, ob h rfl, fun _ => hl⟩
    · refine ⟨false, ob h ?_, fun h => by cases h⟩
      dsimp only
      have e : leI (len s) 32 = false := by rw [len_eq]; exact leI_false (by omega)
      rw [e]
      cases leI 1 (len s) <;> rfl

def leadsN (d : Nd) (s : List UInt8) : Int := match d.2.2.2.2.2.1.find? fun e => decide (e.1 = s) with | some e => e.2.1 | none => 0

theorem leads_val (d : Nd) (s : List UInt8) (hl : d.2.2.2.2.2.1.length ≤ 4294967296) : P_ref08_leads (d, (s, ())) = some (leadsN d s, ()) := by
  unfold P_ref08_leads
  rcases srch (f := P_ref08_leads_L0 (d, (s, ()))) d.2.2.2.2.2.1 (fun i => ((0, (i, ())), ())) (fun _ e => decide (e.1 = s)) (fun i e => (1, ((e.2.1, ((i : Int), ())), ()))) (0, ((0, ((d.2.2.2.2.2.1.length : Int), ())), ())) hl
    (fun i x hx hi hadd => by
      unfold P_ref08_leads_L0
      dsimp only
      rw [ltI_len, decide_eq_true hi, sel_true, idx_some' hx, obind_some, obind_some, hadd]
      by_cases h : x.1 = s
      · rw [eqS_true h]; simp [h, sel]
      · rw [eqS_false h]; simp [h, sel])
    (by unfold P_ref08_leads_L0; dsimp only; rw [ltI_len_end]; rfl) with ⟨i, x, hx, hp, hj, h⟩ | ⟨hn, h⟩
  · refine ob h ?_
    have e : (d.2.2.2.2.2.1.find? fun e => decide (e.1 = s)) = some x := find_first hx hp hj
    unfold leadsN; rw [e]; rfl
  · refine ob h ?_
    have e : (d.2.2.2.2.2.1.find? fun e => decide (e.1 = s)) = none := find_not hn
    unfold leadsN; rw [e]; rfl

/-- A table is of such a size. -/
structure TLen (t : Tb) : Prop where
  l : t.2.2.1.length ≤ 1000000
  n : ∀ x ∈ t.2.2.1, x.2.2.2.2.2.1.length ≤ 1000000
  d : ∀ x ∈ t.2.2.1, x.2.2.2.2.1.length ≤ 1048576

theorem place_ok (t : Tb) (dir : Int) (s : List UInt8) (ht : TLen t) (hs : s.length ≤ 1000000) : ∃ e, P_ref08_Table_place ((dir, (s, ())), (t, ())) = some ((((getN t.2.2.1 dir).getD zN), (e, ())), (t, ())) ∧ Er e ∧
    (e = 0 → ∃ d, getN t.2.2.1 dir = some d ∧ d.2.1 = true ∧ s.length ≤ 32) := by
  unfold P_ref08_Table_place
  dsimp only
  have hg := get_val t dir (by have := ht.l; omega)
  cases e : getN t.2.2.1 dir with
  | none =>
    rw [e] at hg
    exact ⟨3, ob hg rfl, ⟨by decide, by decide⟩, fun h => by cases h⟩
  | some d =>
    rw [e] at hg
    cases hd : d.2.1 with
    | false =>
      refine ⟨12, ob hg ?_, ⟨by decide, by decide⟩, fun h => by cases h⟩
      dsimp only [Option.isSome, Option.getD]
      rw [hd]; rfl
    | true =>
      obtain ⟨b, hb, hb2⟩ := isName_ok s (by omega)
      cases b with
      | false =>
        refine ⟨1, ob hg ?_, ⟨by decide, by decide⟩, fun h => by cases h⟩
        dsimp only [Option.isSome, Option.getD]
        rw [hd]
        exact ob hb rfl
      | true =>
        refine ⟨0, ob hg ?_, ⟨by decide, by decide⟩, fun h => ⟨d, rfl, hd, hb2 rfl⟩⟩
        dsimp only [Option.isSome, Option.getD]
        rw [hd]
        exact ob hb rfl

theorem Er.eq {e : Int} : eqI e 0 = decide (e = 0) := rfl

theorem find_ok (t : Tb) (dir : Int) (s : List UInt8) (ht : TLen t) (hs : s.length ≤ 1000000) : ∃ id e, P_ref08_Table_Find ((dir, (s, ())), (t, ())) = some ((id, (e, ())), (t, ())) ∧ Er e ∧
    (e = 0 → ∃ d, getN t.2.2.1 dir = some d ∧ d.2.1 = true ∧ s.length ≤ 32 ∧ leadsN d s = id) := by
  unfold P_ref08_Table_Find
  dsimp only
  obtain ⟨e, h1, h2, h3⟩ := place_ok t dir s ht hs
  by_cases he : e = 0
  · subst he
    obtain ⟨d, hd, hdir, hsl⟩ := h3 rfl
    rw [hd] at h1
    have hld := leads_val d s (by have := ht.n d (getN_mem hd).1; omega)
    by_cases h0 : leadsN d s = 0
    · refine ⟨0, 3, ob h1 ?_, ⟨by decide, by decide⟩, fun h => by cases h⟩
      refine ob hld ?_
      dsimp only
      rw [eqI_true h0]; rfl
    · refine ⟨leadsN d s, 0, ob h1 ?_, ⟨by decide, by decide⟩, fun _ => ⟨d, hd, hdir, hsl, rfl⟩⟩
      refine ob hld ?_
      dsimp only
      rw [eqI_false h0]; rfl
  · refine ⟨0, e, ob h1 ?_, h2, fun h => absurd h he⟩
    dsimp only
    rw [eqI_false he]; rfl

theorem file_ok (t : Tb) (id a b : Int) (ht : TLen t) : ∃ e, P_ref08_Table_file ((id, (a, (b, ()))), (t, ())) = some ((((getN t.2.2.1 id).getD zN), (e, ())), (t, ())) ∧ Er e ∧
    (e = 0 → ∃ d, getN t.2.2.1 id = some d ∧ d.2.1 = false ∧ 0 ≤ a ∧ 0 ≤ b) := by
  unfold P_ref08_Table_file
  dsimp only
  have hg := get_val t id (by have := ht.l; omega)
  cases e : getN t.2.2.1 id with
  | none =>
    rw [e] at hg
    exact ⟨3, ob hg rfl, ⟨by decide, by decide⟩, fun h => by cases h⟩
  | some d =>
    rw [e] at hg
    cases hd : d.2.1 with
    | true =>
      refine ⟨12, ob hg ?_, ⟨by decide, by decide⟩, fun h => by cases h⟩
      dsimp only [Option.isSome, Option.getD]
      rw [hd]; rfl
    | false =>
      by_cases ha : a < 0
      · refine ⟨1, ob hg ?_, ⟨by decide, by decide⟩, fun h => by cases h⟩
        dsimp only [Option.isSome, Option.getD]
        rw [hd, ltI_true ha]; rfl
      · by_cases hb : b < 0
        · refine ⟨1, ob hg ?_, ⟨by decide, by decide⟩, fun h => by cases h⟩
          dsimp only [Option.isSome, Option.getD]
          rw [hd, ltI_false (by omega), ltI_true hb]; rfl
        · refine ⟨0, ob hg ?_, ⟨by decide, by decide⟩, fun _ => ⟨d, rfl, hd, by omega, by omega⟩⟩
          dsimp only [Option.isSome, Option.getD]
          rw [hd, ltI_false (by omega), ltI_false (by omega)]; rfl

theorem fits_ok (t : Tb) (x : Nd) (n : Int) (ht : TLen t) : ∃ e, P_ref08_Table_fits ((x, (n, ())), (t, ())) = some ((e, ()), (t, ())) ∧ Er e ∧ (e = 0 → n ≤ 1048576) := by
  unfold P_ref08_Table_fits
  dsimp only
  by_cases hn : 1048576 < n
  · rw [ltI_true hn]
    exact ⟨5, rfl, ⟨by decide, by decide⟩, fun h => by cases h⟩
  · obtain ⟨u, hu⟩ := used_val t (by have := ht.l; omega)
    rw [ltI_false (by omega), sel_false]
    cases hc : ltI (isub .i64 t.1 u) (isub .i64 n (len x.2.2.2.2.1)) with
    | true => exact ⟨6, ob hu (by dsimp only; rw [hc]; rfl), ⟨by decide, by decide⟩, fun h => by cases h⟩
    | false => exact ⟨0, ob hu (by dsimp only; rw [hc]; rfl), ⟨by decide, by decide⟩, fun _ => by omega⟩

/-- Bytes, with noughts behind. -/
def longN (s : List UInt8) (n : Int) : List UInt8 := s ++ List.replicate (n.toNat - s.length) 0

theorem intsBytes_back26 (s : List UInt8) : intsBytes (bytesInts s) = s := by
  simp only [intsBytes, bytesInts, List.map_map]
  refine (List.map_congr_left fun b _ => ?_).trans (List.map_id s)
  show UInt8.ofNat ((b.toNat : Int)).toNat = b
  simp
theorem intsBytes_rep (n : Nat) : intsBytes (List.replicate n 0) = List.replicate n 0 := by simp [intsBytes]

theorem long_val (s : List UInt8) (n : Int) (hs : s.length ≤ 1048576) (hn : n ≤ 1048576) : P_ref08_long (s, (n, ())) = some (longN s n, ()) := by
  unfold P_ref08_long
  dsimp only
  rw [fits_len (by omega), sel_true]
  have hb : (bytesInts s).length = s.length := by simp [bytesInts]
  have key := loop_seq' (f := P_ref08_long_L0 (s, (n, ()))) (r := (((), ()), (bytesInts s ++ List.replicate (n.toNat - s.length) 0, ()))) (fun k => (((), ()), (bytesInts s ++ List.replicate k 0, ()))) (n.toNat - s.length) 0
    (fun i h1 h2 => by
      unfold P_ref08_long_L0
      dsimp only
      have hlen : (bytesInts s ++ List.replicate i (0 : Int)).length = s.length + i := by simp [hb]
      rw [ltI_true (by rw [len_eq, hlen]; omega), sel_true, fits_len2 (by rw [hlen]; simp; omega), sel_true, way1_inl, app_eq, List.append_assoc, ← List.replicate_succ'])
    (by
      unfold P_ref08_long_L0
      dsimp only
      rw [Nat.zero_add]
      have hlen : (bytesInts s ++ List.replicate (n.toNat - s.length) (0 : Int)).length = s.length + (n.toNat - s.length) := by simp [hb]
      rw [ltI_false (by rw [len_eq, hlen]; omega), sel_false, way1_inr])
  have key' : Loop (P_ref08_long_L0 (s, (n, ()))) (((), ()), (bytesInts s, ())) = some (((), ()), (bytesInts s ++ List.replicate (n.toNat - s.length) 0, ())) := by simpa using key
  refine ob key' ?_
  dsimp only
  rw [intsBytes_app, intsBytes_rep, longN]
  congr 2
  congr 1
  exact intsBytes_back26 s
theorem longN_len (s : List UInt8) (n : Int) : (longN s n).length = s.length + (n.toNat - s.length) := by simp [longN]

theorem read_ok (t : Tb) (id at_ n : Int) (ht : TLen t) : ∃ s e, P_ref08_Table_Read ((id, (at_, (n, ()))), (t, ())) = some ((s, (e, ())), (t, ())) ∧ Er e ∧ s.length ≤ 1048576 := by
  unfold P_ref08_Table_Read
  dsimp only
  obtain ⟨e, h1, h2, h3⟩ := file_ok t id at_ n ht
  by_cases he : e = 0
  · subst he
    obtain ⟨d, hd, hdir, ha, hb⟩ := h3 rfl
    rw [hd] at h1
    have hdl := ht.d d (getN_mem hd).1
    by_cases hat : (d.2.2.2.2.1.length : Int) ≤ at_
    · refine ⟨[], 0, ob h1 ?_, ⟨by decide, by decide⟩, Nat.zero_le _⟩
      dsimp only [Option.getD]
      rw [show leI (len d.2.2.2.2.1) at_ = true from leI_true (by rw [len_eq]; exact hat)]; rfl
    · have hsub : isub .i64 (len d.2.2.2.2.1) at_ = (d.2.2.2.2.1.length : Int) - at_ := by rw [len_eq]; exact isub_i64 (by omega) (by omega)
      have hmin : imin n ((d.2.2.2.2.1.length : Int) - at_) = min n ((d.2.2.2.2.1.length : Int) - at_) := by unfold imin; by_cases h : (d.2.2.2.2.1.length : Int) - at_ < n <;> simp [h] <;> omega
      have hadd : iadd .i64 at_ (min n ((d.2.2.2.2.1.length : Int) - at_)) = at_ + min n ((d.2.2.2.2.1.length : Int) - at_) := iadd_i64 (by omega) (by omega)
      refine ⟨sub d.2.2.2.2.1 at_ (minus (at_ + min n ((d.2.2.2.2.1.length : Int) - at_)) at_), 0, ob h1 ?_, ⟨by decide, by decide⟩, ?_⟩
      · dsimp only [Option.getD]
        rw [show leI (len d.2.2.2.2.1) at_ = false from leI_false (by rw [len_eq]; omega), hsub, hmin, hadd]
        rw [show inside at_ (at_ + min n ((d.2.2.2.2.1.length : Int) - at_)) (len d.2.2.2.2.1) = true from inside_true ha (by omega) (by rw [len_eq]; omega)]
        rfl
      · simp only [sub, List.length_take, List.length_drop]; omega
  · refine ⟨[], e, ob h1 ?_, h2, Nat.zero_le _⟩
    dsimp only
    rw [eqI_false he]; rfl

theorem list_ok (t : Tb) (id : Int) (ht : TLen t) : ∃ l e, P_ref08_Table_List ((id, ()), (t, ())) = some ((l, (e, ())), (t, ())) ∧ Er e ∧ l.length ≤ 1000000 := by
  unfold P_ref08_Table_List
  dsimp only
  have hg := get_val t id (by have := ht.l; omega)
  cases e : getN t.2.2.1 id with
  | none =>
    rw [e] at hg
    exact ⟨[], 3, ob hg rfl, ⟨by decide, by decide⟩, Nat.zero_le _⟩
  | some d =>
    rw [e] at hg
    cases hd : d.2.1 with
    | false =>
      refine ⟨[], 12, ob hg ?_, ⟨by decide, by decide⟩, Nat.zero_le _⟩
      dsimp only [Option.isSome, Option.getD]
      rw [hd]; rfl
    | true =>
      have hnl := ht.n d (getN_mem e).1
      have hfl : ∀ m : List Ent, (m.flatMap fun e : Ent => [e.1]).length = m.length := fun m => by induction m with | nil => rfl | cons a r ih => simp [ih]
      have key : Loop (P_ref08_Table_List_L0 ((d, (true, ())), (t, ()))) (((), ((0 : Int), ())), (([] : List (List UInt8)), ())) = some (((), ((d.2.2.2.2.2.1.length : Int), ())), (d.2.2.2.2.2.1.flatMap fun e : Ent => [e.1], ())) :=
        fold_app d.2.2.2.2.2.1 (fun o i => (((), (i, ())), (o, ()))) (fun e : Ent => [e.1]) _ (by omega)
          (fun i x hx hi hadd => by
            unfold P_ref08_Table_List_L0
            dsimp only
            rw [ltI_len, decide_eq_true hi, sel_true, idx_some' hx, obind_some, fits_len2 (by rw [hfl, List.length_take]; simp; omega), sel_true, way1_inl, hadd, app_eq])
          (by unfold P_ref08_Table_List_L0; dsimp only; rw [ltI_len_end]; rfl)
      refine ⟨d.2.2.2.2.2.1.flatMap fun e : Ent => [e.1], 0, ob hg ?_, ⟨by decide, by decide⟩, by rw [hfl]; exact hnl⟩
      dsimp only [Option.isSome, Option.getD]
      rw [hd, nt_true, sel_false, sel_false]
      exact ob key rfl
end Go.Ge

/- The document's inodes (ref08): what a table keeps. -/
namespace Go.Ge
set_option linter.unusedSectionVars false
set_option linter.unusedVariables false
set_option linter.unusedSimpArgs false
variable [Lp]

/-- A loop of which something is kept, round by round. -/
theorem loop_ex {σ S R : Type} {f : S → Option (S ⊕ R)} (n : Nat) (st : Nat → σ → S) (Inv : Nat → σ → Prop) (Q : R → Prop)
    (hstep : ∀ i s, i < n → Inv i s → (∃ s', f (st i s) = some (.inl (st (i + 1) s')) ∧ Inv (i + 1) s') ∨ ∃ r, f (st i s) = some (.inr r) ∧ Q r)
    (hfin : ∀ s, Inv n s → ∃ r, f (st n s) = some (.inr r) ∧ Q r) (s0 : σ) (h0 : Inv 0 s0) : ∃ r, Loop f (st 0 s0) = some r ∧ Q r := by
  have key : ∀ d k s, k + d = n → Inv k s → ∃ r, Loop f (st k s) = some r ∧ Q r := by
    intro d
    induction d with
    | zero =>
      intro k s hk h
      obtain rfl : k = n := by omega
      obtain ⟨r, h1, h2⟩ := hfin s h
      exact ⟨r, by rw [Loop_eq, h1]; rfl, h2⟩
    | succ d ih =>
      intro k s hk h
      rcases hstep k s (by omega) h with ⟨s', h1, h2⟩ | ⟨r, h1, h2⟩
      · obtain ⟨r, h3, h4⟩ := ih (k + 1) s' (by omega) h2
        exact ⟨r, by rw [Loop_eq, h1]; exact h3, h4⟩
      · exact ⟨r, by rw [Loop_eq, h1]; rfl, h2⟩
  exact key n 0 s0 (by omega) h0

/-- A directory with other names. -/
def dirW (d : Nd) (m : List Ent) : Nd := (d.1, (d.2.1, (d.2.2.1, (d.2.2.2.1, (d.2.2.2.2.1, (m, ()))))))

theorem with_ok (d : Nd) (e : Ent) (hl : d.2.2.2.2.2.1.length ≤ 1000000) : ∃ k, P_ref08_with (d, (e, ())) = some (dirW d (d.2.2.2.2.2.1.take k ++ [e] ++ d.2.2.2.2.2.1.drop k), ()) := by
  unfold P_ref08_with
  have key : ∃ r : (Int × Unit) × Unit, Loop (P_ref08_with_L0 (d, (e, ()))) (((0 : Int), ()), ()) = some r ∧ ∃ k : Nat, k ≤ d.2.2.2.2.2.1.length ∧ r = (((k : Int), ()), ()) :=
    loop_ex (σ := Unit) d.2.2.2.2.2.1.length (fun i _ => (((i : Int), ()), ())) (fun _ _ => True) (fun r => ∃ k : Nat, k ≤ d.2.2.2.2.2.1.length ∧ r = (((k : Int), ()), ()))
      (fun i _ hi _ => by
        unfold P_ref08_with_L0
        dsimp only
        rw [ltI_len, decide_eq_true hi, sel_true, idx_some' (List.getElem?_eq_getElem hi), obind_some, iadd_one (by omega)]
        cases ltS (d.2.2.2.2.2.1[i]).1 e.1 with
        | true => exact .inl ⟨(), rfl, trivial⟩
        | false => exact .inr ⟨_, rfl, i, by omega, rfl⟩)
      (fun _ _ => ⟨_, by unfold P_ref08_with_L0; dsimp only; rw [ltI_len_end]; rfl, _, Nat.le_refl _, rfl⟩) () trivial
  obtain ⟨r, h1, k, hk, rfl⟩ := key
  refine ⟨k, ob h1 ?_⟩
  dsimp only
  have e1 : sub d.2.2.2.2.2.1 0 (minus (k : Int) 0) = d.2.2.2.2.2.1.take k := sub_take _ _
  have e2 : sub d.2.2.2.2.2.1 (k : Int) (minus (len d.2.2.2.2.2.1) (k : Int)) = d.2.2.2.2.2.1.drop k := sub_drop _ _ hk
  rw [show inside 0 (k : Int) (len d.2.2.2.2.2.1) = true from inside_true (by omega) (by omega) (by rw [len_eq]; omega), sel_true, e1, e2,
    fits_len2 (by simp; omega), sel_true, fits_len2 (by simp [app_eq]; omega), sel_true, show inside (k : Int) (len d.2.2.2.2.2.1) (len d.2.2.2.2.2.1) = true from inside_true (by omega) (by rw [len_eq]; omega) (Int.le_refl _), sel_true,
    fits_len2 (by simp [app_eq]; omega), sel_true]
  rfl

def keepE (s : List UInt8) (e : Ent) : List Ent := if e.1 ≠ s then [e] else []
theorem keepE_len (s : List UInt8) (l : List Ent) : (l.flatMap (keepE s)).length ≤ l.length := by
  induction l with
  | nil => simp
  | cons a r ih =>
    have : (keepE s a).length ≤ 1 := by unfold keepE; split <;> simp
    simp only [List.flatMap_cons, List.length_append, List.length_cons]; omega
theorem keepE_mem {s : List UInt8} {l : List Ent} {e : Ent} (h : e ∈ l.flatMap (keepE s)) : e ∈ l := by
  obtain ⟨a, h1, h2⟩ := List.mem_flatMap.1 h
  unfold keepE at h2
  split at h2
  · rw [List.mem_singleton.1 h2]; exact h1
  · cases h2

theorem without_val (d : Nd) (s : List UInt8) (hl : d.2.2.2.2.2.1.length ≤ 1000000) : P_ref08_without (d, (s, ())) = some (dirW d (d.2.2.2.2.2.1.flatMap (keepE s)), ()) := by
  unfold P_ref08_without
  refine ob (fold_app (f := P_ref08_without_L0 (d, (s, ()))) d.2.2.2.2.2.1 (fun o i => (((), (i, ())), (o, ()))) (keepE s) (((), ((d.2.2.2.2.2.1.length : Int), ())), (d.2.2.2.2.2.1.flatMap (keepE s), ())) (by omega) (fun i x hx hi hadd => ?_) ?_) rfl
  · unfold P_ref08_without_L0
    dsimp only
    have hk := keepE_len s (d.2.2.2.2.2.1.take i)
    rw [List.length_take] at hk
    rw [ltI_len, decide_eq_true hi, sel_true, idx_some' hx, obind_some, obind_some, hadd]
    by_cases h : x.1 = s
    · rw [eqS_true h, nt_true, sel_false, obind_some, way1_inl]; simp [keepE, h]
    · rw [eqS_false h, nt_false, sel_true, fits_len2 (by simp only [List.length_singleton]; omega), sel_true, obind_some, way1_inl]; simp [keepE, h, app_eq]
  · unfold P_ref08_without_L0
    dsimp only
    rw [ltI_len_end]; rfl

/-- How many names there are. -/
def nms : List Nd → Nat
  | [] => 0
  | x :: r => x.2.2.2.2.2.1.length + nms r

theorem nms_app (a b : List Nd) : nms (a ++ b) = nms a + nms b := by
  induction a with
  | nil => simp [nms]
  | cons x r ih => simp only [List.cons_append, nms, ih]; omega
theorem nms_mem {L : List Nd} {x : Nd} (h : x ∈ L) : x.2.2.2.2.2.1.length ≤ nms L := by
  induction L with
  | nil => cases h
  | cons y r ih =>
    rcases List.mem_cons.1 h with rfl | h
    · simp only [nms]; omega
    · have := ih h; simp only [nms]; omega

/-- Ids differ. -/
def Uq (L : List Nd) : Prop := L.Pairwise fun a b => a.1 ≠ b.1
theorem Uq.eq {L : List Nd} (h : Uq L) : ∀ {x y : Nd}, x ∈ L → y ∈ L → x.1 = y.1 → x = y := by
  induction L with
  | nil => intro x y hx; cases hx
  | cons a r ih =>
    intro x y hx hy e
    obtain ⟨h1, h2⟩ := List.pairwise_cons.1 h
    rcases List.mem_cons.1 hx with hx1 | hx1 <;> rcases List.mem_cons.1 hy with hy1 | hy1
    · rw [hx1, hy1]
    · exact absurd (by rw [← hx1]; exact e) (h1 y hy1)
    · exact absurd (by rw [← hy1]; exact e.symm) (h1 x hx1)
    · exact ih h2 hx1 hy1 e

theorem setN_mem {n y : Nd} {L : List Nd} (h : y ∈ setN n L) : (y ∈ L ∧ y.1 ≠ n.1) ∨ (y = n ∧ ∃ z ∈ L, z.1 = n.1) := by
  obtain ⟨z, hz, hy⟩ := List.mem_flatMap.1 h
  unfold setG at hy
  by_cases e : z.1 ≠ n.1
  · rw [if_pos e] at hy
    rw [List.mem_singleton.1 hy]; exact .inl ⟨hz, e⟩
  · rw [if_neg e] at hy
    split at hy
    · exact .inr ⟨List.mem_singleton.1 hy, z, hz, by simpa using e⟩
    · cases hy

theorem setN_not {n : Nd} {L : List Nd} (h : ∀ z ∈ L, z.1 ≠ n.1) : setN n L = L := by
  induction L with
  | nil => rfl
  | cons y r ih =>
    have h1 : setG n y = [y] := by unfold setG; rw [if_pos (h y (List.mem_cons_self ..))]
    have := ih fun z hz => h z (List.mem_cons_of_mem _ hz)
    unfold setN at this ⊢
    rw [List.flatMap_cons, h1, this]; rfl

theorem setN_uq {n : Nd} {L : List Nd} (h : Uq L) : Uq (setN n L) := by
  induction L with
  | nil => exact .nil
  | cons y r ih =>
    obtain ⟨h1, h2⟩ := List.pairwise_cons.1 h
    have h3 := ih h2
    have e : setN n (y :: r) = setG n y ++ setN n r := rfl
    rw [e]
    refine List.pairwise_append.2 ⟨?_, h3, ?_⟩
    · unfold setG
      by_cases k : y.1 ≠ n.1
      · rw [if_pos k]; exact List.pairwise_singleton _ _
      · rw [if_neg k]; split
        · exact List.pairwise_singleton _ _
        · exact .nil
    · intro a ha b hb
      have ha1 : a.1 = y.1 := by
        unfold setG at ha
        by_cases k : y.1 ≠ n.1
        · rw [if_pos k] at ha; rw [List.mem_singleton.1 ha]
        · rw [if_neg k] at ha
          split at ha
          · rw [List.mem_singleton.1 ha]; simpa using (by simpa using k : y.1 = n.1).symm
          · cases ha
      rw [ha1]
      rcases setN_mem hb with ⟨hb, _⟩ | ⟨rfl, z, hz, hz1⟩
      · exact h1 b hb
      · rw [← hz1]; exact h1 z hz

theorem setN_nms {n : Nd} {L : List Nd} (h : Uq L) {a : Nat} (hs : ∀ z ∈ L, z.1 = n.1 → n.2.2.2.2.2.1.length ≤ z.2.2.2.2.2.1.length + a) : nms (setN n L) ≤ nms L + a := by
  induction L with
  | nil => exact Nat.zero_le _
  | cons y r ih =>
    obtain ⟨h1, h2⟩ := List.pairwise_cons.1 h
    have e : setN n (y :: r) = setG n y ++ setN n r := rfl
    rw [e, nms_app]
    by_cases k : y.1 ≠ n.1
    · have := ih h2 fun z hz => hs z (List.mem_cons_of_mem _ hz)
      have h3 : setG n y = [y] := by unfold setG; rw [if_pos k]
      rw [h3]; simp only [nms]; omega
    · have k' : y.1 = n.1 := by simpa using k
      rw [setN_not (L := r) fun z hz => fun q => h1 z hz (by rw [k', q])]
      have h4 := hs y (List.mem_cons_self ..) k'
      have h3 : nms (setG n y) ≤ n.2.2.2.2.2.1.length := by
        unfold setG; rw [if_neg k]; split <;> simp [nms]
      simp only [nms]; omega

/-- What a table keeps. -/
structure TOk (k s : Nat) (t : Tb) : Prop where
  l : t.2.2.1.length ≤ k + 1
  s : nms t.2.2.1 ≤ s
  d : ∀ x ∈ t.2.2.1, x.2.2.2.2.1.length ≤ 1048576
  nm : ∀ x ∈ t.2.2.1, ∀ e ∈ x.2.2.2.2.2.1, e.1.length ≤ 32
  ids : ∀ x ∈ t.2.2.1, x.1 < t.2.1
  nx : 1 ≤ t.2.1 ∧ t.2.1 ≤ k + 2
  pos : ∀ x ∈ t.2.2.1, 1 ≤ x.1
  un : Uq t.2.2.1
  fl : ∀ x ∈ t.2.2.1, x.2.1 = false → x.2.2.2.2.2.1 = []
  ac : ∀ x ∈ t.2.2.1, ∀ e ∈ x.2.2.2.2.2.1, ∀ y ∈ t.2.2.1, y.1 = e.2.1 → y.2.1 = true → x.1 < y.1

theorem TOk.mono {k s k' s' : Nat} {t : Tb} (h : TOk k s t) (hk : k ≤ k') (hs : s ≤ s') : TOk k' s' t :=
  ⟨by have := h.l; omega, by have := h.s; omega, h.d, h.nm, h.ids, ⟨h.nx.1, by have := h.nx.2; omega⟩, h.pos, h.un, h.fl, h.ac⟩

theorem TOk.len {k s : Nat} {t : Tb} (h : TOk k s t) (hk : k ≤ 1000) (hs : s ≤ 1000) : TLen t :=
  ⟨by have := h.l; omega, fun x hx => by have := nms_mem hx; have := h.s; omega, h.d⟩

theorem TOk.set {k s a : Nat} {t : Tb} (h : TOk k s t) (n : Nd) (hd : n.2.2.2.2.1.length ≤ 1048576) (hnm : ∀ e ∈ n.2.2.2.2.2.1, e.1.length ≤ 32) (hf : n.2.1 = false → n.2.2.2.2.2.1 = [])
    (hdir : ∀ z ∈ t.2.2.1, z.1 = n.1 → z.2.1 = n.2.1) (hac : ∀ e ∈ n.2.2.2.2.2.1, ∀ y ∈ t.2.2.1, y.1 = e.2.1 → y.2.1 = true → n.1 < y.1)
    (hs : ∀ z ∈ t.2.2.1, z.1 = n.1 → n.2.2.2.2.2.1.length ≤ z.2.2.2.2.2.1.length + a) : TOk k (s + a) (tset t n) where
  l := Nat.le_trans (setN_len _ _) h.l
  s := Nat.le_trans (setN_nms h.un hs) (by have := h.s; omega)
  d := fun x hx => by rcases setN_mem hx with ⟨hx, _⟩ | ⟨rfl, _⟩ <;> first | exact h.d x hx | exact hd
  nm := fun x hx => by rcases setN_mem hx with ⟨hx, _⟩ | ⟨rfl, _⟩ <;> first | exact h.nm x hx | exact hnm
  ids := fun x hx => by
    rcases setN_mem hx with ⟨hx, _⟩ | ⟨rfl, z, hz, e⟩
    · exact h.ids x hx
    · rw [← e]; exact h.ids z hz
  nx := h.nx
  pos := fun x hx => by
    rcases setN_mem hx with ⟨hx, _⟩ | ⟨rfl, z, hz, e⟩
    · exact h.pos x hx
    · rw [← e]; exact h.pos z hz
  un := setN_uq h.un
  fl := fun x hx => by rcases setN_mem hx with ⟨hx, _⟩ | ⟨rfl, _⟩ <;> first | exact h.fl x hx | exact hf
  ac := fun x hx e he y hy h1 h2 => by
    have hy' : ∃ z ∈ t.2.2.1, z.1 = y.1 ∧ z.2.1 = y.2.1 := by
      rcases setN_mem hy with ⟨hy, _⟩ | ⟨rfl, z, hz, q⟩
      · exact ⟨y, hy, rfl, rfl⟩
      · exact ⟨z, hz, q, hdir z hz q⟩
    obtain ⟨z, hz, z1, z2⟩ := hy'
    rw [← z1]
    rcases setN_mem hx with ⟨hx, _⟩ | ⟨rfl, _⟩
    · exact h.ac x hx e he z hz (by rw [z1, h1]) (by rw [z2, h2])
    · exact hac e he z hz (by rw [z1, h1]) (by rw [z2, h2])

/-- A node that there is not changes nothing. -/
theorem TOk.zero {k s : Nat} {t : Tb} (h : TOk k s t) (n : Nd) (hn : n.1 = 0) : setN n t.2.2.1 = t.2.2.1 := setN_not fun z hz e => by have := h.pos z hz; omega

/-- What has a number is a directory, or none. -/
def DirIs (L : List Nd) (id : Int) (b : Bool) : Prop := ∀ z ∈ L, z.1 = id → z.2.1 = b
theorem DirIs.set {L : List Nd} {id : Int} {b : Bool} (h : DirIs L id b) {n : Nd} (hn : DirIs L n.1 n.2.1) : DirIs (setN n L) id b := fun z hz e => by
  rcases setN_mem hz with ⟨hz, _⟩ | ⟨rfl, w, hw, q⟩
  · exact h z hz e
  · rw [← hn w hw q]; exact h w hw (by rw [q, e])
theorem dirIs_get {L : List Nd} {id : Int} {n : Nd} (h : Uq L) (hg : getN L id = some n) : DirIs L id n.2.1 := fun z hz e => by
  rw [h.eq hz (getN_mem hg).1 (by rw [e, (getN_mem hg).2])]

/-- A file in its place. -/
theorem TOk.file {k s : Nat} {t : Tb} (h : TOk k s t) (n : Nd) (hd : n.2.2.2.2.1.length ≤ 1048576) (hf : n.2.1 = false) (hn : n.2.2.2.2.2.1 = []) (hdir : DirIs t.2.2.1 n.1 false) : TOk k s (tset t n) :=
  h.set (a := 0) n hd (fun e he => by rw [hn] at he; cases he) (fun _ => hn) (fun z hz e => by rw [hf]; exact hdir z hz e) (fun e he => by rw [hn] at he; cases he) (fun z hz e => by rw [hn]; exact Nat.zero_le _)

/-- A directory with other names in its place. -/
theorem TOk.dir {k s a : Nat} {t : Tb} (h : TOk k s t) {id : Int} {d : Nd} (hg : getN t.2.2.1 id = some d) (hd : d.2.1 = true) (m : List Ent) (hnm : ∀ e ∈ m, e.1.length ≤ 32)
    (hac : ∀ e ∈ m, ∀ y ∈ t.2.2.1, y.1 = e.2.1 → y.2.1 = true → d.1 < y.1) (hm : m.length ≤ d.2.2.2.2.2.1.length + a) : TOk k (s + a) (tset t (dirW d m)) :=
  h.set (dirW d m) (h.d d (getN_mem hg).1) hnm (fun q => by rw [show (dirW d m).2.1 = d.2.1 from rfl, hd] at q; cases q)
    (fun z hz e => by have e1 : z.1 = d.1 := e; rw [h.un.eq hz (getN_mem hg).1 e1]; rfl) hac
    (fun z hz e => by have e1 : z.1 = d.1 := e; rw [h.un.eq hz (getN_mem hg).1 e1]; exact hm)

theorem TOk.without {k s : Nat} {t : Tb} (h : TOk k s t) {id : Int} {d : Nd} (hg : getN t.2.2.1 id = some d) (hd : d.2.1 = true) (nm : List UInt8) : TOk k s (tset t (dirW d (d.2.2.2.2.2.1.flatMap (keepE nm)))) :=
  h.dir (a := 0) hg hd _ (fun e he => h.nm d (getN_mem hg).1 e (keepE_mem he)) (fun e he => h.ac d (getN_mem hg).1 e (keepE_mem he)) (keepE_len _ _)

theorem with_mem {l : List Ent} {e x : Ent} {k : Nat} (h : x ∈ l.take k ++ [e] ++ l.drop k) : x = e ∨ x ∈ l := by
  simp only [List.mem_append, List.mem_singleton] at h
  rcases h with (h | h) | h
  · exact .inr (List.mem_of_mem_take h)
  · exact .inl h
  · exact .inr (List.mem_of_mem_drop h)
theorem with_len (l : List Ent) (e : Ent) (k : Nat) : (l.take k ++ [e] ++ l.drop k).length ≤ l.length + 1 := by simp; omega

theorem with_ok' (d : Nd) (e : Ent) (hl : d.2.2.2.2.2.1.length ≤ 1000000) : ∃ m, P_ref08_with (d, (e, ())) = some (dirW d m, ()) ∧ (∀ x ∈ m, x = e ∨ x ∈ d.2.2.2.2.2.1) ∧ m.length ≤ d.2.2.2.2.2.1.length + 1 := by
  obtain ⟨k, h⟩ := with_ok d e hl
  exact ⟨_, h, fun x hx => with_mem hx, with_len _ _ _⟩

theorem TOk.with {k s : Nat} {t : Tb} (h : TOk k s t) {id : Int} {d : Nd} (hg : getN t.2.2.1 id = some d) (hd : d.2.1 = true) (e : Ent) (hl : e.1.length ≤ 32)
    (hac : ∀ y ∈ t.2.2.1, y.1 = e.2.1 → y.2.1 = true → d.1 < y.1) {m : List Ent} (hm : ∀ x ∈ m, x = e ∨ x ∈ d.2.2.2.2.2.1) (hml : m.length ≤ d.2.2.2.2.2.1.length + 1) : TOk k (s + 1) (tset t (dirW d m)) :=
  h.dir hg hd _ (fun x hx => by rcases hm x hx with rfl | hx <;> first | exact hl | exact h.nm d (getN_mem hg).1 x hx)
    (fun x hx => by rcases hm x hx with rfl | hx <;> first | exact hac | exact h.ac d (getN_mem hg).1 x hx) hml

/-- A new node. -/
theorem TOk.push {k s : Nat} {t : Tb} (h : TOk k s t) (b : Bool) : TOk (k + 1) s (t.1, (t.2.1 + 1, (t.2.2.1 ++ [(t.2.1, (b, ((1 : Int), ((0 : Int), (([] : List UInt8), (([] : List Ent), ()))))))], ()))) where
  l := by have := h.l; simp; omega
  s := by rw [nms_app]; exact h.s
  d := fun x hx => by
    rcases List.mem_append.1 hx with hx | hx
    · exact h.d x hx
    · rw [List.mem_singleton.1 hx]; exact Nat.zero_le _
  nm := fun x hx => by
    rcases List.mem_append.1 hx with hx | hx
    · exact h.nm x hx
    · rw [List.mem_singleton.1 hx]; intro e he; cases he
  ids := fun x hx => by
    rcases List.mem_append.1 hx with hx | hx
    · have := h.ids x hx; dsimp only; omega
    · rw [List.mem_singleton.1 hx]; dsimp only; omega
  nx := by have := h.nx; constructor <;> dsimp only <;> omega
  pos := fun x hx => by
    rcases List.mem_append.1 hx with hx | hx
    · exact h.pos x hx
    · rw [List.mem_singleton.1 hx]; exact h.nx.1
  un := List.pairwise_append.2 ⟨h.un, List.pairwise_singleton _ _, fun a ha b hb => by rw [List.mem_singleton.1 hb]; have := h.ids a ha; dsimp only; omega⟩
  fl := fun x hx => by
    rcases List.mem_append.1 hx with hx | hx
    · exact h.fl x hx
    · rw [List.mem_singleton.1 hx]; intro _; rfl
  ac := fun x hx e he y hy h1 h2 => by
    rcases List.mem_append.1 hx with hx | hx
    · rcases List.mem_append.1 hy with hy | hy
      · exact h.ac x hx e he y hy h1 h2
      · rw [List.mem_singleton.1 hy]; exact h.ids x hx
    · rw [List.mem_singleton.1 hx] at he; cases he
end Go.Ge

/- The document's inodes (ref08): what changes a table leaves it sound. -/
namespace Go.Ge
set_option linter.unusedSectionVars false
set_option linter.unusedVariables false
set_option linter.unusedSimpArgs false
variable [Lp]

theorem er0 : Er 0 := ⟨by decide, by decide⟩
theorem er3 : Er 3 := ⟨by decide, by decide⟩
theorem er1 : Er 1 := ⟨by decide, by decide⟩
theorem er4 : Er 4 := ⟨by decide, by decide⟩
theorem er5 : Er 5 := ⟨by decide, by decide⟩
theorem er6 : Er 6 := ⟨by decide, by decide⟩
theorem er7 : Er 7 := ⟨by decide, by decide⟩
theorem er12 : Er 12 := ⟨by decide, by decide⟩

variable {k s : Nat} {t : Tb}

theorem TOk.z (h : TOk k s t) (id : Int) : ((getN t.2.2.1 id).getD zN).2.2.2.2.1.length ≤ 1048576 := by
  cases e : getN t.2.2.1 id with
  | none => exact Nat.zero_le _
  | some x => exact h.d x (getN_mem e).1

/-- A node whose counts or bytes change. -/
theorem TOk.mod (h : TOk k s t) {z : Nd} (hz : z ∈ t.2.2.1) (n : Nd) (h1 : n.1 = z.1) (h2 : n.2.1 = z.2.1) (h3 : n.2.2.2.2.2.1 = z.2.2.2.2.2.1) (hd : n.2.2.2.2.1.length ≤ 1048576) : TOk k s (tset t n) :=
  h.set (a := 0) n hd (by rw [h3]; exact h.nm z hz) (fun q => by rw [h3]; exact h.fl z hz (by rw [← h2]; exact q)) (fun w hw e => by rw [h2, h.un.eq hw hz (by rw [e, h1])])
    (by rw [h3, h1]; exact h.ac z hz) (fun w hw e => by rw [h3, h.un.eq hw hz (by rw [e, h1])]; exact Nat.le_refl _)

theorem drop_ok (h : TOk k s t) (hk : k ≤ 900) (hs : s ≤ 900) (id : Int) : ∃ e t', P_ref08_Table_Drop ((id, ()), (t, ())) = some ((e, ()), (t', ())) ∧ Er e ∧ TOk k s t' := by
  unfold P_ref08_Table_Drop
  dsimp only
  have hg := get_val t id (by have := h.l; omega)
  cases e : getN t.2.2.1 id with
  | none => rw [e] at hg; exact ⟨3, t, ob hg rfl, er3, h⟩
  | some d =>
    rw [e] at hg
    by_cases h0 : d.2.2.2.1 = 0
    · refine ⟨1, t, ob hg ?_, er1, h⟩
      dsimp only [Option.isSome, Option.getD]
      rw [eqI_true h0]; rfl
    · have hset := set_val t (d.1, (d.2.1, (d.2.2.1, (isub .i64 d.2.2.2.1 1, d.2.2.2.2)))) (by have := h.l; omega)
      refine ⟨0, _, ob hg ?_, er0, h.mod (getN_mem e).1 (d.1, (d.2.1, (d.2.2.1, (isub .i64 d.2.2.2.1 1, d.2.2.2.2)))) rfl rfl rfl (h.d d (getN_mem e).1)⟩
      dsimp only [Option.isSome, Option.getD]
      rw [eqI_false h0, nt_true, sel_false, sel_false]
      exact ob hset rfl

theorem hold_ok (h : TOk k s t) (hk : k ≤ 900) (hs : s ≤ 900) (id : Int) : ∃ e t', P_ref08_Table_Hold ((id, ()), (t, ())) = some ((e, ()), (t', ())) ∧ Er e ∧ TOk k s t' ∧ (∀ i b, DirIs t.2.2.1 i b → DirIs t'.2.2.1 i b) ∧ (e = 0 → DirIs t.2.2.1 id false) := by
  unfold P_ref08_Table_Hold
  dsimp only
  obtain ⟨e, h1, h2, h3⟩ := file_ok t id 0 0 (h.len (by omega) (by omega))
  by_cases he : e = 0
  · subst he
    obtain ⟨d, hd, hdir, _⟩ := h3 rfl
    have hdd := dirIs_get h.un hd
    rw [hd] at h1
    by_cases hb : 1048576 ≤ d.2.2.2.1
    · refine ⟨5, t, ob h1 ?_, er5, h, fun _ _ q => q, fun q => by cases q⟩
      dsimp only [Option.getD]
      rw [leI_true hb]; rfl
    · have hset := set_val t (d.1, (d.2.1, (d.2.2.1, (iadd .i64 d.2.2.2.1 1, d.2.2.2.2)))) (by have := h.l; omega)
      have hid := (getN_mem hd).2
      refine ⟨0, _, ob h1 ?_, er0, h.file (d.1, (d.2.1, (d.2.2.1, (iadd .i64 d.2.2.2.1 1, d.2.2.2.2)))) (h.d d (getN_mem hd).1) hdir (h.fl d (getN_mem hd).1 hdir) (by rw [hdir, ← hid] at hdd; exact hdd), fun i b q => q.set (n := (d.1, (d.2.1, (d.2.2.1, (iadd .i64 d.2.2.2.1 1, d.2.2.2.2))))) (by rw [← hid] at hdd; exact hdd), fun _ => by rw [hdir] at hdd; exact hdd⟩
      dsimp only [Option.getD]
      rw [leI_false (by omega)]
      exact ob hset rfl
  · refine ⟨e, t, ob h1 ?_, h2, h, fun _ _ q => q, fun q => absurd q he⟩
    dsimp only
    rw [eqI_false he]; rfl

theorem make_ok (h : TOk k s t) (hk : k ≤ 900) (hs : s ≤ 900) (dir : Int) (nm : List UInt8) (b : Bool) (hn : nm.length ≤ 1000000) : ∃ id e t', P_ref08_Table_Make ((dir, (nm, (b, ()))), (t, ())) = some ((id, (e, ())), (t', ())) ∧ Er e ∧ TOk (k + 1) (s + 1) t' ∧ (∀ i c, i < t.2.1 → DirIs t.2.2.1 i c → DirIs t'.2.2.1 i c) ∧ t.2.1 ≤ t'.2.1 := by
  unfold P_ref08_Table_Make
  dsimp only
  obtain ⟨e, h1, h2, h3⟩ := place_ok t dir nm (h.len (by omega) (by omega)) hn
  have hm : TOk (k + 1) (s + 1) t := h.mono (by omega) (by omega)
  by_cases he : e = 0
  · subst he
    obtain ⟨d, hd, hdir, hl⟩ := h3 rfl
    rw [hd] at h1
    have hdn : d.2.2.2.2.2.1.length ≤ 1000000 := by have := nms_mem (getN_mem hd).1; have := h.s; omega
    have hld := leads_val d nm (by omega)
    by_cases c1 : 0 < leadsN d nm
    · refine ⟨0, 4, t, ob h1 ?_, er4, hm, fun _ _ _ q => q, Int.le_refl _⟩
      refine ob hld ?_
      dsimp only
      rw [ltI_true c1]; rfl
    by_cases c2 : (4096 : Int) ≤ len t.2.2.1
    · refine ⟨0, 5, t, ob h1 ?_, er5, hm, fun _ _ _ q => q, Int.le_refl _⟩
      refine ob hld ?_
      dsimp only
      rw [ltI_false (by omega), leI_true c2]; rfl
    obtain ⟨u, hu⟩ := used_val t (by have := h.l; omega)
    cases c3 : ltI t.1 (iadd .i64 u 64) with
    | true =>
      refine ⟨0, 6, t, ob h1 ?_, er6, hm, fun _ _ _ q => q, Int.le_refl _⟩
      refine ob hld ?_
      dsimp only
      rw [ltI_false (by omega), leI_false (by omega), sel_false, sel_false]
      refine ob hu ?_
      dsimp only
      rw [c3]; rfl
    | false =>
      obtain ⟨m, hw, hmm, hml⟩ := with_ok' d (nm, (t.2.1, ())) hdn
      have hT := h.with hd hdir (nm, (t.2.1, ())) hl (fun y hy e _ => by have := h.ids y hy; have e' : y.1 = t.2.1 := e; omega) hmm hml
      have hset := set_val (t.1, (t.2.1 + 1, (t.2.2.1, ()))) (dirW d m) (by have := h.l; dsimp only; omega)
      have hadd : iadd .i64 t.2.1 1 = t.2.1 + 1 := iadd_i64 (by have := h.nx; omega) (by have := h.nx; omega)
      have hP := hT.push b
      have hdd : DirIs t.2.2.1 (dirW d m).1 (dirW d m).2.1 := by show DirIs t.2.2.1 d.1 d.2.1; rw [(getN_mem hd).2]; exact dirIs_get h.un hd
      refine ⟨t.2.1, 0, _, ob h1 ?_, er0, hP, fun i c hi q z hz e => ?_, by dsimp only; omega⟩
      · refine ob hld ?_
        dsimp only
        rw [ltI_false (by omega), leI_false (by omega), sel_false, sel_false]
        refine ob hu ?_
        dsimp only
        rw [c3, sel_false, hadd]
        refine ob hw (ob hset ?_)
        have hl2 := setN_len (dirW d m) t.2.2.1
        dsimp only
        rw [fits_len2 (by have := h.l; simp only [List.length_singleton]; omega), sel_true]
        rfl
      · rcases List.mem_append.1 hz with hz | hz
        · exact (q.set hdd) z hz e
        · rw [List.mem_singleton.1 hz] at e; dsimp only at e; omega
  · refine ⟨0, e, t, ob h1 ?_, h2, hm, fun _ _ _ q => q, Int.le_refl _⟩
    dsimp only
    rw [eqI_false he]; rfl

theorem link_ok (h : TOk k s t) (hk : k ≤ 900) (hs : s ≤ 900) (id dir : Int) (nm : List UInt8) (hn : nm.length ≤ 1000000) : ∃ e t', P_ref08_Table_Link ((id, (dir, (nm, ()))), (t, ())) = some ((e, ()), (t', ())) ∧ Er e ∧ TOk k (s + 1) t' ∧ (∀ i c, DirIs t.2.2.1 i c → DirIs t'.2.2.1 i c) ∧ t'.2.1 = t.2.1 := by
  unfold P_ref08_Table_Link
  dsimp only
  have hm : TOk k (s + 1) t := h.mono (Nat.le_refl _) (by omega)
  have hg := get_val t id (by have := h.l; omega)
  cases e : getN t.2.2.1 id with
  | none => rw [e] at hg; exact ⟨3, t, ob hg rfl, er3, hm, fun _ _ q => q, rfl⟩
  | some n =>
    rw [e] at hg
    cases hnd : n.2.1 with
    | true =>
      refine ⟨12, t, ob hg ?_, er12, hm, fun _ _ q => q, rfl⟩
      dsimp only [Option.isSome, Option.getD]
      rw [hnd]; rfl
    | false =>
      obtain ⟨e2, h1, h2, h3⟩ := place_ok t dir nm (h.len (by omega) (by omega)) hn
      by_cases he : e2 = 0
      case neg =>
        refine ⟨e2, t, ob hg ?_, h2, hm, fun _ _ q => q, rfl⟩
        dsimp only [Option.isSome, Option.getD]
        rw [hnd, nt_true, sel_false, sel_false]
        refine ob h1 ?_
        dsimp only
        rw [eqI_false he]; rfl
      subst he
      obtain ⟨d, hd, hdir, hl⟩ := h3 rfl
      rw [hd] at h1
      have hdn : d.2.2.2.2.2.1.length ≤ 1000000 := by have := nms_mem (getN_mem hd).1; have := h.s; omega
      have hld := leads_val d nm (by omega)
      by_cases c1 : 0 < leadsN d nm
      · refine ⟨4, t, ob hg ?_, er4, hm, fun _ _ q => q, rfl⟩
        dsimp only [Option.isSome, Option.getD]
        rw [hnd, nt_true, sel_false, sel_false]
        refine ob h1 (ob hld ?_)
        dsimp only
        rw [ltI_true c1]; rfl
      obtain ⟨m, hw, hmm, hml⟩ := with_ok' d (nm, (id, ())) hdn
      have hid := (getN_mem e).2
      have hdi := dirIs_get h.un e
      rw [hnd] at hdi
      have hT := h.with hd hdir (nm, (id, ())) hl (fun y hy q1 q2 => by
        have q1' : y.1 = id := q1
        rw [hdi y hy q1'] at q2; cases q2) hmm hml
      have hset := set_val t (dirW d m) (by have := h.l; omega)
      have hdd : DirIs t.2.2.1 (dirW d m).1 (dirW d m).2.1 := by show DirIs t.2.2.1 d.1 d.2.1; rw [(getN_mem hd).2]; exact dirIs_get h.un hd
      have hset2 := set_val (tset t (dirW d m)) (n.1, (n.2.1, (iadd .i64 n.2.2.1 1, n.2.2.2))) (by have := hT.l; omega)
      have hdi2 : DirIs (setN (dirW d m) t.2.2.1) n.1 false := by
        rw [hid]; exact hdi.set hdd
      refine ⟨0, _, ob hg ?_, er0, hT.file (n.1, (n.2.1, (iadd .i64 n.2.2.1 1, n.2.2.2))) (h.d n (getN_mem e).1) hnd (h.fl n (getN_mem e).1 hnd) hdi2, fun i c q => (q.set hdd).set (n := (n.1, (n.2.1, (iadd .i64 n.2.2.1 1, n.2.2.2)))) (by rw [← hnd] at hdi2; exact hdi2), rfl⟩
      dsimp only [Option.isSome, Option.getD]
      rw [hnd, nt_true, sel_false, sel_false]
      refine ob h1 (ob hld ?_)
      dsimp only
      rw [ltI_false (by omega), sel_false]
      exact ob hw (ob hset (ob (by rw [hnd] at hset2; exact hset2) rfl))
end Go.Ge

/- The document's inodes (ref08): the other changes. -/
namespace Go.Ge
set_option linter.unusedSectionVars false
set_option linter.unusedVariables false
set_option linter.unusedSimpArgs false
variable [Lp] {k s : Nat} {t : Tb}

theorem namesLe (h : TOk k s t) (hs : s ≤ 900) {d : Nd} (hd : d ∈ t.2.2.1) : d.2.2.2.2.2.1.length ≤ 1000000 := by have := nms_mem hd; have := h.s; omega

theorem unlink_ok (h : TOk k s t) (hk : k ≤ 900) (hs : s ≤ 900) (dir : Int) (nm : List UInt8) (hn : nm.length ≤ 1000000) : ∃ e t', P_ref08_Table_Unlink ((dir, (nm, ())), (t, ())) = some ((e, ()), (t', ())) ∧ Er e ∧ TOk k s t' := by
  unfold P_ref08_Table_Unlink
  dsimp only
  obtain ⟨id, e, h1, h2, h3⟩ := find_ok t dir nm (h.len (by omega) (by omega)) hn
  by_cases he : e = 0
  case neg =>
    refine ⟨e, t, ob h1 ?_, h2, h⟩
    dsimp only
    rw [eqI_false he]; rfl
  subst he
  obtain ⟨d, hd, hdir, hl, _⟩ := h3 rfl
  have hg := get_val t id (by have := h.l; omega)
  have hgd := get_val t dir (by have := h.l; omega)
  rw [hd] at hgd
  have hw := without_val d nm (namesLe h hs (getN_mem hd).1)
  have hT := h.without hd hdir nm
  have hset := set_val t (dirW d (d.2.2.2.2.2.1.flatMap (keepE nm))) (by have := h.l; omega)
  have hdd : DirIs t.2.2.1 (dirW d (d.2.2.2.2.2.1.flatMap (keepE nm))).1 (dirW d (d.2.2.2.2.2.1.flatMap (keepE nm))).2.1 := by show DirIs t.2.2.1 d.1 d.2.1; rw [(getN_mem hd).2]; exact dirIs_get h.un hd
  cases e : getN t.2.2.1 id with
  | none =>
    rw [e] at hg
    have hset2 := set_val (tset t (dirW d (d.2.2.2.2.2.1.flatMap (keepE nm)))) (zN.1, (zN.2.1, (isub .i64 zN.2.2.1 1, zN.2.2.2))) (by have := hT.l; omega)
    refine ⟨0, _, ob h1 (ob hg ?_), er0, (show TOk k s (tset (tset t (dirW d (d.2.2.2.2.2.1.flatMap (keepE nm)))) (zN.1, (zN.2.1, (isub .i64 zN.2.2.1 1, zN.2.2.2)))) by unfold tset; rw [hT.zero (zN.1, (zN.2.1, (isub .i64 zN.2.2.1 1, zN.2.2.2))) rfl]; exact hT)⟩
    exact ob hgd (ob hw (ob hset (ob hset2 rfl)))
  | some n =>
    rw [e] at hg
    cases hnd : n.2.1 with
    | true =>
      refine ⟨12, t, ob h1 (ob hg ?_), er12, h⟩
      dsimp only [Option.isSome, Option.getD]
      rw [hnd]; rfl
    | false =>
      have hdi := dirIs_get h.un e
      rw [hnd, ← (getN_mem e).2] at hdi
      have hset2 := set_val (tset t (dirW d (d.2.2.2.2.2.1.flatMap (keepE nm)))) (n.1, (n.2.1, (isub .i64 n.2.2.1 1, n.2.2.2))) (by have := hT.l; omega)
      refine ⟨0, _, ob h1 (ob hg ?_), er0, hT.file (n.1, (n.2.1, (isub .i64 n.2.2.1 1, n.2.2.2))) (h.d n (getN_mem e).1) hnd (h.fl n (getN_mem e).1 hnd) (hdi.set hdd)⟩
      dsimp only [Option.isSome, Option.getD]
      rw [hnd, sel_false]
      exact ob hgd (ob hw (ob hset (ob (by rw [hnd] at hset2; exact hset2) rfl)))

theorem remove_ok (h : TOk k s t) (hk : k ≤ 900) (hs : s ≤ 900) (dir : Int) (nm : List UInt8) (hn : nm.length ≤ 1000000) : ∃ e t', P_ref08_Table_Remove ((dir, (nm, ())), (t, ())) = some ((e, ()), (t', ())) ∧ Er e ∧ TOk k s t' := by
  unfold P_ref08_Table_Remove
  dsimp only
  obtain ⟨id, e, h1, h2, h3⟩ := find_ok t dir nm (h.len (by omega) (by omega)) hn
  by_cases he : e = 0
  case neg =>
    refine ⟨e, t, ob h1 ?_, h2, h⟩
    dsimp only
    rw [eqI_false he]; rfl
  subst he
  obtain ⟨d, hd, hdir, hl, _⟩ := h3 rfl
  have hg := get_val t id (by have := h.l; omega)
  have hgd := get_val t dir (by have := h.l; omega)
  rw [hd] at hgd
  have hw := without_val d nm (namesLe h hs (getN_mem hd).1)
  have hT := h.without hd hdir nm
  have hset := set_val t (dirW d (d.2.2.2.2.2.1.flatMap (keepE nm))) (by have := h.l; omega)
  have hdd : DirIs t.2.2.1 (dirW d (d.2.2.2.2.2.1.flatMap (keepE nm))).1 (dirW d (d.2.2.2.2.2.1.flatMap (keepE nm))).2.1 := by show DirIs t.2.2.1 d.1 d.2.1; rw [(getN_mem hd).2]; exact dirIs_get h.un hd
  cases e : getN t.2.2.1 id with
  | none =>
    rw [e] at hg
    exact ⟨12, t, ob h1 (ob hg rfl), er12, h⟩
  | some n =>
    rw [e] at hg
    cases hnd : n.2.1 with
    | false =>
      refine ⟨12, t, ob h1 (ob hg ?_), er12, h⟩
      dsimp only [Option.isSome, Option.getD]
      rw [hnd]; rfl
    | true =>
      by_cases hl0 : 0 < n.2.2.2.2.2.1.length
      · refine ⟨7, t, ob h1 (ob hg ?_), er7, h⟩
        dsimp only [Option.isSome, Option.getD]
        rw [hnd, nt_true, sel_false, ltI_len0, decide_eq_true hl0]; rfl
      · have hn0 : n.2.2.2.2.2.1 = [] := List.length_eq_zero_iff.1 (by omega)
        have hdi := dirIs_get h.un e
        rw [hnd, ← (getN_mem e).2] at hdi
        have hset2 := set_val (tset t (dirW d (d.2.2.2.2.2.1.flatMap (keepE nm)))) (n.1, (n.2.1, ((0 : Int), n.2.2.2))) (by have := hT.l; omega)
        have hdi2 := hdi.set hdd
        refine ⟨0, _, ob h1 (ob hg ?_), er0, hT.set (a := 0) (n.1, (n.2.1, ((0 : Int), n.2.2.2))) (h.d n (getN_mem e).1) (fun x hx => by rw [show (n.1, (n.2.1, ((0 : Int), n.2.2.2))).2.2.2.2.2.1 = [] from hn0] at hx; cases hx) (fun _ => hn0) (fun z hz q => by rw [show (n.1, (n.2.1, ((0 : Int), n.2.2.2))).2.1 = true from hnd]; exact hdi2 z hz q)
          (fun x hx => by rw [show (n.1, (n.2.1, ((0 : Int), n.2.2.2))).2.2.2.2.2.1 = [] from hn0] at hx; cases hx) (fun z hz q => by rw [show (n.1, (n.2.1, ((0 : Int), n.2.2.2))).2.2.2.2.2.1 = [] from hn0]; exact Nat.zero_le _)⟩
        dsimp only [Option.isSome, Option.getD]
        rw [hnd, nt_true, sel_false, ltI_len0, decide_eq_false hl0, sel_false]
        exact ob hgd (ob hw (ob hset (ob (by rw [hnd] at hset2; exact hset2) rfl)))

theorem write_ok (h : TOk k s t) (hk : k ≤ 900) (hs : s ≤ 900) (id at_ : Int) (b : List UInt8) (hb : b.length ≤ 1000000) : ∃ e t', P_ref08_Table_Write ((id, (at_, (b, ()))), (t, ())) = some ((e, ()), (t', ())) ∧ Er e ∧ TOk k s t' := by
  unfold P_ref08_Table_Write
  dsimp only
  obtain ⟨e, h1, h2, h3⟩ := file_ok t id at_ 0 (h.len (by omega) (by omega))
  by_cases he : e = 0
  case neg =>
    refine ⟨e, t, ob h1 ?_, h2, h⟩
    dsimp only
    rw [eqI_false he]; rfl
  subst he
  obtain ⟨d, hd, hdir, ha, _⟩ := h3 rfl
  rw [hd] at h1
  have hdl := h.d d (getN_mem hd).1
  by_cases c1 : 1048576 < at_
  · refine ⟨5, t, ob h1 ?_, er5, h⟩
    dsimp only [Option.getD]
    rw [ltI_true c1]; rfl
  have hadd : iadd .i64 at_ (len b) = at_ + b.length := by rw [len_eq]; exact iadd_i64 (by omega) (by omega)
  by_cases c2 : 1048576 < at_ + (b.length : Int)
  · refine ⟨5, t, ob h1 ?_, er5, h⟩
    dsimp only [Option.getD]
    rw [ltI_false (by omega), hadd, ltI_true c2]; rfl
  by_cases c3 : b = []
  · refine ⟨0, t, ob h1 ?_, er0, h⟩
    dsimp only [Option.getD]
    rw [ltI_false (by omega), hadd, ltI_false (by omega), eqS_true c3]; rfl
  have hmax : imax (len d.2.2.2.2.1) (at_ + b.length) = max (d.2.2.2.2.1.length : Int) (at_ + b.length) := by
    unfold imax; rw [len_eq]
    by_cases q : (d.2.2.2.2.1.length : Int) < at_ + b.length <;> simp [q] <;> omega
  obtain ⟨e2, f1, f2, f3⟩ := fits_ok t d (max (d.2.2.2.2.1.length : Int) (at_ + b.length)) (h.len (by omega) (by omega))
  by_cases he2 : e2 = 0
  case neg =>
    refine ⟨e2, t, ob h1 ?_, f2, h⟩
    dsimp only [Option.getD]
    rw [ltI_false (by omega), hadd, ltI_false (by omega), eqS_false c3, hmax, eqI_true rfl, nt_true, sel_false, nt_false, sel_true, sel_false, sel_false]
    refine ob f1 ?_
    dsimp only
    rw [eqI_false he2]; rfl
  subst he2
  have f3 := f3 rfl
  have hlong := long_val d.2.2.2.2.1 (max (d.2.2.2.2.1.length : Int) (at_ + b.length)) hdl f3
  have hll : ((longN d.2.2.2.2.1 (max (d.2.2.2.2.1.length : Int) (at_ + b.length))).length : Int) = max (d.2.2.2.2.1.length : Int) (at_ + b.length) := by rw [longN_len]; omega
  generalize hL : longN d.2.2.2.2.1 (max (d.2.2.2.2.1.length : Int) (at_ + b.length)) = y at hlong hll
  have e1 : (sub y 0 (minus at_ 0)).length ≤ 1048576 := by simp only [sub, minus, List.length_take, List.length_drop]; omega
  have e1' : ((sub y 0 (minus at_ 0)).length : Int) = at_ := by simp only [sub, minus, List.length_take, List.length_drop]; omega
  have e2' : ((sub y (at_ + b.length) (minus (len y) (at_ + b.length))).length : Int) = y.length - (at_ + b.length) := by
    simp only [sub, minus, len_eq, List.length_take, List.length_drop]; omega
  have hlen : (app (app (sub y 0 (minus at_ 0)) b) (sub y (at_ + b.length) (minus (len y) (at_ + b.length)))).length ≤ 1048576 := by
    simp only [app_eq, List.length_append]; omega
  have hset := set_val t (d.1, (d.2.1, (d.2.2.1, (d.2.2.2.1, (app (app (sub y 0 (minus at_ 0)) b) (sub y (at_ + b.length) (minus (len y) (at_ + b.length))), d.2.2.2.2.2))))) (by have := h.l; omega)
  refine ⟨0, _, ob h1 ?_, er0, h.mod (getN_mem hd).1 (d.1, (d.2.1, (d.2.2.1, (d.2.2.2.1, (app (app (sub y 0 (minus at_ 0)) b) (sub y (at_ + b.length) (minus (len y) (at_ + b.length))), d.2.2.2.2.2))))) rfl rfl rfl hlen⟩
  dsimp only [Option.getD]
  rw [ltI_false (by omega), hadd, ltI_false (by omega), eqS_false c3, hmax, eqI_true rfl, nt_true, sel_false, nt_false, sel_true, sel_false, sel_false]
  refine ob f1 (Eq.trans (sel_false _ _) ?_)
  refine ob hlong ?_
  dsimp only
  rw [show inside 0 at_ (len y) = true from inside_true (by omega) ha (by rw [len_eq]; omega), sel_true, fits_len2 (by omega), sel_true,
    show inside (at_ + (b.length : Int)) (len y) (len y) = true from inside_true (by omega) (by rw [len_eq]; omega) (Int.le_refl _), sel_true, fits_len2 (by simp only [app_eq, List.length_append]; omega), sel_true]
  exact ob hset rfl

theorem trunc_ok (h : TOk k s t) (hk : k ≤ 900) (hs : s ≤ 900) (id n : Int) : ∃ e t', P_ref08_Table_Truncate ((id, (n, ())), (t, ())) = some ((e, ()), (t', ())) ∧ Er e ∧ TOk k s t' := by
  unfold P_ref08_Table_Truncate
  dsimp only
  obtain ⟨e, h1, h2, h3⟩ := file_ok t id n 0 (h.len (by omega) (by omega))
  by_cases he : e = 0
  case neg =>
    refine ⟨e, t, ob h1 ?_, h2, h⟩
    dsimp only
    rw [eqI_false he]; rfl
  subst he
  obtain ⟨d, hd, hdir, ha, _⟩ := h3 rfl
  rw [hd] at h1
  have hdl := h.d d (getN_mem hd).1
  obtain ⟨e2, f1, f2, f3⟩ := fits_ok t d n (h.len (by omega) (by omega))
  by_cases he2 : e2 = 0
  case neg =>
    refine ⟨e2, t, ob h1 ?_, f2, h⟩
    dsimp only [Option.getD]
    rw [eqI_true rfl, nt_true, sel_false]
    refine ob f1 ?_
    dsimp only
    rw [eqI_false he2]; rfl
  subst he2
  have f3 := f3 rfl
  have hlong := long_val d.2.2.2.2.1 n hdl f3
  have hll : ((longN d.2.2.2.2.1 n).length : Int) ≥ n := by rw [longN_len]; omega
  generalize hL : longN d.2.2.2.2.1 n = y at hlong hll
  have hlen : (sub y 0 (minus n 0)).length ≤ 1048576 := by simp only [sub, minus, List.length_take, List.length_drop]; omega
  have hset := set_val t (d.1, (d.2.1, (d.2.2.1, (d.2.2.2.1, (sub y 0 (minus n 0), d.2.2.2.2.2))))) (by have := h.l; omega)
  refine ⟨0, _, ob h1 ?_, er0, h.mod (getN_mem hd).1 (d.1, (d.2.1, (d.2.2.1, (d.2.2.2.1, (sub y 0 (minus n 0), d.2.2.2.2.2))))) rfl rfl rfl hlen⟩
  dsimp only [Option.getD]
  rw [eqI_true rfl, nt_true, sel_false]
  refine ob f1 (Eq.trans (sel_false _ _) ?_)
  refine ob hlong ?_
  dsimp only
  rw [show inside 0 n (len y) = true from inside_true (by omega) ha (by rw [len_eq]; omega), sel_true]
  exact ob hset rfl
end Go.Ge

/- The document's inodes (ref08): a file gets another name. -/
namespace Go.Ge
set_option linter.unusedSectionVars false
set_option linter.unusedVariables false
set_option linter.unusedSimpArgs false
variable [Lp] {k s : Nat} {t : Tb}

/-- Directories stay directories, and files files. -/
def Stay (t t' : Tb) : Prop := ∀ i b, DirIs t.2.2.1 i b → DirIs t'.2.2.1 i b

theorem sub_without (h : TOk k s t) (hk : k ≤ 900) (hs : s ≤ 900) (dir : Int) (nm : List UInt8) (hd : DirIs t.2.2.1 dir true) :
    ∃ w t', P_ref08_without ((getN t.2.2.1 dir).getD zN, (nm, ())) = some (w, ()) ∧ P_ref08_Table_set ((w, ()), (t, ())) = some ((), (t', ())) ∧ TOk k s t' ∧ Stay t t' := by
  cases e : getN t.2.2.1 dir with
  | none =>
    refine ⟨_, _, without_val zN nm (Nat.zero_le _), set_val t _ (by have := h.l; omega), ?_, ?_⟩
    · show TOk k s (tset t (dirW zN _)); unfold tset; rw [h.zero (dirW zN _) rfl]; exact h
    · show Stay t (tset t (dirW zN _)); unfold tset; rw [h.zero (dirW zN _) rfl]; exact fun _ _ q => q
  | some d =>
    have hdir : d.2.1 = true := hd d (getN_mem e).1 (getN_mem e).2
    refine ⟨_, _, without_val d nm (namesLe h hs (getN_mem e).1), set_val t _ (by have := h.l; omega), h.without e hdir nm, fun i b q => q.set ?_⟩
    show DirIs t.2.2.1 d.1 d.2.1
    rw [(getN_mem e).2]; exact dirIs_get h.un e

theorem sub_with (h : TOk k s t) (hk : k ≤ 900) (hs : s ≤ 900) (dir : Int) (en : Ent) (hl : en.1.length ≤ 32) (hd : DirIs t.2.2.1 dir true) (hi : DirIs t.2.2.1 en.2.1 false) :
    ∃ w t', P_ref08_with ((getN t.2.2.1 dir).getD zN, (en, ())) = some (w, ()) ∧ P_ref08_Table_set ((w, ()), (t, ())) = some ((), (t', ())) ∧ TOk k (s + 1) t' ∧ Stay t t' := by
  cases e : getN t.2.2.1 dir with
  | none =>
    obtain ⟨m, h1, _⟩ := with_ok' zN en (Nat.zero_le _)
    refine ⟨_, _, h1, set_val t _ (by have := h.l; omega), ?_, ?_⟩
    · show TOk k (s + 1) (tset t (dirW zN _)); unfold tset; rw [h.zero (dirW zN _) rfl]; exact h.mono (Nat.le_refl _) (by omega)
    · show Stay t (tset t (dirW zN _)); unfold tset; rw [h.zero (dirW zN _) rfl]; exact fun _ _ q => q
  | some d =>
    have hdir : d.2.1 = true := hd d (getN_mem e).1 (getN_mem e).2
    obtain ⟨m, h1, h2, h3⟩ := with_ok' d en (namesLe h hs (getN_mem e).1)
    refine ⟨_, _, h1, set_val t _ (by have := h.l; omega), h.with e hdir en hl (fun y hy q1 q2 => by rw [hi y hy q1] at q2; cases q2) h2 h3, fun i b q => q.set ?_⟩
    show DirIs t.2.2.1 d.1 d.2.1
    rw [(getN_mem e).2]; exact dirIs_get h.un e

theorem sub_mod (h : TOk k s t) (hk : k ≤ 900) (id : Int) (c : Int) {t2 : Tb} (h2 : TOk k s t2) (hst : Stay t t2) (hf : ((getN t.2.2.1 id).getD zN).2.1 = false) :
    ∃ t', P_ref08_Table_set (((((getN t.2.2.1 id).getD zN).1, (((getN t.2.2.1 id).getD zN).2.1, (c, ((getN t.2.2.1 id).getD zN).2.2.2))), ()), (t2, ())) = some ((), (t', ())) ∧ TOk k s t' ∧ Stay t2 t' := by
  cases e : getN t.2.2.1 id with
  | none =>
    refine ⟨_, set_val t2 _ (by have := h2.l; omega), ?_, ?_⟩
    · unfold tset; rw [h2.zero _ rfl]; exact h2
    · show Stay t2 (tset t2 _); unfold tset; rw [h2.zero _ rfl]; exact fun _ _ q => q
  | some x =>
    rw [e] at hf
    have hxf : x.2.1 = false := hf
    have hdi := hst _ _ (dirIs_get h.un e)
    rw [hxf, ← (getN_mem e).2] at hdi
    refine ⟨_, set_val t2 _ (by have := h2.l; omega), h2.file _ (h.d x (getN_mem e).1) hxf (h.fl x (getN_mem e).1 hxf) hdi, fun i b q => q.set ?_⟩
    show DirIs t2.2.2.1 x.1 x.2.1
    rw [hxf]; exact hdi

theorem rename_ok (h : TOk k s t) (hk : k ≤ 900) (hs : s ≤ 900) (dir : Int) (nm : List UInt8) (to : Int) (nn : List UInt8) (hn : nm.length ≤ 1000000) (ha : nn.length ≤ 1000000) :
    ∃ e t', P_ref08_Table_Rename ((dir, (nm, (to, (nn, ())))), (t, ())) = some ((e, ()), (t', ())) ∧ Er e ∧ TOk k (s + 1) t' := by
  have hm : TOk k (s + 1) t := h.mono (Nat.le_refl _) (by omega)
  unfold P_ref08_Table_Rename
  dsimp only
  obtain ⟨id, e, h1, h2, h3⟩ := find_ok t dir nm (h.len (by omega) (by omega)) hn
  by_cases he : e = 0
  case neg =>
    refine ⟨e, t, ob h1 ?_, h2, hm⟩
    dsimp only
    rw [eqI_false he]; rfl
  subst he
  obtain ⟨d0, hd0, hdir0, hl0, _⟩ := h3 rfl
  have hg := get_val t id (by have := h.l; omega)
  generalize hn : (getN t.2.2.1 id).getD zN = n at hg
  cases hnd : n.2.1 with
  | true =>
    refine ⟨12, t, ob h1 (ob hg ?_), er12, hm⟩
    dsimp only
    rw [hnd]; rfl
  | false =>
    obtain ⟨e2, p1, p2, p3⟩ := place_ok t to nn (h.len (by omega) (by omega)) ha
    by_cases he2 : e2 = 0
    case neg =>
      refine ⟨e2, t, ob h1 (ob hg ?_), p2, hm⟩
      dsimp only
      rw [hnd, sel_false]
      refine ob p1 ?_
      dsimp only
      rw [eqI_false he2]; rfl
    subst he2
    obtain ⟨d, hd, hdir, hl⟩ := p3 rfl
    rw [hd] at p1
    have hld := leads_val d nn (by have := namesLe h hs (getN_mem hd).1; omega)
    by_cases c1 : leadsN d nn = id
    · refine ⟨0, t, ob h1 (ob hg ?_), er0, hm⟩
      dsimp only
      rw [hnd, sel_false]
      refine ob p1 (ob hld ?_)
      dsimp only
      rw [eqI_true c1]; rfl
    have hdto : DirIs t.2.2.1 to true := by have := dirIs_get h.un hd; rw [hdir] at this; exact this
    have hddir : DirIs t.2.2.1 dir true := by have := dirIs_get h.un hd0; rw [hdir0] at this; exact this
    have hidf : DirIs t.2.2.1 id false := by
      cases e : getN t.2.2.1 id with
      | none =>
        intro z hz q
        have := List.find?_eq_none.1 e z hz
        simp [q] at this
      | some x =>
        have := dirIs_get h.un e
        rw [e] at hn
        rw [show x = n from hn, hnd] at this
        exact this
    -- what the name led to goes
    have mid : ∃ (c : Nat) (r : Int) (t2 : Tb), sel (ltI 0 (leadsN d nn))
        (obind (P_ref08_Table_get ((leadsN d nn, ()), (t, ()))) (fun y5 => sel y5.1.1.2.1
          (some (1, (((12 : Int), ()), ((y5.2.1.1, (y5.2.1.2.1, ((), ()))), (y5.2.1.2.2.1, ())))))
          (obind (P_ref08_without (d, (nn, ()))) (fun y6 => obind (P_ref08_Table_set ((y6.1, ()), ((y5.2.1.1, (y5.2.1.2.1, (y5.2.1.2.2.1, ()))), ()))) (fun y7 => obind (P_ref08_Table_set (((y5.1.1.1, (y5.1.1.2.1, (isub IntKind.i64 y5.1.1.2.2.1 1, y5.1.1.2.2.2))), ()), ((y7.2.1.1, (y7.2.1.2.1, (y7.2.1.2.2.1, ()))), ()))) (fun y8 => some (0, (((0 : Int), ()), ((y8.2.1.1, (y8.2.1.2.1, ((), ()))), (y8.2.1.2.2.1, ()))))))))))
        (some (0, (((0 : Int), ()), ((t.1, (t.2.1, ((), ()))), (t.2.2.1, ()))))) = some (c, ((r, ()), ((t2.1, (t2.2.1, ((), ()))), (t2.2.2.1, ())))) ∧ (c = 0 ∨ (c = 1 ∧ Er r)) ∧ TOk k s t2 ∧ Stay t t2 := by
      by_cases c2 : 0 < leadsN d nn
      · rw [ltI_true c2, sel_true]
        have hgo := get_val t (leadsN d nn) (by have := h.l; omega)
        cases hod : ((getN t.2.2.1 (leadsN d nn)).getD zN).2.1 with
        | true =>
          refine ⟨1, 12, t, ob hgo ?_, .inr ⟨rfl, er12⟩, h, fun _ _ q => q⟩
          dsimp only
          rw [hod]; rfl
        | false =>
          obtain ⟨w, t1, w1, w2, w3, w4⟩ := sub_without h hk hs to nn hdto
          rw [hd] at w1
          obtain ⟨t2, m1, m2, m3⟩ := sub_mod h hk (leadsN d nn) (isub .i64 ((getN t.2.2.1 (leadsN d nn)).getD zN).2.2.1 1) w3 w4 hod
          refine ⟨0, 0, t2, ob hgo ?_, .inl rfl, m2, fun i b q => m3 i b (w4 i b q)⟩
          dsimp only
          rw [hod, sel_false]
          exact ob w1 (ob w2 (ob (by rw [hod] at m1; exact m1) rfl))
      · rw [ltI_false (by omega), sel_false]
        exact ⟨0, 0, t, rfl, .inl rfl, h, fun _ _ q => q⟩
    obtain ⟨c, r, t2, mid, hc, hT2, hst⟩ := mid
    rcases hc with rfl | ⟨rfl, hr⟩
    · obtain ⟨w, t3, w1, w2, w3, w4⟩ := sub_without hT2 hk hs dir nm (hst _ _ hddir)
      obtain ⟨v, t4, v1, v2, v3, v4⟩ := sub_with w3 hk hs to (nn, (id, ())) hl (w4 _ _ (hst _ _ hdto)) (w4 _ _ (hst _ _ hidf))
      have hg2 := get_val t2 dir (by have := hT2.l; omega)
      have hg3 := get_val t3 to (by have := w3.l; omega)
      refine ⟨0, t4, ob h1 (ob hg ?_), er0, v3⟩
      dsimp only
      rw [hnd, sel_false]
      refine ob p1 (ob hld ?_)
      dsimp only
      rw [eqI_false c1, sel_false]
      refine ob mid ?_
      dsimp only
      rw [eqN_zero, sel_true]
      exact ob hg2 (ob w1 (ob w2 (ob hg3 (ob v1 (ob v2 rfl)))))
    · refine ⟨r, t2, ob h1 (ob hg ?_), hr, hT2.mono (Nat.le_refl _) (by omega)⟩
      dsimp only
      rw [hnd, sel_false]
      refine ob p1 (ob hld ?_)
      dsimp only
      rw [eqI_false c1, sel_false]
      exact ob mid rfl
end Go.Ge

/- The document's file system (ref09): operations are answered, and leave it sound. -/
namespace Go.Ge
set_option linter.unusedSectionVars false
set_option linter.unusedVariables false
set_option linter.unusedSimpArgs false
variable [Lp] {k s : Nat} {t : Tb}

/-- It comes to something that is so. -/
def Ok {β : Type} (Q : β → Prop) (o : Option β) : Prop := ∃ y, o = some y ∧ Q y
theorem Ok.ob {α β : Type} {Q : β → Prop} {o : Option α} {x : α} {f : α → Option β} (h : o = some x) (k : Ok Q (f x)) : Ok Q (obind o f) := by rw [h]; exact k
theorem Ok.ok {α β : Type} {Q : β → Prop} {R : α → Prop} {o : Option α} {f : α → Option β} (h : Ok R o) (k : ∀ x, R x → Ok Q (f x)) : Ok Q (obind o f) := by
  obtain ⟨x, h1, h2⟩ := h
  rw [h1]; exact k x h2
theorem Ok.sel {β : Type} {Q : β → Prop} {c : Bool} {a b : Option β} (ha : Ok Q a) (hb : Ok Q b) : Ok Q (Go.Ge.sel c a b) := by
  cases c
  · exact hb
  · exact ha
theorem Ok.some {β : Type} {Q : β → Prop} {y : β} (h : Q y) : Ok Q (some y) := ⟨y, rfl, h⟩
theorem Ok.need {β : Type} {Q : β → Prop} {c : Bool} {a b : Option β} (hc : c = true) (ha : Ok Q a) : Ok Q (Go.Ge.sel c a b) := by rw [hc]; exact ha
theorem obind_of {α β : Type} {o : Option α} {x : α} {f : α → Option β} (h : o = some x) : obind o f = f x := by rw [h]; rfl
def ResOk (r : Rs) : Prop := Er r.1 ∧ r.2.2.2.1.length ≤ 1000000
def FOk (k : Nat) (f : Fs) : Prop := TOk k k f.1 ∧ f.2.1.length ≤ k
theorem FOk.mono {k k' : Nat} {f : Fs} (h : FOk k f) (hk : k ≤ k') : FOk k' f := ⟨h.1.mono hk hk, Nat.le_trans h.2 hk⟩

theorem holds_ok (f : Fs) (hl : f.2.1.length ≤ 1000000) (o h : Int) : ∃ v, P_ref09_FS_holds ((o, (h, ())), (f, ())) = some ((v, ()), (f, ())) := by
  unfold P_ref09_FS_holds
  rcases srch (f := P_ref09_FS_holds_L0 ((o, (h, ())), (f, ()))) f.2.1 (fun i => ((0, (i, ())), ())) (fun _ x => decide (x.1 = o) && decide (x.2.1 = h)) (fun i x => (1, ((x.2.2.1, ((i : Int), ())), ()))) (0, ((0, ((f.2.1.length : Int), ())), ())) (by omega)
    (fun i x hx hi hadd => by
      unfold P_ref09_FS_holds_L0
      dsimp only
      have hw : within (i : Int) (len f.2.1) = true := within_true (by omega) (by rw [len_eq]; omega)
      rw [ltI_len, decide_eq_true hi, sel_true, hw, sel_true, idx_some' hx, obind_some, hadd]
      simp only [sel_true, obind_some]
      by_cases h1 : x.1 = o
      · rw [eqI_true h1, sel_true, obind_some]
        by_cases h2 : x.2.1 = h
        · rw [eqI_true h2]; simp [h1, h2, sel]
        · rw [eqI_false h2]; simp [h1, h2, sel]
      · rw [eqI_false h1, sel_false, obind_some]; simp [h1, sel])
    (by unfold P_ref09_FS_holds_L0; dsimp only; rw [ltI_len_end]; rfl) with ⟨i, x, hx, hp, hj, h⟩ | ⟨hn, h⟩
  · exact ⟨x.2.2.1, ob h rfl⟩
  · exact ⟨0, ob h rfl⟩

theorem many_ok (f : Fs) (hl : f.2.1.length ≤ 1000000) (o : Int) : ∃ v, P_ref09_FS_many ((o, ()), (f, ())) = some ((v, ()), (f, ())) := by
  unfold P_ref09_FS_many
  obtain ⟨s, _, h, _⟩ := fold_loop (f := P_ref09_FS_many_L0 ((o, ()), (f, ()))) f.2.1 (fun s i => ((s, (i, ())), ())) (fun s _ x => (((sel (eqI x.1 o) ((iadd IntKind.i64 s 1, ()), ()) ((s, ()), ())).1).1 : Int)) (fun s => ((s, ((f.2.1.length : Int), ())), ())) (fun _ _ => True) (by omega)
    (fun s i x hx hi hadd _ => by
      refine ⟨?_, trivial⟩
      unfold P_ref09_FS_many_L0
      dsimp only
      rw [ltI_len, decide_eq_true hi, sel_true, within_true (by omega) (by rw [len_eq]; omega), sel_true, idx_some' hx, obind_some, hadd, way1_inl])
    (fun s _ => by unfold P_ref09_FS_many_L0; dsimp only; rw [ltI_len_end]; rfl) (0 : Int) trivial
  exact ⟨s, ob h rfl⟩

theorem walk_ok (f : Fs) (ht : TLen f.1) (l : List (List UInt8)) (hl : l.length ≤ 1000000) (hn : ∀ x ∈ l, x.length ≤ 1000000) : ∃ id e, P_ref09_FS_walk ((l, ()), (f, ())) = some ((id, (e, ())), (f, ())) ∧ Er e := by
  unfold P_ref09_FS_walk
  have key := loop_ex (f := P_ref09_FS_walk_L0 ((l, ()), (f, ()))) (σ := Int) l.length (fun i id => ((0, (0, (id, ((i : Int), ())))), (((), ((), ())), ((f.1.1, (f.1.2.1, ((), ()))), (f.2.1, (f.1.2.2.1, ()))))))
    (fun _ _ => True) (fun r => ∃ (c : Nat) (a b id i : Int), r = (c, ((a, (b, (id, (i, ())))), (((), ((), ())), ((f.1.1, (f.1.2.1, ((), ()))), (f.2.1, (f.1.2.2.1, ())))))) ∧ Er b)
    (fun i id hi _ => by
      unfold P_ref09_FS_walk_L0
      dsimp only
      have hx : l[i]? = some l[i] := List.getElem?_eq_getElem hi
      obtain ⟨id2, e, h1, h2, _⟩ := find_ok f.1 id l[i] ht (hn _ (List.getElem_mem hi))
      rw [ltI_len, decide_eq_true hi, sel_true, idx_some' hx, obind_some, iadd_one (by omega)]
      by_cases he : e = 0
      · subst he
        exact .inl ⟨id2, ob h1 rfl, trivial⟩
      · refine .inr ⟨_, ob h1 ?_, 1, 0, e, id, i, rfl, h2⟩
        dsimp only
        rw [eqI_false he]; rfl)
    (fun id _ => ⟨_, by unfold P_ref09_FS_walk_L0; dsimp only; rw [ltI_len_end]; rfl, 0, 0, 0, id, l.length, rfl, er0⟩) 1 trivial
  obtain ⟨r, h, c, a, b, id, i, rfl, hb⟩ := key
  cases c with
  | zero => exact ⟨id, 0, ob h rfl, er0⟩
  | succ c => exact ⟨a, b, ob h rfl, hb⟩

theorem fplace_ok (f : Fs) (ht : TLen f.1) (p : List UInt8) (hp : p.length ≤ 4096) : ∃ dir nm e, P_ref09_FS_place ((p, ()), (f, ())) = some ((dir, (nm, (e, ()))), (f, ())) ∧ Er e ∧ nm.length ≤ 1000000 := by
  unfold P_ref09_FS_place
  dsimp only
  have hparts := refParts_val p (by omega)
  have hlen := length_parts p
  have hmem := parts_mem p
  generalize parts p = l at hparts hlen hmem
  by_cases h0 : l = []
  · subst h0
    exact ⟨0, [], 1, ob hparts rfl, er1, Nat.zero_le _⟩
  · have hpos : 0 < l.length := List.length_pos_iff.2 h0
    have hsub : isub .i64 (len l) 1 = ((l.length - 1 : Nat) : Int) := by rw [len_eq, isub_i64 (by omega) (by omega)]; omega
    obtain ⟨id, e, h1, h2⟩ := walk_ok f ht (l.take (l.length - 1)) (by rw [List.length_take]; omega) (fun x hx => by have := (hmem x (List.mem_of_mem_take hx)).2; omega)
    have hx : l[l.length - 1]? = some l[l.length - 1] := List.getElem?_eq_getElem (by omega)
    refine ⟨id, l[l.length - 1], e, ob hparts ?_, h2, by have := (hmem _ (List.getElem_mem (show l.length - 1 < l.length by omega))).2; omega⟩
    dsimp only
    rw [show eqI (len l) 0 = false from eqI_false (by rw [len_eq]; omega), sel_false, hsub, show inside 0 ((l.length - 1 : Nat) : Int) (len l) = true from inside_true (by omega) (by omega) (by rw [len_eq]; omega), sel_true, sub_take]
    refine ob h1 ?_
    rw [idx_some' hx]
    rfl

theorem gives_loop (f : Fs) (t' : Tb) (hl : f.2.1.length ≤ 1000000) (o id : Int) : ∃ r, Loop (P_ref09_FS_gives_L0 ((o, (id, ())), (f, ()))) (((1 : Int), ((0 : Int), ())), (((), ((), ())), ((t'.1, (t'.2.1, ((), ()))), (f.2.1, (t'.2.2.1, ()))))) = some r ∧ ∃ (hh i : Int), r = ((hh, (i, ())), (((), ((), ())), ((t'.1, (t'.2.1, ((), ()))), (f.2.1, (t'.2.2.1, ()))))) :=
  loop_ex (f := P_ref09_FS_gives_L0 ((o, (id, ())), (f, ()))) (σ := Int) 8 (fun i hh => ((hh, ((i : Int), ())), (((), ((), ())), ((t'.1, (t'.2.1, ((), ()))), (f.2.1, (t'.2.2.1, ()))))))
    (fun _ _ => True) (fun r => ∃ (hh i : Int), r = ((hh, (i, ())), (((), ((), ())), ((t'.1, (t'.2.1, ((), ()))), (f.2.1, (t'.2.2.1, ()))))))
    (fun i hh hi _ => by
      unfold P_ref09_FS_gives_L0
      dsimp only
      obtain ⟨v, hv⟩ := holds_ok (t', (f.2.1, ())) (by dsimp only; omega) o hh
      rw [ltI_true (by omega), sel_true, iadd_one (by omega)]
      rw [obind_of hv]
      dsimp only
      cases hc : ltI 0 v with
      | true => rw [sel_true, way1_inl]; exact .inl ⟨iadd .i64 hh 1, rfl, trivial⟩
      | false => rw [sel_false, way1_inr]; exact .inr ⟨_, rfl, hh, i, rfl⟩)
    (fun hh _ => ⟨_, by unfold P_ref09_FS_gives_L0; dsimp only; rw [ltI_false (by omega)]; rfl, hh, 8, rfl⟩) 1 trivial

theorem gives_ok (f : Fs) (h : TOk k k f.1) (hh' : f.2.1.length + 1 ≤ k) (hk : k ≤ 800) (o id : Int) : ∃ r f', P_ref09_FS_gives ((o, (id, ())), (f, ())) = some ((r, ()), (f', ())) ∧ ResOk r ∧ FOk k f' := by
  unfold P_ref09_FS_gives
  dsimp only
  obtain ⟨e, t', h1, h2, h3, _⟩ := hold_ok h (by omega) (by omega) id
  by_cases he : e = 0
  case neg =>
    refine ⟨(e, (0, ([], ([], ())))), (t', (f.2.1, ())), ob h1 ?_, ⟨h2, Nat.zero_le _⟩, h3, by dsimp only; omega⟩
    dsimp only
    rw [eqI_false he]; rfl
  subst he
  have key := gives_loop f t' (by omega) o id
  obtain ⟨r, hL, hh, i, rfl⟩ := key
  refine ⟨(0, (hh, ([], ([], ())))), (t', (f.2.1 ++ [(o, (hh, (id, ())))], ())), ob h1 ?_, ⟨er0, Nat.zero_le _⟩, h3, by simp; omega⟩
  dsimp only
  rw [eqI_true rfl, nt_true, sel_false]
  refine ob hL ?_
  dsimp only
  rw [fits_len2 (by simp only [List.length_singleton]; omega)]
  rfl

def clS (f : Fs) (i : Nat) (q : List Hn × Tb) : (Unit × Int × Unit) × (List Hn) × (Unit × Unit × Unit) × (Int × Int × Unit × Unit) × (List Hn) × (List Nd) × Unit := (((), ((i : Int), ())), (q.1, (((), ((), ())), ((q.2.1, (q.2.2.1, ((), ()))), (f.2.1, (q.2.2.2.1, ()))))))

theorem closes_mid (f : Fs) (q : List Hn × Tb) (x : Hn) (i : Nat) (hi : i ≤ 1000) (hq : q.1.length ≤ i ∧ TOk k k q.2) (hk : k ≤ 800) (c : Bool) {w : Bool} (hw : w = true) {o : Option Hn} (ho : o = some x) : ∃ q' : List Hn × Tb, sel c
    (sel w (obind o (fun y4 => obind (P_ref08_Table_Drop ((y4.2.2.1, ()), ((q.2.1, (q.2.2.1, (q.2.2.2.1, ()))), ()))) (fun y5 => some (((), ()), (q.1, (((), ((), ())), ((y5.2.1.1, (y5.2.1.2.1, ((), ()))), (f.2.1, (y5.2.1.2.2.1, ()))))))))) none)
    (sel w (obind o (fun y4 => sel (fits (plus (len q.1) (len ([y4] : List Hn)))) (some (((), ()), (app q.1 ([y4] : List Hn), (((), ((), ())), ((q.2.1, (q.2.2.1, ((), ()))), (f.2.1, (q.2.2.2.1, ()))))))) none)) none) =
    some (((), ()), (q'.1, (((), ((), ())), ((q'.2.1, (q'.2.2.1, ((), ()))), (f.2.1, (q'.2.2.2.1, ())))))) ∧ q'.1.length ≤ i + 1 ∧ TOk k k q'.2 := by
  subst hw; subst ho
  cases c with
  | true =>
    obtain ⟨e, t', d1, _, d3⟩ := drop_ok hq.2 (by omega) (by omega) x.2.2.1
    exact ⟨(q.1, t'), ob d1 rfl, by have := hq.1; dsimp only; omega, d3⟩
  | false =>
    refine ⟨(q.1 ++ [x], q.2), ?_, by have := hq.1; simp; omega, hq.2⟩
    rw [sel_false, sel_true, obind_some, fits_len2 (by have := hq.1; simp only [List.length_singleton]; omega)]; rfl

theorem closes_tst (x : Hn) (a hh : Int) {w : Bool} (hw : w = true) {o : Option Hn} (ho : o = some x) : ∃ c : Bool, sel (eqI x.1 a) (obind (sel (nt (eqI hh 0)) (sel w (obind o (fun y3 => some (eqI y3.2.1 hh))) none) (some true)) fun y3 => some y3) (some false) = some c := by
  subst hw; subst ho
  cases eqI x.1 a
  · exact ⟨_, rfl⟩
  · cases nt (eqI hh 0)
    · exact ⟨_, rfl⟩
    · exact ⟨_, rfl⟩

theorem closes_step (f : Fs) (hf : f.2.1.length ≤ 1000) (o hh : Int) (q : List Hn × Tb) (i : Nat) (hi : i < f.2.1.length) (hq : q.1.length ≤ i ∧ TOk k k q.2) (hk : k ≤ 800) :
    ∃ q', P_ref09_FS_closes_L0 ((o, (hh, ())), (f, ())) (clS f i q) = some (.inl (clS f (i + 1) q')) ∧ q'.1.length ≤ i + 1 ∧ TOk k k q'.2 := by
  have hx : idx f.2.1 (i : Int) = some f.2.1[i] := idx_some' (List.getElem?_eq_getElem hi)
  have hw : within (i : Int) (len f.2.1) = true := within_true (by omega) (by rw [len_eq]; omega)
  obtain ⟨c, hc⟩ := closes_tst f.2.1[i] o hh (w := true) rfl hx
  obtain ⟨q', s1, s2, s3⟩ := closes_mid f q f.2.1[i] i (by omega) hq hk c (w := true) rfl hx
  refine ⟨q', ?_, s2, s3⟩
  unfold P_ref09_FS_closes_L0 clS
  dsimp only
  have hl : ltI (i : Int) (len f.2.1) = true := ltI_len_true hi
  rw [hl, sel_true, hw, sel_true]
  refine Eq.trans (congrArg way1 (ob hx (ob hc (ob s1 rfl)))) ?_
  rw [way1_inl, iadd_one (by omega)]

theorem closes_end (f : Fs) (o hh : Int) (q : List Hn × Tb) : P_ref09_FS_closes_L0 ((o, (hh, ())), (f, ())) (clS f f.2.1.length q) = some (.inr (clS f f.2.1.length q)) := by
  unfold P_ref09_FS_closes_L0 clS
  dsimp only
  rw [ltI_len_end]; rfl

theorem closes_ok (f : Fs) (h : FOk k f) (hk : k ≤ 800) (o hh : Int) : ∃ f', P_ref09_FS_closes ((o, (hh, ())), (f, ())) = some ((), (f', ())) ∧ FOk k f' := by
  unfold P_ref09_FS_closes
  have hl := h.2
  have key := loop_ex (f := P_ref09_FS_closes_L0 ((o, (hh, ())), (f, ()))) (σ := List Hn × Tb) f.2.1.length (clS f)
    (fun i q => q.1.length ≤ i ∧ TOk k k q.2) (fun r => ∃ (i : Nat) (q : List Hn × Tb), r = clS f i q ∧ q.1.length ≤ k ∧ TOk k k q.2)
    (fun i q hi hq => .inl (by
      obtain ⟨q', s1, s2, s3⟩ := closes_step f (by omega) o hh q i hi hq hk
      exact ⟨q', s1, s2, s3⟩))
    (fun q hq => ⟨_, closes_end f o hh q, f.2.1.length, q, rfl, by have := hq.1; omega, hq.2⟩) ([], f.1) ⟨Nat.zero_le _, h.1⟩
  obtain ⟨r, hL, i, q, rfl, q1, q2⟩ := key
  exact ⟨(q.2, (q.1, ())), ob hL rfl, q2, q1⟩
end Go.Ge

/- The document's file system, disk and world (ref09, ref10, ref11, ref25): operations are answered, and leave it sound. -/
namespace Go.Ge
set_option linter.unusedSectionVars false
set_option linter.unusedVariables false
set_option linter.unusedSimpArgs false
variable [Lp] {k : Nat}

theorem right_ok (op : Opr) (hp : op.2.1.length ≤ 4096) (ht : op.2.2.1.length ≤ 4096) : Ok (fun _ => True) (P_ref09_right (op, ())) := by
  have h1 := refIs_val op.2.1 (by omega)
  have h2 := refIs_val op.2.2.1 (by omega)
  unfold P_ref09_right
  dsimp only
  have i1 : Ok (fun _ => True) (sel (nt (eqS op.2.1 ([] : List UInt8))) (obind (P_ref07_Is (op.2.1, ())) (fun y1 => some y1.1)) (some false)) := Ok.sel (Ok.ob h1 (Ok.some trivial)) (Ok.some trivial)
  refine Ok.sel (Ok.ok i1 fun x _ => Ok.some trivial) (Ok.sel ?_ (Ok.sel (Ok.ob h1 (Ok.some trivial)) (Ok.some trivial)))
  refine Ok.ok i1 fun x _ => Ok.ok (R := fun _ => True) ?_ fun y _ => Ok.some trivial
  exact Ok.sel (Ok.ob h2 (Ok.some trivial)) (Ok.some trivial)

/-- What an operation comes to. -/
abbrev DoR (k : Nat) (y : (Rs × Unit) × Fs × Unit) : Prop := ResOk y.1.1 ∧ FOk k y.2.1

theorem resE {e : Int} (h : Er e) (n : Int) (d : List UInt8) : ResOk (e, (n, (d, ([], ())))) := ⟨h, Nat.zero_le _⟩

theorem handled_ok (f : Fs) (h : FOk k f) (hk : k ≤ 700) (o : Int) (op : Opr) (hd : op.2.2.2.2.2.2.1.length ≤ 4096) : Ok (DoR k) (P_ref09_FS_handled ((o, (op, ())), (f, ()))) := by
  have hl := h.2
  have hT := h.1.len (by omega) (by omega)
  unfold P_ref09_FS_handled
  dsimp only
  obtain ⟨v, hv⟩ := holds_ok f (by omega) o op.2.2.2.1
  refine Ok.ob hv ?_
  dsimp only
  refine Ok.sel (Ok.some ⟨resE ⟨by decide, by decide⟩ _ _, h⟩) (Ok.sel ?_ (Ok.sel ?_ (Ok.sel ?_ (Ok.sel ?_ ?_))))
  · obtain ⟨f', c1, c2⟩ := closes_ok f h (by omega) o op.2.2.2.1
    exact Ok.ob c1 (Ok.some ⟨resE er0 _ _, c2⟩)
  · obtain ⟨s, e, c1, c2, _⟩ := read_ok f.1 v op.2.2.2.2.1 op.2.2.2.2.2.1 hT
    exact Ok.ob c1 (Ok.some ⟨resE c2 _ _, h⟩)
  · obtain ⟨e, t', c1, c2, c3⟩ := write_ok h.1 (by omega) (by omega) v op.2.2.2.2.1 op.2.2.2.2.2.2.1 (by omega)
    exact Ok.ob c1 (Ok.some ⟨resE c2 _ _, c3, h.2⟩)
  · obtain ⟨e, t', c1, c2, c3⟩ := trunc_ok h.1 (by omega) (by omega) v op.2.2.2.2.2.1
    exact Ok.ob c1 (Ok.some ⟨resE c2 _ _, c3, h.2⟩)
  · obtain ⟨s, e, c1, c2, _⟩ := read_ok f.1 v 0 1048576 hT
    exact Ok.ob c1 (Ok.some ⟨resE c2 _ _, h⟩)

theorem links_ok (f : Fs) (h : FOk k f) (hk : k ≤ 700) (dir : Int) (nm p : List UInt8) (hn : nm.length ≤ 1000000) (hp : p.length ≤ 4096) : Ok (DoR (k + 1)) (P_ref09_FS_links ((dir, (nm, (p, ()))), (f, ()))) := by
  have h' : FOk (k + 1) f := h.mono (by omega)
  have hT := h.1.len (by omega) (by omega)
  unfold P_ref09_FS_links
  dsimp only
  obtain ⟨id, e, c1, c2, _⟩ := find_ok f.1 dir nm hT hn
  refine Ok.ob c1 ?_
  dsimp only
  refine Ok.sel (Ok.some ⟨resE c2 _ _, h'⟩) ?_
  obtain ⟨to, nn, e2, d1, d2, d3⟩ := fplace_ok f hT p hp
  refine Ok.ob d1 ?_
  dsimp only
  refine Ok.sel (Ok.some ⟨resE d2 _ _, h'⟩) ?_
  obtain ⟨e3, t', l1, l2, l3, _⟩ := link_ok h.1 (by omega) (by omega) id to nn d3
  exact Ok.ob l1 (Ok.some ⟨resE l2 _ _, l3.mono (by omega) (Nat.le_refl _), by have := h.2; dsimp only; omega⟩)

/-- What is done behind a path was found. -/
theorem fsdo_tail (f : Fs) (h : FOk k f) (hk : k ≤ 700) (o : Int) (op : Opr) (ht : op.2.2.1.length ≤ 4096) (dir : Int) (nm : List UInt8) (hn : nm.length ≤ 1000000) (c1 c2 c3 c4 c5 c6 : Bool) :
    Ok (DoR (k + 1)) (sel c1
  (obind (P_ref08_Table_Make ((dir, (nm, (true, ()))), (f.1, ()))) (fun y3 => some (((y3.1.2.1, ((0 : Int), (([] : List (UInt8)), (([] : List (List (UInt8))), ())))), ()), (((y3.2.1.1, (y3.2.1.2.1, (y3.2.1.2.2.1, ()))), (f.2.1, ())), ()))))
  (sel c2
  (obind (P_ref08_Table_Remove ((dir, (nm, ())), (f.1, ()))) (fun y3 => some (((y3.1.1, ((0 : Int), (([] : List (UInt8)), (([] : List (List (UInt8))), ())))), ()), (((y3.2.1.1, (y3.2.1.2.1, (y3.2.1.2.2.1, ()))), (f.2.1, ())), ()))))
  (sel c3
  (obind (P_ref08_Table_Unlink ((dir, (nm, ())), (f.1, ()))) (fun y3 => some (((y3.1.1, ((0 : Int), (([] : List (UInt8)), (([] : List (List (UInt8))), ())))), ()), (((y3.2.1.1, (y3.2.1.2.1, (y3.2.1.2.2.1, ()))), (f.2.1, ())), ()))))
  (sel c4
  (obind (P_ref08_Table_Make ((dir, (nm, (false, ()))), (f.1, ()))) (fun y3 => sel (nt (eqI y3.1.2.1 0))
  (some (((y3.1.2.1, ((0 : Int), (([] : List (UInt8)), (([] : List (List (UInt8))), ())))), ()), (((y3.2.1.1, (y3.2.1.2.1, (y3.2.1.2.2.1, ()))), (f.2.1, ())), ())))
  (obind (P_ref09_FS_gives ((o, (y3.1.1, ())), (((y3.2.1.1, (y3.2.1.2.1, (y3.2.1.2.2.1, ()))), (f.2.1, ())), ()))) (fun y4 => some ((y4.1.1, ()), (((y4.2.1.1.1, (y4.2.1.1.2.1, (y4.2.1.1.2.2.1, ()))), (y4.2.1.2.1, ())), ()))))))
  (sel c5
  (obind (P_ref08_Table_Find ((dir, (nm, ())), (f.1, ()))) (fun y3 => sel (nt (eqI y3.1.2.1 0))
  (some (((y3.1.2.1, ((0 : Int), (([] : List (UInt8)), (([] : List (List (UInt8))), ())))), ()), (((y3.2.1.1, (y3.2.1.2.1, (y3.2.1.2.2.1, ()))), (f.2.1, ())), ())))
  (obind (P_ref09_FS_gives ((o, (y3.1.1, ())), (((y3.2.1.1, (y3.2.1.2.1, (y3.2.1.2.2.1, ()))), (f.2.1, ())), ()))) (fun y4 => some ((y4.1.1, ()), (((y4.2.1.1.1, (y4.2.1.1.2.1, (y4.2.1.1.2.2.1, ()))), (y4.2.1.2.1, ())), ()))))))
  (sel c6
  (obind (P_ref09_FS_links ((dir, (nm, (op.2.2.1, ()))), (f, ()))) (fun y3 => some ((y3.1.1, ()), (((y3.2.1.1.1, (y3.2.1.1.2.1, (y3.2.1.1.2.2.1, ()))), (y3.2.1.2.1, ())), ()))))
  (obind (P_ref09_FS_place ((op.2.2.1, ()), (f, ()))) (fun y3 => sel (nt (eqI y3.1.2.2.1 0))
  (some (((y3.1.2.2.1, ((0 : Int), (([] : List (UInt8)), (([] : List (List (UInt8))), ())))), ()), (((y3.2.1.1.1, (y3.2.1.1.2.1, (y3.2.1.1.2.2.1, ()))), (y3.2.1.2.1, ())), ())))
  (obind (P_ref08_Table_Rename ((dir, (nm, (y3.1.1, (y3.1.2.1, ())))), ((y3.2.1.1.1, (y3.2.1.1.2.1, (y3.2.1.1.2.2.1, ()))), ()))) (fun y4 => some (((y4.1.1, ((0 : Int), (([] : List (UInt8)), (([] : List (List (UInt8))), ())))), ()), (((y4.2.1.1, (y4.2.1.2.1, (y4.2.1.2.2.1, ()))), (y3.2.1.2.1, ())), ())))))))))))) := by
  have hT := h.1.len (by omega) (by omega)
  have hl := h.2
  have mk : ∀ {t' : Tb}, TOk (k + 1) (k + 1) t' → FOk (k + 1) (t', (f.2.1, ())) := fun q => ⟨q, by dsimp only; omega⟩
  have up : ∀ {f' : Fs}, FOk (k + 1) f' → FOk (k + 1) f' := fun q => q
  refine Ok.sel ?_ (Ok.sel ?_ (Ok.sel ?_ (Ok.sel ?_ (Ok.sel ?_ (Ok.sel ?_ ?_)))))
  · obtain ⟨id, e, t', a1, a2, a3, _⟩ := make_ok h.1 (by omega) (by omega) dir nm true hn
    exact Ok.ob a1 (Ok.some ⟨resE a2 _ _, up (mk a3)⟩)
  · obtain ⟨e, t', a1, a2, a3⟩ := remove_ok h.1 (by omega) (by omega) dir nm hn
    exact Ok.ob a1 (Ok.some ⟨resE a2 _ _, up (mk (a3.mono (by omega) (by omega)))⟩)
  · obtain ⟨e, t', a1, a2, a3⟩ := unlink_ok h.1 (by omega) (by omega) dir nm hn
    exact Ok.ob a1 (Ok.some ⟨resE a2 _ _, up (mk (a3.mono (by omega) (by omega)))⟩)
  · obtain ⟨id, e, t', a1, a2, a3, _⟩ := make_ok h.1 (by omega) (by omega) dir nm false hn
    refine Ok.ob a1 (Ok.sel (Ok.some ⟨resE a2 _ _, up (mk a3)⟩) ?_)
    obtain ⟨r, f', g1, g2, g3⟩ := gives_ok (t', (f.2.1, ())) a3 (by dsimp only; omega) (by omega) o id
    exact Ok.ob g1 (Ok.some ⟨g2, g3⟩)
  · obtain ⟨id, e, a1, a2, _⟩ := find_ok f.1 dir nm hT hn
    refine Ok.ob a1 (Ok.sel (Ok.some ⟨resE a2 _ _, up (h.mono (by omega))⟩) ?_)
    obtain ⟨r, f', g1, g2, g3⟩ := gives_ok f (h.1.mono (Nat.le_succ _) (Nat.le_succ _)) (by omega) (by omega) o id
    exact Ok.ob g1 (Ok.some ⟨g2, up g3⟩)
  · obtain ⟨y, l1, l2, l3⟩ := links_ok f h hk dir nm op.2.2.1 hn ht
    exact Ok.ob l1 (Ok.some ⟨l2, up l3⟩)
  · obtain ⟨to, nn, e2, d1, d2, d3⟩ := fplace_ok f hT op.2.2.1 ht
    refine Ok.ob d1 (Ok.sel (Ok.some ⟨resE d2 _ _, up (h.mono (by omega))⟩) ?_)
    obtain ⟨e, t', a1, a2, a3⟩ := rename_ok h.1 (by omega) (by omega) dir nm to nn hn d3
    exact Ok.ob a1 (Ok.some ⟨resE a2 _ _, up (mk (a3.mono (by omega) (Nat.le_refl _)))⟩)

/-- An operation of few bytes. -/
def OpOk (op : Opr) : Prop := op.2.1.length ≤ 4096 ∧ op.2.2.1.length ≤ 4096 ∧ op.2.2.2.2.2.2.1.length ≤ 4096

theorem fsdo_ok (f : Fs) (h : FOk k f) (hk : k ≤ 700) (o : Int) (op : Opr) (ho : OpOk op) : Ok (DoR (k + 1)) (P_ref09_FS_Do ((o, (op, ())), (f, ()))) := by
  have hT := h.1.len (by omega) (by omega)
  have h2 : FOk (k + 1) f := h.mono (by omega)
  have hl := h.2
  unfold P_ref09_FS_Do
  dsimp only
  refine Ok.ok (right_ok op ho.1 ho.2.1) fun b _ => Ok.sel (Ok.some ⟨resE er1 _ _, h2⟩) (Ok.sel ?_ (Ok.sel ?_ (Ok.sel ?_ ?_)))
  · obtain ⟨y, a1, a2, a3⟩ := handled_ok f h hk o op ho.2.2
    exact Ok.ob a1 (Ok.some ⟨a2, a3.mono (by omega)⟩)
  · have hp := refParts_val op.2.1 (by have := ho.1; omega)
    have hlen := length_parts op.2.1
    obtain ⟨id, e, w1, w2⟩ := walk_ok f hT (parts op.2.1) (by have := ho.1; omega) (fun x hx => by have := (parts_mem op.2.1 x hx).2; have := ho.1; omega)
    refine Ok.ob hp (Ok.ob w1 (Ok.sel (Ok.some ⟨resE w2 _ _, h2⟩) ?_))
    obtain ⟨l, e2, l1, l2, l3⟩ := list_ok f.1 id hT
    exact Ok.ob l1 (Ok.some ⟨⟨l2, l3⟩, h2⟩)
  · obtain ⟨v, hv⟩ := many_ok f (by omega) o
    refine Ok.ob hv (Ok.sel (Ok.some ⟨resE er5 _ _, h2⟩) ?_)
    obtain ⟨dir, nm, e, p1, p2, p3⟩ := fplace_ok f hT op.2.1 ho.1
    refine Ok.ob p1 (Ok.sel (Ok.some ⟨resE p2 _ _, h2⟩) ?_)
    exact fsdo_tail f h hk o op ho.2.1 dir nm p3 _ _ _ _ _ _
  · obtain ⟨dir, nm, e, p1, p2, p3⟩ := fplace_ok f hT op.2.1 ho.1
    refine Ok.ob p1 (Ok.sel (Ok.some ⟨resE p2 _ _, h2⟩) ?_)
    exact fsdo_tail f h hk o op ho.2.1 dir nm p3 _ _ _ _ _ _

/-- What a disk keeps: of its base no more than that it can be copied. -/
def DOk (k : Nat) (d : Dk) : Prop := FOk k d.1 ∧ d.2.2.1.length ≤ k

theorem sync_ok (d : Dk) (h : DOk k d) (hk : k ≤ 700) : ∃ d', P_ref10_Disk_sync ((), (d, ())) = some ((), (d', ())) ∧ DOk k d' := by
  have h1 := h.1.1.l
  have h2 := h.1.2
  unfold P_ref10_Disk_sync
  dsimp only
  refine ⟨(d.1, ((d.1.1.1, (d.1.1.2.1, (d.1.1.2.2.1, ()))), (d.1.2.1, ())), ([], ())), ?_, h.1, Nat.zero_le _⟩
  rw [fits_len2 (by simp only [List.length_nil]; omega), sel_true, fits_len2 (by simp only [List.length_nil]; omega)]
  rfl

theorem ddo_ok (d : Dk) (h : DOk k d) (hk : k ≤ 600) (o : Int) (op : Opr) (ho : OpOk op) : Ok (fun y : (Rs × Unit) × Dk × Unit => ResOk y.1.1 ∧ DOk (k + 1) y.2.1) (P_ref10_Disk_Do ((o, (op, ())), (d, ()))) := by
  unfold P_ref10_Disk_Do
  dsimp only
  refine Ok.sel ?_ ?_
  · obtain ⟨d', s1, s2⟩ := sync_ok d h (by omega)
    exact Ok.ob s1 (Ok.some ⟨resE er0 _ _, s2.1.mono (by omega), by have := s2.2; dsimp only; omega⟩)
  · obtain ⟨y, a1, a2, a3⟩ := fsdo_ok d.1 h.1 (by omega) o op ho
    have hl := h.2
    refine Ok.ob a1 (Ok.ok (R := fun z : Unit × (Unit × Unit × Unit × Unit) × (Unit × Unit × Unit) × (Unit × Unit × Unit) × List Ac9 × (Int × Int × Unit × Unit) × List Hn × (Int × Int × Unit × Unit) × List Hn × List Nd × List Nd × Unit => z.2.2.2.2.1.length ≤ k + 1 ∧ z.2.2.2.2.2.1 = (y.2.1.1.1, (y.2.1.1.2.1, ((), ()))) ∧ z.2.2.2.2.2.2.1 = y.2.1.2.1 ∧ z.2.2.2.2.2.2.2.2.2.1 = y.2.1.1.2.2.1) ?_ fun z hz => Ok.some ⟨a2, ?_, ?_⟩)
    · refine Ok.sel ?_ (Ok.some ⟨by dsimp only; omega, rfl, rfl, rfl⟩)
      refine Ok.need (fits_len2 (by simp only [List.length_singleton]; omega)) (Ok.some ⟨by simp only [app_eq, List.length_append, List.length_singleton]; omega, rfl, rfl, rfl⟩)
    · obtain ⟨z1, z2, z3, z4⟩ := hz
      dsimp only
      rw [z2, z3, z4]
      exact a3
    · have := hz.1; dsimp only; omega
end Go.Ge

/- The document's world (ref25): it answers operations; what files there are (ref09). -/
namespace Go.Ge
set_option linter.unusedSectionVars false
set_option linter.unusedVariables false
set_option linter.unusedSimpArgs false
variable [Lp] {k : Nat}

theorem birth_ok (t : Pt) (hl : t.1.length ≤ 1000) (pid : Int) : ∃ n e, P_ref11_Table_Birth ((pid, ()), (t, ())) = some ((n, (e, ())), (t, ())) := by
  unfold P_ref11_Table_Birth
  rcases srch (f := P_ref11_Table_Birth_L0 ((pid, ()), (t, ()))) t.1 (fun i => ((0, (0, (i, ()))), ())) (fun _ x => decide (x.1 = pid)) (fun i x => (1, ((x.2.1, (0, ((i : Int), ()))), ()))) (0, ((0, (0, ((t.1.length : Int), ()))), ())) (by omega)
    (fun i x hx hi hadd => by
      unfold P_ref11_Table_Birth_L0
      dsimp only
      have hw : within (i : Int) (len t.1) = true := within_true (by omega) (by rw [len_eq]; omega)
      rw [ltI_len, decide_eq_true hi, sel_true, hw, sel_true, idx_some' hx, obind_some, sel_true, obind_some, hadd]
      by_cases h : x.1 = pid
      · rw [eqI_true h]; simp [h, sel]
      · rw [eqI_false h]; simp [h, sel])
    (by unfold P_ref11_Table_Birth_L0; dsimp only; rw [ltI_len_end]; rfl) with ⟨i, x, hx, hp, hj, h⟩ | ⟨hn, h⟩
  · exact ⟨x.2.1, 0, ob h rfl⟩
  · exact ⟨0, 3, ob h rfl⟩

theorem alive_ok (t : Pt) (hl : t.1.length ≤ 1000) (pid b : Int) : ∃ r, P_ref11_Table_Alive ((pid, (b, ())), (t, ())) = some ((r, ()), (t, ())) := by
  unfold P_ref11_Table_Alive
  obtain ⟨n, e, h⟩ := birth_ok t hl pid
  exact ⟨_, ob h rfl⟩

def WOk (k : Nat) (w : Wd) : Prop := DOk k w.1 ∧ w.2.1.1.length ≤ 1000

theorem wdo_ok (w : Wd) (h : WOk k w) (hk : k ≤ 600) (pid : Int) (op : Opr) (ho : OpOk op) : Ok (fun y : (Rs × Unit) × Wd × Unit => ResOk y.1.1 ∧ WOk (k + 1) y.2.1) (P_ref25_World_Do ((pid, (op, ())), (w, ()))) := by
  have hm : WOk (k + 1) w := ⟨⟨h.1.1.mono (by omega), by have := h.1.2; omega⟩, h.2⟩
  unfold P_ref25_World_Do
  dsimp only
  obtain ⟨n, e, hb⟩ := birth_ok w.2.1 h.2 pid
  refine Ok.ob hb (Ok.sel (Ok.some ⟨resE er3 _ _, hm⟩) (Ok.sel ?_ ?_))
  · obtain ⟨r, ha⟩ := alive_ok w.2.1 h.2 op.2.2.2.2.2.2.2.1 op.2.2.2.2.2.2.2.2.1
    exact Ok.ob ha (Ok.sel (Ok.some ⟨resE er0 _ _, hm⟩) (Ok.some ⟨resE er0 _ _, hm⟩))
  · obtain ⟨y, a1, a2, a3⟩ := ddo_ok w.1 h.1 hk n op ho
    exact Ok.ob a1 (Ok.some ⟨a2, a3, h.2⟩)

theorem node_val (f : Fs) (id : Int) (hl : f.1.2.2.1.length ≤ 1000000) : P_ref09_FS_node ((id, ()), (f, ())) = some (((getN f.1.2.2.1 id).getD zN, ()), (f, ())) := by
  unfold P_ref09_FS_node
  rcases srch (f := P_ref09_FS_node_L0 ((id, ()), (f, ()))) f.1.2.2.1 (fun i => ((i, ()), (zN, ()))) (fun _ x => decide (x.1 = id)) (fun i x => (1, (((i : Int), ()), (x, ())))) (0, (((f.1.2.2.1.length : Int), ()), (zN, ()))) (by omega)
    (fun i x hx hi hadd => by
      unfold P_ref09_FS_node_L0
      dsimp only
      have hw : within (i : Int) (len f.1.2.2.1) = true := within_true (by omega) (by rw [len_eq]; omega)
      rw [ltI_len, decide_eq_true hi, sel_true, hw, sel_true, idx_some' hx, obind_some, sel_true, obind_some, hadd]
      by_cases h : x.1 = id
      · rw [eqI_true h]; simp [h, sel]
      · rw [eqI_false h]; simp [h, sel])
    (by unfold P_ref09_FS_node_L0; dsimp only; rw [ltI_len_end]; rfl) with ⟨i, x, hx, hp, hj, h⟩ | ⟨hn, h⟩
  · refine ob h ?_
    have e : getN f.1.2.2.1 id = some x := find_first hx hp hj
    rw [e]; rfl
  · refine ob h ?_
    have e : getN f.1.2.2.1 id = none := find_not hn
    rw [e]; rfl

/-- How many names those have that have a number from one on. -/
def nfrom (L : List Nd) (id : Int) : Nat := nms (L.filter fun x => decide (id ≤ x.1))

theorem nms_filter (L : List Nd) (p : Nd → Bool) : nms (L.filter p) ≤ nms L := by
  induction L with
  | nil => exact Nat.le_refl _
  | cons x r ih =>
    rw [List.filter_cons]
    split
    · simp only [nms]; omega
    · simp only [nms]; omega

theorem nfrom_lt {L : List Nd} {x : Nd} (hx : x ∈ L) {c : Int} (hc : x.1 < c) : nfrom L c + x.2.2.2.2.2.1.length ≤ nfrom L x.1 := by
  have mono : ∀ M : List Nd, nfrom M c ≤ nfrom M x.1 := by
    intro M
    induction M with
    | nil => exact Nat.le_refl _
    | cons y r ih =>
      unfold nfrom at ih ⊢
      rw [List.filter_cons, List.filter_cons]
      by_cases h1 : c ≤ y.1
      · rw [if_pos (by simpa using h1), if_pos (by simp; omega)]; simp only [nms]; omega
      · rw [if_neg (by simpa using h1)]
        split
        · simp only [nms]; omega
        · exact ih
  induction L with
  | nil => cases hx
  | cons y r ih =>
    rcases List.mem_cons.1 hx with rfl | hx
    · have := mono r
      unfold nfrom at this ⊢
      rw [List.filter_cons, List.filter_cons, if_neg (by simpa using hc), if_pos (by simp)]
      simp only [nms]; omega
    · have := ih hx
      unfold nfrom at this ⊢
      rw [List.filter_cons, List.filter_cons]
      by_cases h1 : c ≤ y.1
      · rw [if_pos (by simpa using h1), if_pos (by simp; omega)]; simp only [nms]; omega
      · rw [if_neg (by simpa using h1)]
        split
        · simp only [nms]; omega
        · exact this

theorem joinP_len (d n : List UInt8) : (joinP d n).length ≤ d.length + n.length + 1 := by
  unfold joinP
  split <;> simp <;> omega

abbrev Fl := List UInt8 × Bool × List UInt8 × Unit

theorem pow_step {m T : Nat} (h : m ≤ T) : m * 2 ^ (T - m) + 1 ≤ 2 ^ T := by
  have h1 : 2 ^ T = 2 ^ m * 2 ^ (T - m) := by rw [← Nat.pow_add]; congr 1; omega
  have h2 : m < 2 ^ m := Nat.lt_two_pow_self
  have h3 : 0 < 2 ^ (T - m) := Nat.pow_pos (by decide)
  rw [h1]
  have := Nat.mul_le_mul_right (2 ^ (T - m)) (show m + 1 ≤ 2 ^ m by omega)
  rw [Nat.add_mul] at this
  omega

theorem nfrom_mem {L : List Nd} {x : Nd} (hx : x ∈ L) : x.2.2.2.2.2.1.length ≤ nfrom L x.1 := nms_mem (List.mem_filter.2 ⟨hx, by simp⟩)

/-- How much may be below what has a number. -/
def much (L : List Nd) (id : Int) : Nat := match getN L id with | some x => if x.2.1 = true then nfrom L x.1 else 0 | none => 0

theorem getN_none {L : List Nd} {id : Int} (h : ∀ x ∈ L, x.1 ≠ id) : getN L id = none := by
  unfold getN
  rw [List.find?_eq_none]
  intro x hx
  simp [h x hx]

theorem much_facts {t : Tb} (h : TOk k k t) (id : Int) : ((getN t.2.2.1 id).getD zN).2.2.2.2.2.1.length ≤ much t.2.2.1 id ∧ much t.2.2.1 id ≤ k ∧
    ∀ e ∈ ((getN t.2.2.1 id).getD zN).2.2.2.2.2.1, e.1.length ≤ 32 ∧ much t.2.2.1 ((getN t.2.2.1 e.2.1).getD zN).1 + ((getN t.2.2.1 id).getD zN).2.2.2.2.2.1.length ≤ much t.2.2.1 id := by
  unfold much
  cases e : getN t.2.2.1 id with
  | none => exact ⟨Nat.le_refl _, Nat.zero_le _, fun x hx => by cases hx⟩
  | some x =>
    obtain ⟨hx, hx1⟩ := getN_mem e
    cases hd : x.2.1 with
    | false =>
      have hn := h.fl x hx hd
      refine ⟨?_, ?_, fun q hq => ?_⟩
      · simp [hn, hd]
      · simp [hd]
      · rw [show ((some x).getD zN) = x from rfl, hn] at hq; cases hq
    | true =>
      refine ⟨?_, ?_, fun q hq => ⟨h.nm x hx q hq, ?_⟩⟩
      · simp only [Option.getD, if_pos hd]; exact nfrom_mem hx
      · simp only [if_pos hd]; exact Nat.le_trans (nms_filter _ _) h.s
      · show (match getN t.2.2.1 ((getN t.2.2.1 q.2.1).getD zN).1 with | some x => if x.2.1 = true then nfrom t.2.2.1 x.1 else 0 | none => 0) + x.2.2.2.2.2.1.length ≤ if x.2.1 = true then nfrom t.2.2.1 x.1 else 0
        rw [if_pos hd]
        cases e2 : getN t.2.2.1 q.2.1 with
        | none =>
          rw [show ((none : Option Nd).getD zN).1 = 0 from rfl, getN_none (L := t.2.2.1) (id := 0) fun z hz => by have := h.pos z hz; omega]
          simp only [Nat.zero_add]; exact nfrom_mem hx
        | some y =>
          obtain ⟨hy, hy1⟩ := getN_mem e2
          rw [show ((some y).getD zN) = y from rfl, hy1, e2]
          cases hyd : y.2.1 with
          | false => simp only [if_neg (show ¬ (y.2.1 = true) by rw [hyd]; decide), Nat.zero_add]; exact nfrom_mem hx
          | true =>
            simp only [if_pos hyd]
            exact nfrom_lt hx (h.ac x hx q hq y hy hy1 hyd)

def unS (f : Fs) (i : Nat) (out : List Fl) : (Unit × Int × Unit) × (List Fl) × (Unit × Unit × Unit) × (Int × Int × Unit × Unit) × (List Hn) × (List Nd) × Unit := (((), ((i : Int), ())), (out, (((), ((), ())), ((f.1.1, (f.1.2.1, ((), ()))), (f.2.1, (f.1.2.2.1, ()))))))

/-- All below a directory, told by how many names there are. -/
theorem under_ok (f : Fs) (h : FOk k f) (hk : k ≤ 30) : ∀ (fuel : Nat) (id : Int) (p : List UInt8) (d : Nat), 41 ≤ fuel + d → p.length ≤ 40 * d → d ≤ 40 →
    ∃ out : List Fl, S_ref09_FS_under fuel ((id, (p, ((d : Int), ()))), (f, ())) = some ((out, ()), (f, ())) ∧ out.length + 1 ≤ 2 ^ much f.1.2.2.1 id := by
  have hl : f.1.2.2.1.length ≤ 1000000 := by have := h.1.l; omega
  intro fuel
  induction fuel with
  | zero => intro id p d h1 _ h2; omega
  | succ n ih =>
    intro id p d hf hp hd
    have hnode := node_val f id hl
    obtain ⟨f1, f2, f3⟩ := much_facts h.1 id
    generalize hx : (getN f.1.2.2.1 id).getD zN = x at hnode f1 f3
    generalize much f.1.2.2.1 id = T at f1 f2 f3
    have hpow : 2 ^ T ≤ 2 ^ 30 := Nat.pow_le_pow_right (by decide) (by omega)
    have hstep := pow_step f1
    have hP : 0 < 2 ^ (T - x.2.2.2.2.2.1.length) := Nat.pow_pos (by decide)
    generalize hB : 2 ^ (T - x.2.2.2.2.2.1.length) = B at hstep hP
    have key := loop_ex (f := F_ref09_FS_under_L0 (S_ref09_FS_under n) ((id, (p, ((d : Int), ()))), (f, ())) ((x, ()), (f, ()))) (σ := List Fl) x.2.2.2.2.2.1.length (unS f)
      (fun i out => out.length ≤ i * B) (fun r => ∃ (i : Nat) (out : List Fl), r = unS f i out ∧ out.length ≤ x.2.2.2.2.2.1.length * B)
      (fun i out hi ho => by
        have hxi : idx x.2.2.2.2.2.1 (i : Int) = some x.2.2.2.2.2.1[i] := idx_some' (List.getElem?_eq_getElem hi)
        have hlt : ltI (i : Int) (len x.2.2.2.2.2.1) = true := ltI_len_true hi
        have hiB : (i + 1) * B ≤ x.2.2.2.2.2.1.length * B := Nat.mul_le_mul_right _ hi
        rw [Nat.add_mul, Nat.one_mul] at hiB
        by_cases hd40 : d < 40
        · obtain ⟨g1, g2⟩ := f3 _ (List.getElem_mem hi)
          have hn2 := node_val f x.2.2.2.2.2.1[i].2.1 hl
          have hj := refpjoin_val p x.2.2.2.2.2.1[i].1 (by omega) (by omega)
          have hjl := joinP_len p x.2.2.2.2.2.1[i].1
          generalize (getN f.1.2.2.1 x.2.2.2.2.2.1[i].2.1).getD zN = y at hn2 g2
          obtain ⟨out2, o1, o2⟩ := ih y.1 (joinP p x.2.2.2.2.2.1[i].1) (d + 1) (by omega) (by omega) (by omega)
          have hle : 2 ^ much f.1.2.2.1 y.1 ≤ B := by rw [← hB]; exact Nat.pow_le_pow_right (by decide) (by omega)
          have o1' : S_ref09_FS_under n ((y.1, (joinP p x.2.2.2.2.2.1[i].1, (iadd .i64 (d : Int) 1, ()))), (f, ())) = some ((out2, ()), (f, ())) := by rw [iadd_one (by omega)]; exact o1
          refine .inl ⟨app (app out [(joinP p x.2.2.2.2.2.1[i].1, (y.2.1, (y.2.2.2.2.1, ())))]) out2, ?_, ?_⟩
          · unfold F_ref09_FS_under_L0 unS
            dsimp only
            rw [hlt, ltI_true (show (d : Int) < 40 by omega), sel_true, sel_true]
            rw [obind_of hxi]
            rw [obind_of hn2]
            try dsimp only
            rw [obind_of hxi]
            try dsimp only
            rw [obind_of hj]
            dsimp only
            rw [fits_len2 (by simp only [List.length_singleton]; omega), sel_true, obind_of o1']
            dsimp only
            rw [fits_len2 (by simp only [app_eq, List.length_append, List.length_singleton]; omega), sel_true]
            rw [way1_inl, iadd_one (by omega)]
          · simp only [app_eq, List.length_append, List.length_singleton, Nat.add_mul, Nat.one_mul]; omega
        · refine .inr ⟨unS f i out, ?_, i, out, rfl, by omega⟩
          unfold F_ref09_FS_under_L0 unS
          dsimp only
          rw [hlt, ltI_false (show (40 : Int) ≤ d by omega), sel_true, sel_false]; rfl)
      (fun out ho => ⟨unS f x.2.2.2.2.2.1.length out, by unfold F_ref09_FS_under_L0 unS; dsimp only; rw [ltI_len_end, sel_false, sel_false]; rfl, _, out, rfl, ho⟩) [] (Nat.zero_le _)
    obtain ⟨r, hL, i, out, rfl, ho⟩ := key
    refine ⟨out, ?_, by omega⟩
    show F_ref09_FS_under (S_ref09_FS_under n) ((id, (p, ((d : Int), ()))), (f, ())) = some ((out, ()), (f, ()))
    unfold F_ref09_FS_under
    exact ob hnode (ob hL rfl)

theorem files_ok (f : Fs) (h : FOk k f) (hk : k ≤ 30) : ∃ out : List Fl, P_ref09_FS_Files ((), (f, ())) = some ((out, ()), (f, ())) ∧ out.length ≤ 1073741824 := by
  obtain ⟨out, h1, h2⟩ := under_ok f h hk 64 1 [] 0 (by omega) (Nat.zero_le _) (by omega)
  obtain ⟨_, f2, _⟩ := much_facts h.1 1
  have hpow : 2 ^ much f.1.2.2.1 1 ≤ 2 ^ 30 := Nat.pow_le_pow_right (by decide) (by omega)
  refine ⟨out, ?_, by have : (2 : Nat) ^ 30 = 1073741824 := by decide
                      omega⟩
  unfold P_ref09_FS_Files
  exact ob (show P_ref09_FS_under ((1, ([], (0, ()))), (f, ())) = some ((out, ()), (f, ())) from h1) rfl
end Go.Ge

/- Work that nobody began: the law. -/
namespace Go.Ge
set_option linter.unusedSectionVars false
variable [Lp]

theorem awake26 : P_law26_awake () = some (true, ()) := by
  obtain rfl : ‹Lp› = Lp.fast := Lp.one _ _
  kernel_rfl

end Go.Ge

/- Work that is driven step by step: what each round comes to. -/
namespace Go.Ge
set_option linter.unusedSectionVars false
set_option linter.unusedVariables false
set_option linter.unusedSimpArgs false
variable [Lp] {k : Nat}

abbrev A25 := Int × Int × Int × Opr × Unit
abbrev Dn := Opr × Rs × Unit
abbrev Rn := Bool × List Dn × Int × Bool × Bool × Opr × Unit

theorem begin_val26 (L : List Dn) (a : Int) (w1 w2 : Bool) (op : Opr) : P_steps_Run_Begin ((), ((true, (L, (a, (w1, (w2, (op, ())))))), ())) = some ((), ((true, (L, (0, (false, (false, (op, ())))))), ())) := rfl
theorem want_val26 (L : List Dn) (a : Int) (w1 : Bool) (op : Opr) : P_steps_Run_Want ((), ((true, (L, (a, (w1, (true, (op, ())))))), ())) = some ((op, (true, ())), ((true, (L, (a, (w1, (true, (op, ())))))), ())) := rfl
theorem answer_val26 (r : Rs) (h : ResOk r) : P_steps_answer (r, ()) = some (r, ()) := by
  unfold P_steps_answer P_slices_Clone_string_string
  dsimp only
  rw [fits_len (by have := h.2; omega)]; rfl
theorem give_val26 (L : List Dn) (a : Int) (w1 : Bool) (op : Opr) (r : Rs) (h : ResOk r) (hl : L.length ≤ 1000) : P_steps_Run_Give ((r, ()), ((true, (L, (a, (w1, (true, (op, ())))))), ())) = some ((0, ()), ((true, (L ++ [(op, (r, ()))], (a, (w1, (false, (op, ())))))), ())) := by
  unfold P_steps_Run_Give
  refine ob (want_val26 L a w1 op) ?_
  refine ob (answer_val26 r h) ?_
  dsimp only
  rw [fits_len2 (by simp only [List.length_singleton]; omega)]; rfl
theorem do_end26 (L : List Dn) (o op : Opr) : P_steps_Run_Do ((o, ()), ((true, (L, ((L.length : Int), (false, (false, (op, ())))))), ())) = some (((14, (0, ([], ([], ())))), ()), ((true, (L, ((L.length : Int), (true, (true, (o, ())))))), ())) := by
  unfold P_steps_Run_Do
  refine ob rfl ?_
  dsimp only
  rw [show eqI (L.length : Int) (len L) = true from eqI_true rfl]; rfl
theorem do_hit26 (L : List Dn) (i : Nat) (o op : Opr) (r : Rs) (h : L[i]? = some (o, (r, ()))) (hr : ResOk r) (hl : L.length ≤ 1000) :
    P_steps_Run_Do ((o, ()), ((true, (L, ((i : Int), (false, (false, (op, ())))))), ())) = some ((r, ()), ((true, (L, (((i + 1 : Nat) : Int), (false, (false, (op, ())))))), ())) := by
  have hi := getElem?_lt h
  have hw : within (i : Int) (len L) = true := within_true (by omega) (by rw [len_eq]; omega)
  unfold P_steps_Run_Do
  refine ob rfl ?_
  dsimp only
  rw [show eqI (i : Int) (len L) = false from eqI_false (by rw [len_eq]; omega), nt_true, sel_false, sel_false, sel_false, hw, sel_true, obind_of (idx_some' h)]
  dsimp only
  have he : (an (eqI o.1 o.1) (an (eqS o.2.1 o.2.1) (an (eqS o.2.2.1 o.2.2.1) (an (eqI o.2.2.2.1 o.2.2.2.1) (an (eqI o.2.2.2.2.1 o.2.2.2.2.1) (an (eqI o.2.2.2.2.2.1 o.2.2.2.2.2.1) (an (eqS o.2.2.2.2.2.2.1 o.2.2.2.2.2.2.1) (an (eqI o.2.2.2.2.2.2.2.1 o.2.2.2.2.2.2.2.1) (an (eqI o.2.2.2.2.2.2.2.2.1 o.2.2.2.2.2.2.2.2.1) true))))))))) = true := by
    simp [an, eqI, eqS]
  rw [he, nt_true, sel_false, iadd_one (by omega), show isub .i64 ((i + 1 : Nat) : Int) 1 = (i : Int) from by rw [isub_i64 (by omega) (by omega)]; omega, hw, sel_true, obind_of (idx_some' h)]
  exact ob (answer_val26 r hr) rfl

/-! ### What is done, one behind the other -/
def opN (a : A25) (n : Int) : Opr := (a.2.2.2.1.1, (a.2.2.2.1.2.1, (a.2.2.2.1.2.2.1, (iadd IntKind.i64 a.2.2.2.1.2.2.2.1 (irem n 3), a.2.2.2.1.2.2.2.2))))
def nOf (r : Rs) : Int := iadd IntKind.i64 (iadd IntKind.i64 (len r.2.2.1) (len r.2.2.2.1)) r.1

noncomputable def trc (l : List A25) (w0 : Wd) : Nat → List Dn × Int × Wd
  | 0 => ([], (0, w0))
  | k + 1 => match l[k]? with
    | none => trc l w0 k
    | some a => match P_ref25_World_Do ((1, (opN a (trc l w0 k).2.1, ())), ((trc l w0 k).2.2, ())) with
      | some y => ((trc l w0 k).1 ++ [(opN a (trc l w0 k).2.1, (y.1.1, ()))], (nOf y.1.1, y.2.1))
      | none => trc l w0 k

/-- Few operations of few bytes. -/
structure Few26 (l : List A25) : Prop where
  n : l.length ≤ 20
  op : ∀ a ∈ l, OpOk a.2.2.2.1

theorem trc_step {l : List A25} {w0 : Wd} (hl : Few26 l) (h0 : WOk 0 w0) : ∀ k, k ≤ l.length →
    (trc l w0 k).1.length = k ∧ WOk k (trc l w0 k).2.2 ∧ ∀ (hk : k < l.length), ∃ r w', ResOk r ∧ P_ref25_World_Do ((1, (opN l[k] (trc l w0 k).2.1, ())), ((trc l w0 k).2.2, ())) = some ((r, ()), (w', ())) ∧
      trc l w0 (k + 1) = ((trc l w0 k).1 ++ [(opN l[k] (trc l w0 k).2.1, (r, ()))], (nOf r, w')) := by
  have step : ∀ k (hk : k < l.length), WOk k (trc l w0 k).2.2 → ∃ r w', ResOk r ∧ WOk (k + 1) w' ∧ P_ref25_World_Do ((1, (opN l[k] (trc l w0 k).2.1, ())), ((trc l w0 k).2.2, ())) = some ((r, ()), (w', ())) ∧
      trc l w0 (k + 1) = ((trc l w0 k).1 ++ [(opN l[k] (trc l w0 k).2.1, (r, ()))], (nOf r, w')) := by
    intro k hk hw
    obtain ⟨⟨⟨r, _⟩, w', _⟩, y1, y2, y3⟩ := wdo_ok _ hw (by have := hl.n; omega) 1 (opN l[k] (trc l w0 k).2.1) (hl.op _ (List.getElem_mem hk))
    refine ⟨r, w', y2, y3, y1, ?_⟩
    show (match l[k]? with | none => _ | some a => _) = _
    rw [List.getElem?_eq_getElem hk]
    dsimp only
    rw [y1]
  intro k
  induction k with
  | zero => exact fun _ => ⟨rfl, h0, fun hk => by obtain ⟨r, w', a, b, c, d⟩ := step 0 hk h0; exact ⟨r, w', a, c, d⟩⟩
  | succ k ih =>
    intro hk
    obtain ⟨i1, i2, _⟩ := ih (by omega)
    obtain ⟨r, w', a, b, c, d⟩ := step k (by omega) i2
    have h1 : (trc l w0 (k + 1)).1.length = k + 1 := by rw [d]; simp [i1]
    have h2 : WOk (k + 1) (trc l w0 (k + 1)).2.2 := by rw [d]; exact b
    exact ⟨h1, h2, fun hk' => by obtain ⟨r, w', a, b, c, d⟩ := step (k + 1) hk' h2; exact ⟨r, w', a, c, d⟩⟩

/-- What each operation is answered. -/
theorem trc_at {l : List A25} {w0 : Wd} (hl : Few26 l) (h0 : WOk 0 w0) {i k : Nat} (hi : i < k) (hk : k ≤ l.length) :
    ∃ r, ResOk r ∧ (trc l w0 k).1[i]? = some (opN (l[i]'(by omega)) (trc l w0 i).2.1, (r, ())) ∧ (trc l w0 (i + 1)).2.1 = nOf r ∧
      P_ref25_World_Do ((1, (opN (l[i]'(by omega)) (trc l w0 i).2.1, ())), ((trc l w0 i).2.2, ())) = some ((r, ()), ((trc l w0 (i + 1)).2.2, ())) ∧ (trc l w0 (i + 1)).1 = (trc l w0 i).1 ++ [(opN (l[i]'(by omega)) (trc l w0 i).2.1, (r, ()))] := by
  obtain ⟨i1, i2, i3⟩ := trc_step hl h0 i (by omega)
  obtain ⟨r, w', a, b, c⟩ := i3 (by omega)
  refine ⟨r, a, ?_, by rw [c], by rw [b, c], by rw [c]⟩
  have key : ∀ d, i + 1 + d ≤ l.length → (trc l w0 (i + 1 + d)).1[i]? = some (opN (l[i]'(by omega)) (trc l w0 i).2.1, (r, ())) := by
    intro d
    induction d with
    | zero => intro _; rw [Nat.add_zero, c]; dsimp only; rw [List.getElem?_append_right (by omega), i1]; simp
    | succ d ih =>
      intro hd
      have := ih (by omega)
      obtain ⟨j1, _, j3⟩ := trc_step hl h0 (i + 1 + d) (by omega)
      obtain ⟨r', w'', _, _, c'⟩ := j3 (by omega)
      rw [show i + 1 + (d + 1) = i + 1 + d + 1 by omega, c']
      dsimp only
      rw [List.getElem?_append_left (by omega)]
      exact this
  have := key (k - (i + 1)) (by omega)
  rw [show i + 1 + (k - (i + 1)) = k by omega] at this
  exact this

/-- The answers so far. -/
noncomputable def outs (l : List A25) (w0 : Wd) (k : Nat) : List Rs := (trc l w0 k).1.map fun e => e.2.1

theorem outs_at {l : List A25} {w0 : Wd} {i k : Nat} {o : Opr} {r : Rs} (h : (trc l w0 k).1[i]? = some (o, (r, ()))) : (outs l w0 k)[i]? = some r := by
  unfold outs; rw [List.getElem?_map, h]; rfl

/-- The work, gone through when so many operations were answered. -/
theorem work_val {l : List A25} {w0 : Wd} (hl : Few26 l) (h0 : WOk 0 w0) {k : Nat} (hk : k ≤ l.length) (op : Opr) :
    (∀ h : k < l.length, P_law26_work ((l, ()), ((true, ((trc l w0 k).1, (0, (false, (false, (op, ())))))), ())) = some (([], (false, ())), ((true, ((trc l w0 k).1, ((k : Int), (true, (true, (opN l[k] (trc l w0 k).2.1, ())))))), ()))) ∧
    (k = l.length → P_law26_work ((l, ()), ((true, ((trc l w0 k).1, (0, (false, (false, (op, ())))))), ())) = some ((outs l w0 k, (true, ())), ((true, ((trc l w0 k).1, ((k : Int), (false, (false, (op, ())))))), ()))) := by
  obtain ⟨k1, _, _⟩ := trc_step hl h0 k hk
  have hn := hl.n
  let st : Nat → ((List Rs) × Bool × Unit × Int × Int × Unit) × (List Rs) × (Bool × Unit × Int × Bool × Bool × Opr × Unit) × (List Dn) × Unit := fun i => (([], (false, ((), ((trc l w0 i).2.1, ((i : Int), ()))))), (outs l w0 i, ((true, ((), ((i : Int), (false, (false, (op, ())))))), ((trc l w0 k).1, ()))))
  have hstep : ∀ i, 0 ≤ i → i < 0 + k → P_law26_work_L0 ((l, ()), ((true, ((trc l w0 k).1, (0, (false, (false, (op, ())))))), ())) (st i) = some (.inl (st (i + 1))) := by
    intro i _ hi
    have hi : i < k := by omega
    obtain ⟨r, r1, r2, r3, r4, r5⟩ := trc_at hl h0 hi hk
    have hx : idx l (i : Int) = some (l[i]'(by omega)) := idx_some' (List.getElem?_eq_getElem (by omega))
    have hdo := do_hit26 (trc l w0 k).1 i _ op r r2 r1 (by omega)
    have ho : (outs l w0 i).length = i := by
      unfold outs; rw [List.length_map]; exact (trc_step hl h0 i (by omega)).1
    unfold P_law26_work_L0
    dsimp only [st]
    rw [ltI_len_true (by omega), sel_true, obind_of hx]
    refine ob hdo ?_
    dsimp only
    rw [eqI_false (show r.1 ≠ 14 by have := r1.1.2; omega), sel_false, fits_len2 (by simp only [List.length_singleton]; omega), sel_true, iadd_one (by omega), r3]
    have : outs l w0 (i + 1) = outs l w0 i ++ [r] := by unfold outs; rw [r5, List.map_append]; rfl
    rw [this]; rfl
  refine ⟨fun h => ?_, fun h => ?_⟩
  · have hx : idx l (k : Int) = some l[k] := idx_some' (List.getElem?_eq_getElem h)
    have hdo := do_end26 (trc l w0 k).1 (opN l[k] (trc l w0 k).2.1) op
    rw [k1] at hdo
    have hend : P_law26_work_L0 ((l, ()), ((true, ((trc l w0 k).1, (0, (false, (false, (op, ())))))), ())) (st (0 + k)) = some (.inr (1, (([], (false, ((), ((trc l w0 k).2.1, ((k : Int), ()))))), (outs l w0 k, ((true, ((), ((k : Int), (true, (true, (opN l[k] (trc l w0 k).2.1, ())))))), ((trc l w0 k).1, ())))))) := by
      rw [Nat.zero_add]
      unfold P_law26_work_L0
      dsimp only [st]
      rw [ltI_len_true h, sel_true, obind_of hx]
      exact ob hdo rfl
    unfold P_law26_work
    exact ob (loop_seq' st k 0 hstep hend) rfl
  · have hend : P_law26_work_L0 ((l, ()), ((true, ((trc l w0 k).1, (0, (false, (false, (op, ())))))), ())) (st (0 + k)) = some (.inr (0, st k)) := by
      rw [Nat.zero_add]
      unfold P_law26_work_L0
      dsimp only [st]
      rw [h, ltI_len_end, sel_false]
    unfold P_law26_work
    exact ob (loop_seq' st k 0 hstep hend) rfl
end Go.Ge

/- Work that is driven step by step does the same operations as work that is done at once: the law. -/
namespace Go.Ge
set_option linter.unusedSectionVars false
set_option linter.unusedVariables false
set_option linter.unusedSimpArgs false
variable [Lp] {k : Nat}

theorem sameRes_self (r : Rs) (h : ResOk r) : P_ref09_SameRes (r, (r, ())) = some (true, ()) := by
  unfold P_ref09_SameRes
  dsimp only
  have hn := h.2
  rw [eqI_true rfl, eqI_true rfl, eqS_true rfl, eqI_true rfl]
  have key := loop_seq' (f := P_ref09_SameRes_L0 (r, (r, ()))) (r := (0, ((false, ((r.2.2.2.1.length : Int), ())), ()))) (fun i => ((false, ((i : Int), ())), ())) r.2.2.2.1.length 0
    (fun i _ hi => by
      have hi : i < r.2.2.2.1.length := by omega
      have hx : idx r.2.2.2.1 (i : Int) = some r.2.2.2.1[i] := idx_some' (List.getElem?_eq_getElem hi)
      unfold P_ref09_SameRes_L0
      dsimp only
      rw [ltI_len_true hi, sel_true, sel_true, obind_of hx, obind_of hx, eqS_true rfl, iadd_one (by omega)]; rfl)
    (by rw [Nat.zero_add]; unfold P_ref09_SameRes_L0; dsimp only; rw [ltI_len_end]; rfl)
  exact ob key rfl

theorem sameFiles_self (l : List Fl) (h : l.length ≤ 1073741824) : P_ref09_SameFiles (l, (l, ())) = some (true, ()) := by
  unfold P_ref09_SameFiles
  dsimp only
  rw [eqI_true rfl]
  have key := loop_seq' (f := P_ref09_SameFiles_L0 (l, (l, ()))) (r := (0, ((false, ((l.length : Int), ())), ()))) (fun i => ((false, ((i : Int), ())), ())) l.length 0
    (fun i _ hi => by
      have hi : i < l.length := by omega
      have hx : idx l (i : Int) = some l[i] := idx_some' (List.getElem?_eq_getElem hi)
      have he : (an (eqS l[i].1 l[i].1) (an (eqB l[i].2.1 l[i].2.1) (an (eqS l[i].2.2.1 l[i].2.2.1) true))) = true := by simp [an, eqS, eqB]
      unfold P_ref09_SameFiles_L0
      dsimp only
      rw [ltI_len_true hi, sel_true, sel_true, obind_of hx, obind_of hx, he, iadd_one (by omega)]; rfl)
    (by rw [Nat.zero_add]; unfold P_ref09_SameFiles_L0; dsimp only; rw [ltI_len_end]; rfl)
  exact ob key rfl

theorem small9_ok (op : Opr) : ∃ b, P_ref09_Small ([((0 : Int), (false, (op, ())))], ((1 : Int), ())) = some (b, ()) ∧ (b = true → OpOk op) := by
  have hx : idx ([((0 : Int), (false, (op, ())))] : List Ac9) (0 : Int) = some ((0 : Int), (false, (op, ()))) := rfl
  have hs : (P_ref09_Small_L0 ([((0 : Int), (false, (op, ())))], ((1 : Int), ())) ((false, ((0 : Int), ())), ()) = some (.inr (1, ((false, ((0 : Int), ())), ())))) ∨ (P_ref09_Small_L0 ([((0 : Int), (false, (op, ())))], ((1 : Int), ())) ((false, ((0 : Int), ())), ()) = some (.inl ((false, ((1 : Int), ())), ())) ∧ OpOk op) := by
    unfold P_ref09_Small_L0
    dsimp only
    rw [hx]
    simp only [obind_some]
    rw [show sel (ltI (0 : Int) (len ([((0 : Int), (false, (op, ())))] : List Ac9))) (ltI (0 : Int) 1) false = true from rfl, sel_true]
    by_cases ha : (200 : Int) < len op.2.1
    · rw [ltI_true ha]; left; generalize ltI (200 : Int) (len op.2.2.1) = b; generalize ltI (200 : Int) (len op.2.2.2.2.2.2.1) = c; generalize sel (ltI (4096 : Int) op.2.2.2.2.1) _ _ = d; generalize sel (ltI (4096 : Int) op.2.2.2.2.2.1) _ _ = e; cases b <;> cases c <;> cases d <;> cases e <;> rfl
    · rw [ltI_false (by omega)]
      by_cases hb : (200 : Int) < len op.2.2.1
      · rw [ltI_true hb]; left; generalize ltI (200 : Int) (len op.2.2.2.2.2.2.1) = c; generalize sel (ltI (4096 : Int) op.2.2.2.2.1) _ _ = d; generalize sel (ltI (4096 : Int) op.2.2.2.2.2.1) _ _ = e; cases c <;> cases d <;> cases e <;> rfl
      · rw [ltI_false (by omega)]
        by_cases hc : (200 : Int) < len op.2.2.2.2.2.2.1
        · rw [ltI_true hc]; left; generalize sel (ltI (4096 : Int) op.2.2.2.2.1) _ _ = d; generalize sel (ltI (4096 : Int) op.2.2.2.2.2.1) _ _ = e; cases d <;> cases e <;> rfl
        · rw [ltI_false (by omega)]
          have hok : OpOk op := by rw [len_eq] at ha hb hc; exact ⟨by omega, by omega, by omega⟩
          generalize sel (ltI (4096 : Int) op.2.2.2.2.1) _ _ = d
          generalize sel (ltI (4096 : Int) op.2.2.2.2.2.1) _ _ = e
          cases d <;> cases e <;> first | exact .inl rfl | exact .inr ⟨rfl, hok⟩
  unfold P_ref09_Small
  rcases hs with h | ⟨h, hok⟩
  · refine ⟨false, ?_, fun h => by cases h⟩
    rw [Loop_eq, h]; rfl
  · refine ⟨true, ?_, fun _ => hok⟩
    rw [Loop_eq, h]
    show obind (Loop _ _) _ = _
    rw [Loop_eq]
    rfl

theorem small25_ok (l : List A25) : ∃ b, P_ref25_Small (l, ((20 : Int), ())) = some (b, ()) ∧ (b = true → Few26 l) := by
  have hop : ∀ a : A25, ∃ b, P_ref09_Small ([((0 : Int), (false, (a.2.2.2.1, ())))], ((1 : Int), ())) = some (b, ()) ∧ (b = true → OpOk a.2.2.2.1) := fun a => small9_ok _
  have hc : ∃ c : A25 → Bool, ∀ a, P_ref09_Small ([((0 : Int), (false, (a.2.2.2.1, ())))], ((1 : Int), ())) = some (c a, ()) ∧ (c a = true → OpOk a.2.2.2.1) := ⟨fun a => (hop a).choose, fun a => (hop a).choose_spec⟩
  obtain ⟨c, hc⟩ := hc
  unfold P_ref25_Small
  rcases srchTo (f := P_ref25_Small_L0 (l, ((20 : Int), ()))) l 20 (fun i => ((false, (i, ())), ())) (fun _ a => !c a) (fun i _ => (1, ((false, ((i : Int), ())), ()))) (fun n => (0, ((false, ((n : Int), ())), ()))) (by omega)
    (fun i a ha hi hi20 hadd => by
      unfold P_ref25_Small_L0
      dsimp only
      rw [ltI_len_true hi, ltI_true (show (i : Int) < 20 by omega), sel_true, sel_true, obind_of (idx_some' ha), obind_of (hc a).1, hadd]
      cases c a <;> rfl)
    (by
      unfold P_ref25_Small_L0
      dsimp only
      by_cases h : l.length ≤ 20
      · rw [show min 20 l.length = l.length by omega, ltI_len_end]; rfl
      · rw [show min 20 l.length = 20 by omega, ltI_false (show (20 : Int) ≤ ((20 : Nat) : Int) by omega)]
        cases ltI ((20 : Nat) : Int) (len l) <;> rfl) with ⟨i, a, hi, ha, hp, hj, h⟩ | ⟨hn, h⟩
  · exact ⟨false, ob h rfl, fun h => by cases h⟩
  · by_cases hl : l.length ≤ 20
    · refine ⟨_, ob h rfl, fun _ => ⟨hl, fun a ha => ?_⟩⟩
      obtain ⟨i, hi⟩ := mem_at.1 ha
      have := hn i a (by have := getElem?_lt hi; omega) hi
      exact (hc a).2 (by simpa using this)
    · refine ⟨false, ob h ?_, fun h => by cases h⟩
      dsimp only
      rw [show leI (len l) 20 = false from leI_false (by rw [len_eq]; omega)]; rfl

/-! ### The world at first -/
def rootN : Nd := ((1 : Int), (true, ((1 : Int), ((0 : Int), (([] : List UInt8), (([] : List Ent), ()))))))
def w26 : Wd := ((((1048576, (2, ([rootN], ()))), ([], ())), (((1048576, (2, ([rootN], ()))), ([], ())), ([], ()))), (([(1, (1, ()))], (1, ())), ()))
theorem w26_ok : WOk 0 w26 := by
  refine ⟨⟨⟨⟨Nat.le_refl _, Nat.le_refl _, ?_, ?_, ?_, ⟨by decide, by decide⟩, ?_, List.pairwise_singleton _ _, ?_, ?_⟩, Nat.le_refl _⟩, Nat.le_refl _⟩, by decide⟩
  · intro x hx; rw [List.mem_singleton.1 hx]; exact Nat.zero_le _
  · intro x hx; rw [List.mem_singleton.1 hx]; intro e he; cases he
  · intro x hx; rw [List.mem_singleton.1 hx]; decide
  · intro x hx; rw [List.mem_singleton.1 hx]; decide
  · intro x hx; rw [List.mem_singleton.1 hx]; intro h; cases h
  · intro x hx; rw [List.mem_singleton.1 hx]; intro e he; cases he

theorem spawn26 : P_ref11_Table_Spawn (((1 : Int), ()), ((([] : List (Int × Int × Unit)), ((0 : Int), ())), ())) = some ((1, (0, ())), (([(1, (1, ()))], (1, ())), ())) := by
  obtain rfl : ‹Lp› = Lp.fast := Lp.one _ _
  kernel_rfl

/-! ### The rounds -/
def s1 (got : List Rs) (done : Bool) (kk : Int) (c : Rn) (w : Wd) : (Bool × (List Rs) × Bool × Int × Unit) × (Bool × Unit × Int × Bool × Bool × Opr × Unit) × (List Dn) × (Unit × Unit × Unit) × (Unit × Unit × Unit × Unit) × (Unit × Int × Unit) × (Unit × Unit × Unit) × (Unit × Unit × Unit) × (List Ac9) × (List (Int × Int × Unit)) × (Int × Int × Unit × Unit) × (List Hn) × (Int × Int × Unit × Unit) × (List Hn) × (List Nd) × (List Nd) × Unit :=
  ((false, (got, (done, (kk, ())))), ((c.1, ((), (c.2.2.1, (c.2.2.2.1, (c.2.2.2.2.1, (c.2.2.2.2.2.1, ())))))), (c.2.1, (((), ((), ())), (((), ((), ((), ()))), (((), (w.2.1.2.1, ())), (((), ((), ())), (((), ((), ())), (w.1.2.2.1, (w.2.1.1, ((w.1.1.1.1, (w.1.1.1.2.1, ((), ()))), (w.1.1.2.1, ((w.1.2.1.1.1, (w.1.2.1.1.2.1, ((), ()))), (w.1.2.1.2.1, (w.1.1.1.2.2.1, (w.1.2.1.1.2.2.1, ()))))))))))))))))

theorem l1_step {l : List A25} {w0 : Wd} (hl : Few26 l) (h0 : WOk 0 w0) {k : Nat} (hk : k < l.length) (got : List Rs) (a : Int) (w1 w2 : Bool) (op : Opr) :
    ∃ op', P_law26_StepsOnce_L1 (l, ()) (s1 got false k (true, ((trc l w0 k).1, (a, (w1, (w2, (op, ())))))) (trc l w0 k).2.2) = some (.inl (s1 [] false ((k + 1 : Nat) : Int) (true, ((trc l w0 (k + 1)).1, ((k : Int), (true, (false, (op', ())))))) (trc l w0 (k + 1)).2.2)) := by
  obtain ⟨k1, _, k3⟩ := trc_step hl h0 k (by omega)
  obtain ⟨r, w', r1, r2, r3⟩ := k3 hk
  have hn := hl.n
  refine ⟨opN l[k] (trc l w0 k).2.1, ?_⟩
  have hb := begin_val26 (trc l w0 k).1 a w1 w2 op
  have hw := (work_val hl h0 (show k ≤ l.length by omega) op).1 hk
  have hwant := want_val26 (trc l w0 k).1 (k : Int) true (opN l[k] (trc l w0 k).2.1)
  have hgive := give_val26 (trc l w0 k).1 (k : Int) true (opN l[k] (trc l w0 k).2.1) r r1 (by omega)
  unfold P_law26_StepsOnce_L1
  dsimp only [s1]
  rw [show leI (k : Int) (len l) = true from leI_true (by rw [len_eq]; omega), nt_false, sel_true, sel_true]
  refine ob hb (ob hw ?_)
  dsimp only
  rw [sel_false]
  refine ob hwant ?_
  dsimp only
  rw [nt_true, nt_false, sel_true]
  refine ob r2 (ob hgive ?_)
  dsimp only
  rw [eqI_true rfl, nt_true, sel_false, iadd_one (by omega), r3]

theorem l1_end {l : List A25} {w0 : Wd} (hl : Few26 l) (h0 : WOk 0 w0) (got : List Rs) (a : Int) (w1 w2 : Bool) (op : Opr) :
    P_law26_StepsOnce_L1 (l, ()) (s1 got false (l.length : Int) (true, ((trc l w0 l.length).1, (a, (w1, (w2, (op, ())))))) (trc l w0 l.length).2.2) = some (.inr (0, s1 (outs l w0 l.length) true (l.length : Int) (true, ((trc l w0 l.length).1, ((l.length : Int), (false, (false, (op, ())))))) (trc l w0 l.length).2.2)) := by
  have hb := begin_val26 (trc l w0 l.length).1 a w1 w2 op
  have hw := (work_val hl h0 (Nat.le_refl _) op).2 rfl
  unfold P_law26_StepsOnce_L1
  dsimp only [s1]
  rw [show leI (l.length : Int) (len l) = true from leI_true (Int.le_refl _), nt_false, sel_true, sel_true]
  refine ob hb (ob hw ?_)
  rfl

def s2 (n i : Int) (w : Wd) : (Bool × Int × Int × Unit) × (Unit × Unit × Unit) × (Unit × Unit × Unit × Unit) × (Unit × Int × Unit) × (Unit × Unit × Unit) × (Unit × Unit × Unit) × (List Ac9) × (List (Int × Int × Unit)) × (Int × Int × Unit × Unit) × (List Hn) × (Int × Int × Unit × Unit) × (List Hn) × (List Nd) × (List Nd) × Unit :=
  ((false, (n, (i, ()))), (((), ((), ())), (((), ((), ((), ()))), (((), (w.2.1.2.1, ())), (((), ((), ())), (((), ((), ())), (w.1.2.2.1, (w.2.1.1, ((w.1.1.1.1, (w.1.1.1.2.1, ((), ()))), (w.1.1.2.1, ((w.1.2.1.1.1, (w.1.2.1.1.2.1, ((), ()))), (w.1.2.1.2.1, (w.1.1.1.2.2.1, (w.1.2.1.1.2.2.1, ()))))))))))))))

theorem l1_loop {l : List A25} (hl : Few26 l) (op : Opr) : ∃ op', Loop (P_law26_StepsOnce_L1 (l, ())) (s1 [] false 0 (true, ([], (0, (false, (false, (op, ())))))) w26) = some (0, s1 (outs l w26 l.length) true (l.length : Int) (true, ((trc l w26 l.length).1, ((l.length : Int), (false, (false, (op', ())))))) (trc l w26 l.length).2.2) := by
  have key := loop_ex (f := P_law26_StepsOnce_L1 (l, ())) (σ := List Rs × Int × Bool × Bool × Opr) l.length (fun k q => s1 q.1 false (k : Int) (true, ((trc l w26 k).1, (q.2.1, (q.2.2.1, (q.2.2.2.1, (q.2.2.2.2, ())))))) (trc l w26 k).2.2) (fun _ _ => True)
    (fun r => ∃ op', r = (0, s1 (outs l w26 l.length) true (l.length : Int) (true, ((trc l w26 l.length).1, ((l.length : Int), (false, (false, (op', ())))))) (trc l w26 l.length).2.2))
    (fun k q hk _ => by
      obtain ⟨op', h⟩ := l1_step hl w26_ok hk q.1 q.2.1 q.2.2.1 q.2.2.2.1 q.2.2.2.2
      exact .inl ⟨([], ((k : Int), (true, (false, op')))), h, trivial⟩)
    (fun q _ => ⟨_, l1_end hl w26_ok q.1 q.2.1 q.2.2.1 q.2.2.2.1 q.2.2.2.2, q.2.2.2.2, rfl⟩) ([], (0, (false, (false, op)))) trivial
  obtain ⟨r, h, op', rfl⟩ := key
  exact ⟨op', h⟩

theorem l2_step {l : List A25} {w0 : Wd} (hl : Few26 l) (h0 : WOk 0 w0) {i : Nat} (hi : i < l.length) {y5} (hg : y5.2.1.2.1 = outs l w0 l.length) :
    P_law26_StepsOnce_L2 (l, ()) y5 (s2 (trc l w0 i).2.1 (i : Int) (trc l w0 i).2.2) = some (.inl (s2 (trc l w0 (i + 1)).2.1 ((i + 1 : Nat) : Int) (trc l w0 (i + 1)).2.2)) := by
  obtain ⟨r, r1, r2, r3, r4, _⟩ := trc_at hl h0 hi (Nat.le_refl _)
  have hn := hl.n
  have hx : idx l (i : Int) = some l[i] := idx_some' (List.getElem?_eq_getElem hi)
  have ho : idx y5.2.1.2.1 (i : Int) = some r := by rw [hg]; exact idx_some' (outs_at r2)
  unfold P_law26_StepsOnce_L2
  dsimp only [s2]
  rw [ltI_len_true hi, sel_true]
  refine ob hx (ob r4 (ob ho (ob (sameRes_self r r1) ?_)))
  dsimp only
  rw [nt_true, sel_false, iadd_one (by omega), r3]; rfl

theorem l2_end {l : List A25} {w0 : Wd} {y5} : P_law26_StepsOnce_L2 (l, ()) y5 (s2 (trc l w0 l.length).2.1 (l.length : Int) (trc l w0 l.length).2.2) = some (.inr (0, s2 (trc l w0 l.length).2.1 (l.length : Int) (trc l w0 l.length).2.2)) := by
  unfold P_law26_StepsOnce_L2
  dsimp only [s2]
  rw [ltI_len_end, sel_false]

theorem l0_val (l : List A25) (hl : l.length ≤ 1000) : ∃ (c : Nat) (i : Int), Loop (P_law26_StepsOnce_L0 (l, ())) ((false, ((0 : Int), ())), ()) = some (c, ((if c = 0 then false else true, (i, ())), ())) := by
  rcases srch (f := P_law26_StepsOnce_L0 (l, ())) l (fun i => ((false, (i, ())), ())) (fun _ a => ltI 1048576 a.2.2.2.1.2.2.2.1 || ltI a.2.2.2.1.2.2.2.1 0) (fun i _ => (1, ((true, ((i : Int), ())), ()))) (0, ((false, ((l.length : Int), ())), ())) (by omega)
    (fun i x hx hi hadd => by
      unfold P_law26_StepsOnce_L0
      dsimp only
      rw [ltI_len_true hi, sel_true, obind_of (idx_some' hx), obind_of (idx_some' hx), hadd, awake26]
      cases ltI 1048576 x.2.2.2.1.2.2.2.1
      · cases ltI x.2.2.2.1.2.2.2.1 0 <;> rfl
      · rfl)
    (by unfold P_law26_StepsOnce_L0; dsimp only; rw [ltI_len_end]; rfl) with ⟨i, x, hx, hp, hj, h⟩ | ⟨hn, h⟩
  · exact ⟨1, i, h⟩
  · exact ⟨0, l.length, h⟩

theorem len_val26 (c : Rn) : P_steps_Run_Len ((), (c, ())) = some ((len c.2.1, ()), (c, ())) := rfl

theorem l2_loop {l : List A25} (hl : Few26 l) {y5} (hg : y5.2.1.2.1 = outs l w26 l.length) : Loop (P_law26_StepsOnce_L2 (l, ()) y5) (s2 0 0 w26) = some (0, s2 (trc l w26 l.length).2.1 (l.length : Int) (trc l w26 l.length).2.2) :=
  loop_seq' (fun i => s2 (trc l w26 i).2.1 (i : Int) (trc l w26 i).2.2) l.length 0 (fun i _ hi => l2_step hl w26_ok (by omega) hg) (by rw [Nat.zero_add]; exact l2_end)

theorem stepsOnce_val (l : List A25) : P_law26_StepsOnce (l, ()) = some (true, ()) := by
  obtain ⟨b, hb, hf⟩ := small25_ok l
  unfold P_law26_StepsOnce
  refine ob hb ?_
  dsimp only
  cases b with
  | false => rw [nt_false, sel_true, awake26]; rfl
  | true =>
    have hl := hf rfl
    have hn := hl.n
    rw [nt_true, sel_false, fits_len2 (by simp), sel_true, fits_len2 (by simp), sel_true, sel_true, sel_true]
    refine ob spawn26 (ob spawn26 ?_)
    obtain ⟨c, i, h0⟩ := l0_val l (by omega)
    refine ob h0 ?_
    dsimp only
    by_cases hc : c = 0
    · subst hc
      rw [eqN_zero, sel_true]
      obtain ⟨op', h1⟩ := l1_loop hl ((0 : Int), (([] : List UInt8), (([] : List UInt8), ((0 : Int), ((0 : Int), ((0 : Int), (([] : List UInt8), ((0 : Int), ((0 : Int), ())))))))))
      refine ob h1 ?_
      dsimp only
      obtain ⟨k1, k2, _⟩ := trc_step hl w26_ok l.length (Nat.le_refl _)
      rw [eqN_zero, sel_true]
      have ho : (outs l w26 l.length).length = l.length := by unfold outs; rw [List.length_map]; exact k1
      show sel (nt (nt true)) _ _ = _
      rw [nt_true, nt_false, sel_true]
      refine ob (len_val26 (true, ((trc l w26 l.length).1, ((l.length : Int), (false, (false, (op', ()))))))) ?_
      show sel (sel (nt (nt (eqI (len (trc l w26 l.length).1) (len l)))) (nt (eqI (len (outs l w26 l.length)) (len l))) true) _ _ = _
      rw [eqI_true (show len (trc l w26 l.length).1 = len l by rw [len_eq, len_eq, k1]), eqI_true (show len (outs l w26 l.length) = len l by rw [len_eq, len_eq, ho]), nt_true, nt_false, sel_true, sel_false]
      refine ob (l2_loop hl (y5 := (0, s1 (outs l w26 l.length) true (l.length : Int) (true, ((trc l w26 l.length).1, ((l.length : Int), (false, (false, (op', ())))))) (trc l w26 l.length).2.2)) rfl) ?_
      rw [eqN_zero, sel_true]
      obtain ⟨out, f1, f2⟩ := files_ok (trc l w26 l.length).2.2.1.1 (k2.1.1.mono (show l.length ≤ 20 by omega)) (by omega)
      refine ob f1 (ob f1 (ob (sameFiles_self out f2) ?_))
      dsimp only
      rw [sel_true, awake26]; rfl
    · have : eqN c 0 = false := by cases c with | zero => exact absurd rfl hc | succ c => rfl
      rw [this, sel_false, if_neg hc]
end Go.Ge
