/- Trees as they may be. -/
import Derived.Test.YtnmllijemdpcoaaDoorGq14B
namespace Go.Ge
set_option linter.unusedVariables false
set_option linter.unusedSimpArgs false

/-- A tree as it may be. -/
structure Valid (l : List Nd) : Prop where
  few : l.length ≤ 64
  ord : Ord l
  may : ∀ x ∈ l, mayF x = true
  up : ∀ x ∈ l, (splitF x.1).1 = [] ∨ ∃ y ∈ l, y.1 = (splitF x.1).1 ∧ y.2.1 = 2

theorem splitF_len (p : List UInt8) : (splitF p).1.length ≤ p.length := by
  rcases split_cases p with ⟨_, h⟩ | ⟨a, b, h1, _, h⟩
  · rw [h]; simp
  · rw [h, h1]; simp
theorem parent_key {p : List UInt8} (h : (splitF p).1 ≠ []) : parts p = parts (splitF p).1 ++ [(splitF p).2] := by
  rcases split_cases p with ⟨_, e⟩ | ⟨a, b, e1, e2, e⟩
  · rw [e] at h; exact absurd rfl h
  · rw [e] at h ⊢
    have hp : p ≠ [] := by rw [e1]; simp
    unfold parts
    rw [if_neg hp, if_neg h, e1]
    exact splitS_snoc a b e2

theorem Ord.uniq {l : List Nd} (h : Ord l) {x y : Nd} (hx : x ∈ l) (hy : y ∈ l) (e : x.1 = y.1) : x = y := by
  obtain ⟨i, hi⟩ := mem_at.1 hx
  obtain ⟨j, hj⟩ := mem_at.1 hy
  have hk : key x = key y := by unfold key; rw [e]
  rcases Nat.lt_trichotomy i j with g | g | g
  · have := h i j x y g hi hj; rw [hk, cmpL_self] at this; omega
  · subst g; rw [hi] at hj; exact Option.some.inj hj
  · have := h j i y x g hj hi; rw [hk, cmpL_self] at this; omega

theorem ord_of_adj {l : List Nd} (h : ∀ (k : Nat) (x y : Nd), l[k]? = some x → l[k + 1]? = some y → cmpL (key x) (key y) < 0) : Ord l := by
  have run : ∀ (d i : Nat) (x y : Nd), l[i]? = some x → l[i + 1 + d]? = some y → cmpL (key x) (key y) < 0 := by
    intro d
    induction d with
    | zero => intro i x y hx hy; exact h i x y hx hy
    | succ d ih =>
      intro i x y hx hy
      have hl := getElem?_lt hy
      obtain ⟨z, hz⟩ : ∃ z, l[i + 1 + d]? = some z := ⟨_, List.getElem?_eq_getElem (by omega)⟩
      exact cmpL_trans (ih i x z hx hz) (h (i + 1 + d) z y hz hy)
  intro i j x y hij hx hy
  exact run (j - i - 1) i x y hx (by rw [show i + 1 + (j - i - 1) = j by omega]; exact hy)

/-- Not less than the one before. -/
def prevC (l : List Nd) (i : Nat) (x : Nd) : Bool := match i with
  | 0 => false
  | k + 1 => match l[k]? with
    | some y => decide (0 ≤ cmpL (key y) (key x))
    | none => false

theorem prevC_succ {l : List Nd} {k : Nat} {x y : Nd} (hy : l[k]? = some y) : prevC l (k + 1) x = decide (0 ≤ cmpL (key y) (key x)) := by
  show (match l[k]? with | some y => decide (0 ≤ cmpL (key y) (key x)) | none => false) = _
  rw [hy]

noncomputable def dirE (l : List Nd) (d : List UInt8) : Int := match P_tree_dir (l, (d, ())) with
  | some y => y.1
  | none => 0
theorem dirE_val (l : List Nd) (d : List UInt8) (hl : SmL l) (hd : d.length ≤ 4096) : P_tree_dir (l, (d, ())) = some (dirE l d, ()) ∧ (Ord l → Dir l d (dirE l d)) := by
  obtain ⟨e, h1, h2⟩ := dir_val l d hl hd
  have : dirE l d = e := by unfold dirE; rw [h1]
  rw [this]; exact ⟨h1, h2⟩
theorem prevC_adj {l : List Nd} (h : ∀ (i : Nat) (x : Nd), l[i]? = some x → prevC l i x = false) : Ord l := ord_of_adj fun k x y hx hy => by
  have := h (k + 1) y hy
  rw [prevC_succ hx] at this
  have := of_decide_eq_false this
  omega
theorem prevC_ord {l : List Nd} (h : Ord l) {i : Nat} {x : Nd} (hx : l[i]? = some x) : prevC l i x = false := by
  cases i with
  | zero => rfl
  | succ k =>
    have hl := getElem?_lt hx
    obtain ⟨y, hy⟩ : ∃ y, l[k]? = some y := ⟨_, List.getElem?_eq_getElem (by omega)⟩
    rw [prevC_succ hy]
    have := h k (k + 1) y x (by omega) hy hx
    exact decide_eq_false (by omega)

/-- With an ordered tree a directory lies ahead of what lies in it. -/
theorem up_before {l : List Nd} (h : Ord l) {i : Nat} {x y : Nd} (hx : l[i]? = some x) (hy : y ∈ l) (hu : (splitF x.1).1 ≠ []) (e : y.1 = (splitF x.1).1) : y ∈ l.take i := by
  obtain ⟨j, hj⟩ := mem_at.1 hy
  have hc : cmpL (key y) (key x) = -1 := by
    unfold key
    rw [e, parent_key hu]
    exact cmpL_app _ _ (by simp)
  rcases Nat.lt_or_ge j i with g | g
  · exact List.mem_of_getElem? (i := j) (by rw [List.getElem?_take, if_pos g]; exact hj)
  · exfalso
    rcases Nat.lt_or_ge i j with g2 | g2
    · have := cmpL_trans (h i j x y g2 hx hj) (show cmpL (key y) (key x) < 0 by omega)
      rw [cmpL_self] at this; omega
    · obtain rfl : i = j := by omega
      rw [hx] at hj
      obtain rfl := Option.some.inj hj
      rw [cmpL_self] at hc; omega

theorem check_val' (l : List Nd) (hl : SmL l) : ∃ e, P_tree_Check (l, ()) = some (e, ()) ∧ (e = 0 ↔ Valid l) := by
  unfold P_tree_Check
  dsimp only
  have h64 : ltI 64 (len l) = decide (64 < l.length) := by unfold ltI len; apply decide_eq_decide.2; omega
  rw [h64]
  by_cases h0 : 64 < l.length
  · rw [decide_eq_true h0, sel_true]
    exact ⟨1, rfl, fun h => by omega, fun h => by have := h.few; omega⟩
  · rw [decide_eq_false h0, sel_false]
    have hsp : ∀ {i : Nat} {x : Nd}, l[i]? = some x → (splitF x.1).1.length ≤ 4096 := fun {i x} hx => by have := (hl.at hx).1; have := splitF_len x.1; omega
    rcases srch (f := P_tree_Check_L0 (l, ())) l (fun i => ((0, (i, ())), ())) (fun i x => !mayF x || prevC l i x || decide (dirE (l.take i) (splitF x.1).1 ≠ 0)) (fun i x => (1, ((1, ((i : Int), ())), ()))) ((0 : Nat), ((0, ((l.length : Int), ())), ())) (by have := hl.1; omega) (fun i x hx hi ha => by
        unfold P_tree_Check_L0
        dsimp only
        rw [ltI_len_true hi, sel_true, idx_some' hx, obind_some, psplit_val _ (by have := (hl.at hx).1; omega), obind_some, tis_val _ (by have := (hl.at hx).1; omega), obind_some]
        dsimp only
        cases hm : mayF x with
        | false => rfl
        | true =>
          rw [nt_true, sel_false]
          have hin : inside 0 (i : Int) (len l) = true := inside_len (a := 0) (Nat.zero_le _) (by omega)
          have hdir := (dirE_val (l.take i) (splitF x.1).1 (hl.take i) (hsp hx)).1
          rw [hin, sel_true, sub_take, hdir, obind_some, ha]
          dsimp only
          cases i with
          | zero =>
            rw [ltI_false (by simp), sel_false]
            generalize dirE (l.take 0) (splitF x.1).1 = e
            by_cases hz : e = 0
            · rw [eqI_true hz, nt_true, sel_false]; simp [prevC, hz]
            · rw [show eqI e 0 = false by simp [eqI, hz], nt_false, sel_true]; simp [prevC, hz]
          | succ k =>
            obtain ⟨y, hy⟩ : ∃ y, l[k]? = some y := ⟨_, List.getElem?_eq_getElem (by omega)⟩
            rw [ltI_true (by omega), sel_true, isub_i64 (by omega) (by omega), show (((k + 1 : Nat) : Int) - 1) = (k : Int) by omega, idx_some' hy, obind_some, compare_val _ _ (by have := (hl.at hy).1; omega) (by have := (hl.at hx).1; omega), obind_some]
            dsimp only
            rw [leI_dec]
            rw [prevC_succ hy]
            unfold key
            generalize dirE (l.take (k + 1)) (splitF x.1).1 = e
            by_cases hc : 0 ≤ cmpL (parts y.1) (parts x.1)
            · rw [decide_eq_true hc, sel_true]; simp
            · rw [decide_eq_false hc, sel_false]
              by_cases hz : e = 0
              · rw [eqI_true hz, nt_true, sel_false]; simp [hz]
              · rw [show eqI e 0 = false by simp [eqI, hz], nt_false, sel_true]; simp [hz]) (by unfold P_tree_Check_L0; dsimp only; rw [ltI_len_end, sel_false]) with ⟨i, x, hx, hp, _, h⟩ | ⟨hn, h⟩
    · rw [h, obind_some, eqN_one, sel_false]
      refine ⟨1, rfl, fun h => by omega, fun hv => ?_⟩
      rw [hv.may x (List.mem_of_getElem? hx), prevC_ord hv.ord hx] at hp
      simp only [Bool.not_true, Bool.false_or, decide_eq_true_eq] at hp
      have hd := (dirE_val (l.take i) (splitF x.1).1 (hl.take i) (hsp hx)).2 (hv.ord.take i)
      rcases hd with ⟨_, e⟩ | ⟨hne, hd⟩
      · exact absurd e hp
      · rcases hv.up x (List.mem_of_getElem? hx) with hu | ⟨y, hy, hy1, hy2⟩
        · exact absurd hu hne
        · have hyt := up_before hv.ord hx hy hne hy1
          rcases hd with ⟨hno, _⟩ | ⟨z, hz, hz1, ⟨_, e⟩ | ⟨hz2, _⟩⟩
          · exact absurd hy1 (hno y hyt)
          · exact absurd e hp
          · have := hv.ord.uniq (List.mem_of_mem_take hz) hy (by rw [hz1, hy1])
            subst this
            exact absurd hy2 hz2
    · rw [h, obind_some, eqN_zero, sel_true]
      have hn' : ∀ (i : Nat) (x : Nd), l[i]? = some x → mayF x = true ∧ prevC l i x = false ∧ dirE (l.take i) (splitF x.1).1 = 0 := fun i x hx => by
        have := hn i x hx
        simp only [Bool.or_eq_false_iff, Bool.not_eq_false', decide_eq_false_iff_not, Decidable.not_not] at this
        exact ⟨this.1.1, this.1.2, by simpa using this.2⟩
      have ho : Ord l := prevC_adj fun i x hx => (hn' i x hx).2.1
      refine ⟨0, rfl, fun _ => ⟨by omega, ho, fun x hx => ?_, fun x hx => ?_⟩, fun _ => rfl⟩
      · obtain ⟨i, hi⟩ := mem_at.1 hx
        exact (hn' i x hi).1
      · obtain ⟨i, hi⟩ := mem_at.1 hx
        have hd := (dirE_val (l.take i) (splitF x.1).1 (hl.take i) (hsp hi)).2 (ho.take i)
        rw [(hn' i x hi).2.2] at hd
        rcases hd with ⟨e, _⟩ | ⟨_, ⟨_, e⟩ | ⟨y, hy, hy1, ⟨hy2, _⟩ | ⟨_, e⟩⟩⟩
        · exact .inl e
        · omega
        · exact .inr ⟨y, List.mem_of_mem_take hy, hy1, hy2⟩
        · omega

end Go.Ge
