/- Plain laws of what the functions compute: part 3. -/
import Derived.Test.YtpcimoekpbilgaaGreatDoorPlB
/- Trees as they may be. -/
namespace Go.Ge
set_option linter.unusedVariables false
set_option linter.unusedSimpArgs false

structure Valid (l : List Nd) : Prop where
  few : l.length ≤ 64
  ord : Ord l
  may : ∀ x ∈ l, mayF x = true
  up : ∀ x ∈ l, (splitF x.1).1 = [] ∨ ∃ y ∈ l, y.1 = (splitF x.1).1 ∧ y.2.1 = 2

theorem splitF_len (p : List UInt8) : (splitF p).1.length ≤ p.length := by
  rcases split_cases p with ⟨_, h⟩ | ⟨a, b, h1, _, h⟩
  · rw [h]; simp
  · rw [h, h1]; simp
theorem parent_key {p : List UInt8} (h : (splitF p).1 ≠ []) : parts p = parts (splitF p).1 ++ [(splitF p).2] := by
  rcases split_cases p with ⟨_, e⟩ | ⟨a, b, e1, e2, e⟩
  · rw [e] at h; exact absurd rfl h
  · rw [e] at h ⊢
    have hp : p ≠ [] := by rw [e1]; simp
    unfold parts
    rw [if_neg hp, if_neg h, e1]
    exact splitS_snoc a b e2

theorem Ord.uniq {l : List Nd} (h : Ord l) {x y : Nd} (hx : x ∈ l) (hy : y ∈ l) (e : x.1 = y.1) : x = y := by
  obtain ⟨i, hi⟩ := mem_at.1 hx
  obtain ⟨j, hj⟩ := mem_at.1 hy
  have hk : key x = key y := by unfold key; rw [e]
  rcases Nat.lt_trichotomy i j with g | g | g
  · have := h i j x y g hi hj; rw [hk, cmpL_self] at this; omega
  · subst g; rw [hi] at hj; exact Option.some.inj hj
  · have := h j i y x g hj hi; rw [hk, cmpL_self] at this; omega

theorem ord_of_adj {l : List Nd} (h : ∀ (k : Nat) (x y : Nd), l[k]? = some x → l[k + 1]? = some y → cmpL (key x) (key y) < 0) : Ord l := by
  have run : ∀ (d i : Nat) (x y : Nd), l[i]? = some x → l[i + 1 + d]? = some y → cmpL (key x) (key y) < 0 := by
    intro d
    induction d with
    | zero => intro i x y hx hy; exact h i x y hx hy
    | succ d ih =>
      intro i x y hx hy
      have hl := getElem?_lt hy
      obtain ⟨z, hz⟩ : ∃ z, l[i + 1 + d]? = some z := ⟨_, List.getElem?_eq_getElem (by omega)⟩
      exact cmpL_trans (ih i x z hx hz) (h (i + 1 + d) z y hz hy)
  intro i j x y hij hx hy
  exact run (j - i - 1) i x y hx (by rw [show i + 1 + (j - i - 1) = j by omega]; exact hy)

def prevC (l : List Nd) (i : Nat) (x : Nd) : Bool := match i with
  | 0 => false
  | k + 1 => match l[k]? with
    | some y => decide (0 ≤ cmpL (key y) (key x))
    | none => false

theorem prevC_succ {l : List Nd} {k : Nat} {x y : Nd} (hy : l[k]? = some y) : prevC l (k + 1) x = decide (0 ≤ cmpL (key y) (key x)) := by
  show (match l[k]? with | some y => decide (0 ≤ cmpL (key y) (key x)) | none => false) = _
  rw [hy]

noncomputable def dirE (l : List Nd) (d : List UInt8) : Int := match P_tree_dir (l, (d, ())) with
  | some y => y.1
  | none => 0
theorem dirE_val (l : List Nd) (d : List UInt8) (hl : SmL l) (hd : d.length ≤ 4096) : P_tree_dir (l, (d, ())) = some (dirE l d, ()) ∧ (Ord l → Dir l d (dirE l d)) := by
  obtain ⟨e, h1, h2⟩ := dir_val l d hl hd
  have : dirE l d = e := by unfold dirE; rw [h1]
  rw [this]; exact ⟨h1, h2⟩
noncomputable def rdirB (l : List Nd) (d : List UInt8) : Bool := match P_ref14_dir (l, (d, ())) with
  | some y => y.1
  | none => false
theorem rdirB_val (l : List Nd) (d : List UInt8) (hl : SmL l) : P_ref14_dir (l, (d, ())) = some (rdirB l d, ()) ∧ (rdirB l d = true → d = [] ∨ ∃ x ∈ l, x.1 = d ∧ x.2.1 = 2) ∧ (Ord l → rdirB l d = false → d ≠ [] ∧ ∀ x ∈ l, x.1 = d → x.2.1 ≠ 2) := by
  obtain ⟨e, h1, h2, h3⟩ := refDir_val l d hl
  have : rdirB l d = e := by unfold rdirB; rw [h1]
  rw [this]; exact ⟨h1, h2, h3⟩

theorem prevC_adj {l : List Nd} (h : ∀ (i : Nat) (x : Nd), l[i]? = some x → prevC l i x = false) : Ord l := ord_of_adj fun k x y hx hy => by
  have := h (k + 1) y hy
  rw [prevC_succ hx] at this
  have := of_decide_eq_false this
  omega
theorem prevC_ord {l : List Nd} (h : Ord l) {i : Nat} {x : Nd} (hx : l[i]? = some x) : prevC l i x = false := by
  cases i with
  | zero => rfl
  | succ k =>
    have hl := getElem?_lt hx
    obtain ⟨y, hy⟩ : ∃ y, l[k]? = some y := ⟨_, List.getElem?_eq_getElem (by omega)⟩
    rw [prevC_succ hy]
    have := h k (k + 1) y x (by omega) hy hx
    exact decide_eq_false (by omega)

theorem up_before {l : List Nd} (h : Ord l) {i : Nat} {x y : Nd} (hx : l[i]? = some x) (hy : y ∈ l) (hu : (splitF x.1).1 ≠ []) (e : y.1 = (splitF x.1).1) : y ∈ l.take i := by
  obtain ⟨j, hj⟩ := mem_at.1 hy
  have hc : cmpL (key y) (key x) = -1 := by
    unfold key
    rw [e, parent_key hu]
    exact cmpL_app _ _ (by simp)
  rcases Nat.lt_or_ge j i with g | g
  · exact List.mem_of_getElem? (i := j) (by rw [List.getElem?_take, if_pos g]; exact hj)
  · exfalso
    rcases Nat.lt_or_ge i j with g2 | g2
    · have := cmpL_trans (h i j x y g2 hx hj) (show cmpL (key y) (key x) < 0 by omega)
      rw [cmpL_self] at this; omega
    · obtain rfl : i = j := by omega
      rw [hx] at hj
      obtain rfl := Option.some.inj hj
      rw [cmpL_self] at hc; omega

theorem check_val' (l : List Nd) (hl : SmL l) : ∃ e, P_tree_Check (l, ()) = some (e, ()) ∧ (e = 0 ↔ Valid l) := by
  unfold P_tree_Check
  dsimp only
  have h64 : ltI 64 (len l) = decide (64 < l.length) := by unfold ltI len; apply decide_eq_decide.2; omega
  rw [h64]
  by_cases h0 : 64 < l.length
  · rw [decide_eq_true h0, sel_true]
    exact ⟨1, rfl, fun h => by omega, fun h => by have := h.few; omega⟩
  · rw [decide_eq_false h0, sel_false]
    have hsp : ∀ {i : Nat} {x : Nd}, l[i]? = some x → (splitF x.1).1.length ≤ 4096 := fun {i x} hx => by have := (hl.at hx).1; have := splitF_len x.1; omega
    rcases srch (f := P_tree_Check_L0 (l, ())) l (fun i => ((0, (i, ())), ())) (fun i x => !mayF x || prevC l i x || decide (dirE (l.take i) (splitF x.1).1 ≠ 0)) (fun i x => (1, ((1, ((i : Int), ())), ()))) ((0 : Nat), ((0, ((l.length : Int), ())), ())) (by have := hl.1; omega) (fun i x hx hi ha => by
        unfold P_tree_Check_L0
        dsimp only
        rw [ltI_len_true hi, sel_true, idx_some' hx, obind_some, psplit_val _ (by have := (hl.at hx).1; omega), obind_some, tis_val _ (by have := (hl.at hx).1; omega), obind_some]
        dsimp only
        cases hm : mayF x with
        | false => rfl
        | true =>
          rw [nt_true, sel_false]
          have hin : inside 0 (i : Int) (len l) = true := inside_len (a := 0) (Nat.zero_le _) (by omega)
          have hdir := (dirE_val (l.take i) (splitF x.1).1 (hl.take i) (hsp hx)).1
          rw [hin, sel_true, sub_take, hdir, obind_some, ha]
          dsimp only
          cases i with
          | zero =>
            rw [ltI_false (by simp), sel_false]
            generalize dirE (l.take 0) (splitF x.1).1 = e
            by_cases hz : e = 0
            · rw [eqI_true hz, nt_true, sel_false]; simp [prevC, hz]
            · rw [show eqI e 0 = false by simp [eqI, hz], nt_false, sel_true]; simp [prevC, hz]
          | succ k =>
            obtain ⟨y, hy⟩ : ∃ y, l[k]? = some y := ⟨_, List.getElem?_eq_getElem (by omega)⟩
            rw [ltI_true (by omega), sel_true, isub_i64 (by omega) (by omega), show (((k + 1 : Nat) : Int) - 1) = (k : Int) by omega, idx_some' hy, obind_some, compare_val _ _ (by have := (hl.at hy).1; omega) (by have := (hl.at hx).1; omega), obind_some]
            dsimp only
            rw [leI_dec]
            rw [prevC_succ hy]
            unfold key
            generalize dirE (l.take (k + 1)) (splitF x.1).1 = e
            by_cases hc : 0 ≤ cmpL (parts y.1) (parts x.1)
            · rw [decide_eq_true hc, sel_true]; simp
            · rw [decide_eq_false hc, sel_false]
              by_cases hz : e = 0
              · rw [eqI_true hz, nt_true, sel_false]; simp [hz]
              · rw [show eqI e 0 = false by simp [eqI, hz], nt_false, sel_true]; simp [hz]) (by unfold P_tree_Check_L0; dsimp only; rw [ltI_len_end, sel_false]) with ⟨i, x, hx, hp, _, h⟩ | ⟨hn, h⟩
    · rw [h, obind_some, eqN_one, sel_false]
      refine ⟨1, rfl, fun h => by omega, fun hv => ?_⟩
      rw [hv.may x (List.mem_of_getElem? hx), prevC_ord hv.ord hx] at hp
      simp only [Bool.not_true, Bool.false_or, decide_eq_true_eq] at hp
      have hd := (dirE_val (l.take i) (splitF x.1).1 (hl.take i) (hsp hx)).2 (hv.ord.take i)
      rcases hd with ⟨_, e⟩ | ⟨hne, hd⟩
      · exact absurd e hp
      · rcases hv.up x (List.mem_of_getElem? hx) with hu | ⟨y, hy, hy1, hy2⟩
        · exact absurd hu hne
        · have hyt := up_before hv.ord hx hy hne hy1
          rcases hd with ⟨hno, _⟩ | ⟨z, hz, hz1, ⟨_, e⟩ | ⟨hz2, _⟩⟩
          · exact absurd hy1 (hno y hyt)
          · exact absurd e hp
          · have := hv.ord.uniq (List.mem_of_mem_take hz) hy (by rw [hz1, hy1])
            subst this
            exact absurd hy2 hz2
    · rw [h, obind_some, eqN_zero, sel_true]
      have hn' : ∀ (i : Nat) (x : Nd), l[i]? = some x → mayF x = true ∧ prevC l i x = false ∧ dirE (l.take i) (splitF x.1).1 = 0 := fun i x hx => by
        have := hn i x hx
        simp only [Bool.or_eq_false_iff, Bool.not_eq_false', decide_eq_false_iff_not, Decidable.not_not] at this
        exact ⟨this.1.1, this.1.2, by simpa using this.2⟩
      have ho : Ord l := prevC_adj fun i x hx => (hn' i x hx).2.1
      refine ⟨0, rfl, fun _ => ⟨by omega, ho, fun x hx => ?_, fun x hx => ?_⟩, fun _ => rfl⟩
      · obtain ⟨i, hi⟩ := mem_at.1 hx
        exact (hn' i x hi).1
      · obtain ⟨i, hi⟩ := mem_at.1 hx
        have hd := (dirE_val (l.take i) (splitF x.1).1 (hl.take i) (hsp hi)).2 (ho.take i)
        rw [(hn' i x hi).2.2] at hd
        rcases hd with ⟨e, _⟩ | ⟨_, ⟨_, e⟩ | ⟨y, hy, hy1, ⟨hy2, _⟩ | ⟨_, e⟩⟩⟩
        · exact .inl e
        · omega
        · exact .inr ⟨y, List.mem_of_mem_take hy, hy1, hy2⟩
        · omega

theorem isTree_val (l : List Nd) (hl : SmL l) : ∃ b, P_ref14_Is (l, ()) = some (b, ()) ∧ (b = true ↔ Valid l) := by
  unfold P_ref14_Is
  dsimp only
  have h64 : ltI 64 (len l) = decide (64 < l.length) := by unfold ltI len; apply decide_eq_decide.2; omega
  rw [h64]
  by_cases h0 : 64 < l.length
  · rw [decide_eq_true h0, sel_true]
    exact ⟨false, rfl, fun h => (by cases h), fun h => by have := h.few; omega⟩
  · rw [decide_eq_false h0, sel_false]
    rcases srch (f := P_ref14_Is_L0 (l, ())) l (fun i => ((false, (i, ())), ())) (fun i x => !mayF x || !rdirB l (splitF x.1).1 || prevC l i x) (fun i x => (1, ((false, ((i : Int), ())), ()))) ((0 : Nat), ((false, ((l.length : Int), ())), ())) (by have := hl.1; omega) (fun i x hx hi ha => by
        unfold P_ref14_Is_L0
        dsimp only
        rw [ltI_len_true hi, sel_true, idx_some' hx, obind_some, refSplit_val _ (by have := (hl.at hx).1; omega), obind_some, obind_some, t14_may_val _ (by have := (hl.at hx).1; omega) (by have := (hl.at hx).2.1; omega), obind_some]
        dsimp only
        cases hm : mayF x with
        | false => rfl
        | true =>
          rw [nt_true, sel_false, (rdirB_val l (splitF x.1).1 hl).1, obind_some]
          dsimp only
          cases hr : rdirB l (splitF x.1).1 with
          | false => rfl
          | true =>
            rw [nt_true, sel_false, ha]
            cases i with
            | zero => rw [ltI_false (by simp), sel_false]; simp [prevC]
            | succ k =>
              obtain ⟨y, hy⟩ : ∃ y, l[k]? = some y := ⟨_, List.getElem?_eq_getElem (by omega)⟩
              rw [ltI_true (by omega), sel_true, isub_i64 (by omega) (by omega), show (((k + 1 : Nat) : Int) - 1) = (k : Int) by omega, idx_some' hy, obind_some, obind_some, refCompare_val _ _ (by have := (hl.at hy).1; omega) (by have := (hl.at hx).1; omega), obind_some]
              dsimp only
              rw [leI_dec]
              rw [prevC_succ hy]
              unfold key
              by_cases hc : 0 ≤ cmpL (parts y.1) (parts x.1)
              · rw [decide_eq_true hc, sel_true]; simp
              · rw [decide_eq_false hc, sel_false]; simp) (by unfold P_ref14_Is_L0; dsimp only; rw [ltI_len_end, sel_false]) with ⟨i, x, hx, hp, _, h⟩ | ⟨hn, h⟩
    · rw [h, obind_some, eqN_one, sel_false]
      refine ⟨false, rfl, fun h => (by cases h), fun hv => ?_⟩
      rw [hv.may x (List.mem_of_getElem? hx), prevC_ord hv.ord hx] at hp
      simp only [Bool.not_true, Bool.false_or, Bool.or_false, Bool.not_eq_true'] at hp
      obtain ⟨g1, g2⟩ := (rdirB_val l (splitF x.1).1 hl).2.2 hv.ord hp
      rcases hv.up x (List.mem_of_getElem? hx) with hu | ⟨y, hy, hy1, hy2⟩
      · exact absurd hu g1
      · exact absurd hy2 (g2 y hy hy1)
    · rw [h, obind_some, eqN_zero, sel_true]
      have hn' : ∀ (i : Nat) (x : Nd), l[i]? = some x → mayF x = true ∧ rdirB l (splitF x.1).1 = true ∧ prevC l i x = false := fun i x hx => by
        have := hn i x hx
        simp only [Bool.or_eq_false_iff, Bool.not_eq_false'] at this
        exact ⟨this.1.1, this.1.2, this.2⟩
      refine ⟨true, rfl, fun _ => ⟨by omega, prevC_adj fun i x hx => (hn' i x hx).2.2, fun x hx => ?_, fun x hx => ?_⟩, fun _ => rfl⟩
      · obtain ⟨i, hi⟩ := mem_at.1 hx
        exact (hn' i x hi).1
      · obtain ⟨i, hi⟩ := mem_at.1 hx
        exact (rdirB_val l (splitF x.1).1 hl).2.1 (hn' i x hi).2.1
end Go.Ge

/- Rows from which some are taken, and into which one is laid: in plain words. -/
namespace Go.Ge
set_option linter.unusedVariables false
set_option linter.unusedSimpArgs false

theorem takeWhile_eq {α : Type} {P : α → Bool} : ∀ {l : List α} {k : Nat}, k ≤ l.length → (∀ (j : Nat) (y : α), j < k → l[j]? = some y → P y = true) → (∀ y, l[k]? = some y → P y = false) → l.takeWhile P = l.take k ∧ l.dropWhile P = l.drop k := by
  intro l
  induction l with
  | nil => intro k hk _ _; simp
  | cons a r ih =>
    intro k hk h1 h2
    cases k with
    | zero =>
      have := h2 a rfl
      simp [List.takeWhile_cons, List.dropWhile_cons, this]
    | succ k =>
      have ha := h1 0 a (by omega) rfl
      obtain ⟨g1, g2⟩ := ih (k := k) (by simpa using hk) (fun j y hj hy => h1 (j + 1) y (by omega) hy) (fun y hy => h2 y hy)
      simp [List.takeWhile_cons, List.dropWhile_cons, ha, g1, g2]

theorem del_loop {α S R : Type} {f : S → Option (S ⊕ R)} (l : List α) (gone : α → Bool) (mk : Int → Int → List α → S) (fin : Int → List α → R) (hl : l.length ≤ 4294967296)
    (hstep : ∀ (w j : Nat) (L : List α) (x : α), l[j]? = some x → L[j]? = some x → w ≤ j → j < L.length → iadd .i64 (w : Int) 1 = ((w + 1 : Nat) : Int) → iadd .i64 (j : Int) 1 = ((j + 1 : Nat) : Int) →
      f (mk (w : Int) (j : Int) L) = some (.inl (if gone x = true then mk (w : Int) ((j + 1 : Nat) : Int) L else mk ((w + 1 : Nat) : Int) ((j + 1 : Nat) : Int) (L.set w x))))
    (hfin : ∀ (w : Nat) (L : List α), f (mk (w : Int) (L.length : Int) L) = some (.inr (fin (w : Int) L))) :
    ∀ (n w j : Nat) (L : List α), l.length - j ≤ n → w ≤ j → j ≤ l.length → L.length = l.length → L.take w = (l.take j).filter (fun x => !gone x) → L.drop j = l.drop j →
      ∃ (w' : Nat) (L' : List α), Loop f (mk (w : Int) (j : Int) L) = some (fin (w' : Int) L') ∧ L'.length = l.length ∧ w' ≤ l.length ∧ L'.take w' = l.filter (fun x => !gone x) := by
  intro n
  induction n with
  | zero =>
    intro w j L hn hw hj hL ht hd
    obtain rfl : j = L.length := by omega
    refine ⟨w, L, ?_, hL, by omega, ?_⟩
    · rw [Loop_eq, hfin]; rfl
    · rw [ht, hL, List.take_length]
  | succ n ih =>
    intro w j L hn hw hj hL ht hd
    by_cases hjl : j = l.length
    · exact ih w j L (by omega) hw hj hL ht hd
    · have hjL : j < L.length := by omega
      have hx : l[j]? = some l[j] := List.getElem?_eq_getElem (by omega)
      have hxL : L[j]? = some l[j] := by
        have := congrArg (fun z => z[0]?) hd
        simpa [List.getElem?_drop, hx] using this
      have hd1 : L.drop (j + 1) = l.drop (j + 1) := by
        have := congrArg (List.drop 1) hd
        simpa [List.drop_drop] using this
      have ht1 : l.take (j + 1) = l.take j ++ [l[j]] := by rw [List.take_add_one, hx]; rfl
      rw [Loop_eq, hstep w j L l[j] hx hxL hw hjL (iadd_one (by omega)) (iadd_one (by omega))]
      by_cases hg : gone l[j] = true
      · rw [if_pos hg]
        exact ih w (j + 1) L (by omega) (by omega) (by omega) hL (by rw [ht, ht1, List.filter_append]; simp [hg]) hd1
      · rw [if_neg hg]
        refine ih (w + 1) (j + 1) (L.set w l[j]) (by omega) (by omega) (by omega) (by simpa using hL) ?_ ?_
        · rw [ht1, List.filter_append, ← ht, List.take_add_one, List.take_set_of_le (Nat.le_refl w)]
          simp [hg, show w < L.length by omega]
        · rw [List.drop_set_of_lt (by omega)]; exact hd1

theorem sub_over {α : Type} (L : List α) (w : Nat) (hw : w ≤ L.length) (m : List α) : sub (over L (w : Int) m) 0 (minus (w : Int) 0) = L.take w := by
  rw [sub_take]
  unfold over
  rw [Int.toNat_natCast, List.append_assoc, List.take_append_of_le_length (by rw [List.length_take]; omega), List.take_take, Nat.min_self]
theorem len_over {α : Type} (L : List α) (w : Nat) (hw : w ≤ L.length) (z : α) : len (over L (w : Int) (lrep (minus (len L) (w : Int)) z)) = (L.length : Int) := by
  unfold over lrep minus len
  simp
  omega

theorem filter_one {α : Type} {l : List α} {P : α → Bool} {k : Nat} {x : α} (hx : l[k]? = some x) (hP : P x = false) (h : ∀ (j : Nat) (y : α), j ≠ k → l[j]? = some y → P y = true) : l.filter P = l.take k ++ l.drop (k + 1) := by
  have hk := getElem?_lt hx
  have e : l = l.take k ++ x :: l.drop (k + 1) := by
    conv => lhs; rw [← List.take_append_drop k l, List.drop_eq_getElem_cons hk]
    rw [(List.getElem?_eq_some_iff.1 hx).2]
  conv => lhs; rw [e]
  rw [List.filter_append, List.filter_cons, hP]
  have h1 : (l.take k).filter P = l.take k := List.filter_eq_self.2 fun y hy => by
    obtain ⟨j, hj⟩ := mem_at.1 hy
    rw [List.getElem?_take] at hj
    split at hj
    · exact h j y (by omega) hj
    · cases hj
  have h2 : (l.drop (k + 1)).filter P = l.drop (k + 1) := List.filter_eq_self.2 fun y hy => by
    obtain ⟨j, hj⟩ := mem_at.1 hy
    rw [List.getElem?_drop] at hj
    exact h (k + 1 + j) y (by omega) hj
  rw [h1, h2]
  simp

/-! ### Trees -/
def insF (l : List Nd) (n : Nd) : List Nd := l.takeWhile (fun x => decide (cmp x n.1 < 0)) ++ n :: l.dropWhile (fun x => decide (cmp x n.1 < 0))
def gone (p : List UInt8) (x : Nd) : Bool := decide (x.1 = p) || underL (parts x.1) (parts p)
def restF (l : List Nd) (p : List UInt8) : List Nd := l.filter fun x => !gone p x

theorem Ord.filter {l : List Nd} (h : Ord l) (P : Nd → Bool) : Ord (l.filter P) := by
  have hp : l.Pairwise fun x y => cmpL (key x) (key y) < 0 := by
    rw [List.pairwise_iff_getElem]
    intro i j hi hj hij
    exact h i j _ _ hij (List.getElem?_eq_getElem hi) (List.getElem?_eq_getElem hj)
  have hq := hp.filter P
  rw [List.pairwise_iff_getElem] at hq
  intro i j x y hij hx hy
  obtain ⟨h1, h2⟩ := List.getElem?_eq_some_iff.1 hx
  obtain ⟨h3, h4⟩ := List.getElem?_eq_some_iff.1 hy
  rw [← h2, ← h4]
  exact hq i j h1 h3 hij
theorem SmL.filter {l : List Nd} (h : SmL l) (P : Nd → Bool) : SmL (l.filter P) := ⟨Nat.le_trans (List.length_filter_le _ _) h.1, fun x hx => h.2 x (List.mem_filter.1 hx).1⟩

theorem insF_at {l : List Nd} {n : Nd} {k : Nat} {b : Bool} (h : Plc l n.1 k b) : insF l n = l.take k ++ [n] ++ l.drop k := by
  obtain ⟨h1, h2⟩ := takeWhile_eq (P := fun x => decide (cmp x n.1 < 0)) h.le (fun j y hj hy => decide_eq_true (h.lo j y hj hy)) (fun y hy => decide_eq_false (h.hi k y (Nat.le_refl _) hy))
  unfold insF
  rw [h1, h2]
  simp

theorem none_under {l : List Nd} (hv : Valid l) {p : List UInt8} (hp : p ≠ []) (hn : ∀ x ∈ l, x.1 ≠ p) : ∀ (m : Nat) (x : Nd), x ∈ l → (parts x.1).length ≤ m → underL (parts x.1) (parts p) = false := by
  intro m
  induction m with
  | zero =>
    intro x hx hm
    unfold underL
    exact decide_eq_false (by omega)
  | succ m ih =>
    intro x hx hm
    cases hu : underL (parts x.1) (parts p) with
    | false => rfl
    | true =>
      exfalso
      unfold underL at hu
      obtain ⟨h1, h2⟩ := of_decide_eq_true hu
      have hmay := hv.may x hx
      unfold mayF okPath at hmay
      simp only [Bool.and_eq_true, decide_eq_true_eq] at hmay
      by_cases h0 : (splitF x.1).1 = []
      · have hall := hmay.1.1.1.1.1.1.1.2
        have hone : (parts x.1).length ≤ 1 := by
          rcases split_cases x.1 with ⟨a, _⟩ | ⟨a, b, e1, e2, e⟩
          · unfold parts
            split
            · simp
            · rw [splitS_plain _ a]; simp
          · rw [e] at h0
            have h0 : a = [] := h0
            subst h0
            have : isNm [] = true := List.all_eq_true.1 hall [] (by
              unfold parts
              rw [e1, if_neg (by simp)]
              show [] ∈ splitS ([] ++ 47 :: b)
              rw [splitS_app [] (by simp)]
              simp)
            exact absurd this (by decide)
        have : parts p = [] := List.length_eq_zero_iff.1 (by omega)
        have := joinS_parts p
        rw [‹parts p = []›] at this
        exact hp this.symm
      · have hk := parent_key h0
        rcases hv.up x hx with e | ⟨y, hy, hy1, hy2⟩
        · exact absurd e h0
        · rw [← hy1] at hk
          rw [hk] at h1 h2
          have hle : (parts p).length ≤ (parts y.1).length := by simp at h1; omega
          rw [List.take_append_of_le_length hle] at h2
          rcases Nat.lt_or_ge (parts p).length (parts y.1).length with g | g
          · have := ih y hy (by rw [hk] at hm; simp at hm; omega)
            unfold underL at this
            exact absurd ⟨g, h2⟩ (of_decide_eq_false this)
          · have he : parts p = parts y.1 := by rw [← h2, List.take_of_length_le (by omega)]
            refine hn y hy ?_
            rw [← joinS_parts y.1, ← he, joinS_parts]

end Go.Ge

/- A node put into a tree: in plain words. -/
namespace Go.Ge
set_option linter.unusedVariables false
set_option linter.unusedSimpArgs false

open Classical in
noncomputable def t14_putF (l : List Nd) (n : Nd) : List Nd × Int :=
  if ¬ Valid l ∨ mayF n = false then ([], 1) else
  if (splitF n.1).1 ≠ [] ∧ ∀ x ∈ l, x.1 ≠ (splitF n.1).1 then ([], 3) else
  if (splitF n.1).1 ≠ [] ∧ ∀ x ∈ l, x.1 = (splitF n.1).1 → x.2.1 ≠ 2 then ([], 12) else
  let r := if (∃ x ∈ l, x.1 = n.1 ∧ x.2.1 = 2) ∧ n.2.1 = 2 then l.filter (fun x => !decide (x.1 = n.1)) else restF l n.1
  if 64 ≤ r.length then ([], 5) else (insF r n, 0)

theorem mayF_ne {n : Nd} (h : mayF n = true) : n.1 ≠ [] := by
  unfold mayF okPath at h
  simp only [Bool.and_eq_true, decide_eq_true_eq] at h
  exact h.1.1.1.1.1.1.1.1

theorem ins_val (l : List Nd) (k : Nat) (n : Nd) (hk : k ≤ l.length) (hl : l.length ≤ 4096) : P_slices_Insert_api_TreeNode_api_TreeNode l ((k : Int), ([n], ())) = some (l.take k ++ [n] ++ l.drop k) := by
  unfold P_slices_Insert_api_TreeNode_api_TreeNode insL
  dsimp only
  have h1 : inside 0 (k : Int) (len l) = true := inside_len (a := 0) (Nat.zero_le _) hk
  rw [h1, fits_len2 (by simp; omega)]
  simp

theorem tail_val (r : List Nd) (n : Nd) (hr : SmL r) (ho : Ord r) (hn : n.1.length ≤ 200) (c : Int) (hc : c = r.length) :
    sel (leI 64 c) (some (([] : List Nd), ((5 : Int), ()))) (obind (P_tree_place (r, (n.1, ()))) fun (y : Int × Bool × Unit) => obind (P_slices_Insert_api_TreeNode_api_TreeNode r (y.1, ([n], ()))) fun z => some (z, ((0 : Int), ()))) =
      some (if 64 ≤ r.length then ([], (5, ())) else (insF r n, (0, ()))) := by
  subst hc
  rw [leI_dec]
  by_cases h : 64 ≤ r.length
  · rw [decide_eq_true (by omega), sel_true, if_pos h]
  · rw [decide_eq_false (by omega), sel_false, if_neg h]
    obtain ⟨k, b, h1, h2, h3, h4⟩ := place_val r n.1 hr (by omega)
    rw [h1, obind_some]
    dsimp only
    rw [ins_val r k n h2 hr.1, obind_some, insF_at (h4 ho)]

theorem gone_val (x : Nd) (p : List UInt8) (hx : x.1.length ≤ 200) (hp : p.length ≤ 200) : sel (nt (eqS x.1 p)) (obind (P_paths_Under (x.1, (p, ()))) (fun (y : Bool × Unit) => some y.1)) (some true) = some (gone p x) := by
  rw [under_val _ _ (by omega) (by omega), obind_some, eqS_iff]
  unfold gone
  cases decide (x.1 = p) <;> rfl

theorem put_loop0 (l : List Nd) (n : Nd) (hl : SmL l) (hn : n.1.length ≤ 200) : (∃ i x, l[i]? = some x ∧ gone n.1 x = true ∧ (∀ (j : Nat) y, j < i → l[j]? = some y → gone n.1 y = false) ∧ Loop (P_tree_Put_L0 (l, (n, ()))) ((0, (0, ())), ((), (n.1, ()))) = some (1, (((i : Int), ((i : Int), ())), ((), (n.1, ()))))) ∨
    ((∀ (i : Nat) x, l[i]? = some x → gone n.1 x = false) ∧ Loop (P_tree_Put_L0 (l, (n, ()))) ((0, (0, ())), ((), (n.1, ()))) = some (0, ((0, ((l.length : Int), ())), ((), (n.1, ()))))) :=
  srch (f := P_tree_Put_L0 (l, (n, ()))) l (fun i => ((0, (i, ())), ((), (n.1, ())))) (fun _ x => gone n.1 x) (fun i x => (1, (((i : Int), ((i : Int), ())), ((), (n.1, ()))))) (0, ((0, ((l.length : Int), ())), ((), (n.1, ())))) (by have := hl.1; omega) (fun i x hx hi ha => by
      unfold P_tree_Put_L0
      dsimp only
      rw [ltI_len_true hi, sel_true, within_true (by omega) (by unfold len; omega), sel_true, idx_some' hx, obind_some, gone_val _ _ (hl.at hx).1 hn, obind_some, ha]
      cases gone n.1 x <;> rfl) (by unfold P_tree_Put_L0; dsimp only; rw [ltI_len_end, sel_false])

theorem put_loop2 (l : List Nd) (n : Nd) (hl : SmL l) (hn : n.1.length ≤ 200) (i : Nat) (x : Nd) (hx : l[i]? = some x) (hg : gone n.1 x = true) (hb : ∀ (j : Nat) y, j < i → l[j]? = some y → gone n.1 y = false) :
    ∃ (w : Nat) (L : List Nd), Loop (P_tree_Put_L2) (((i : Int), (iadd IntKind.i64 (i : Int) 1, ((), ()))), ((), (n.1, (l, ())))) = some (((w : Int), ((l.length : Int), ((), ()))), ((), (n.1, (L, ())))) ∧ L.length = l.length ∧ w ≤ l.length ∧ L.take w = restF l n.1 := by
  have hi := getElem?_lt hx
  have h4 := hl.1
  have hfl : l.take i = (l.take (i + 1)).filter (fun x => !gone n.1 x) := by
    rw [List.take_add_one, hx, List.filter_append]
    have h1 : (l.take i).filter (fun x => !gone n.1 x) = l.take i := List.filter_eq_self.2 fun y hy => by
      obtain ⟨j, hj⟩ := mem_at.1 hy
      rw [List.getElem?_take] at hj
      split at hj
      · rw [hb j y (by omega) hj]; rfl
      · cases hj
    rw [h1]
    simp [hg]
  obtain ⟨w, L, h1, h2, h3, h5⟩ := del_loop (f := P_tree_Put_L2) l (gone n.1) (fun w j L => ((w, (j, ((), ()))), ((), (n.1, (L, ()))))) (fun w L => ((w, ((L.length : Int), ((), ()))), ((), (n.1, (L, ()))))) (by omega) (fun w j L x hx hxL hw hj ha hb => by
      unfold P_tree_Put_L2
      dsimp only
      have hwL : w < L.length := by omega
      obtain ⟨z, hz⟩ : ∃ z, L[w]? = some z := ⟨_, List.getElem?_eq_getElem hwL⟩
      rw [ltI_len_true hj, sel_true, within_true (by omega) (by unfold len; omega), sel_true, idx_some' hxL, obind_some, gone_val _ _ (hl.at hx).1 hn, obind_some, hb]
      cases gone n.1 x with
      | true => rfl
      | false =>
        rw [nt_false, sel_true, within_true (by omega) (by unfold len; omega), sel_true, idx_some' hz, obind_some, obind_some, obind_some, obind_some, ha, lset_nat]
        rfl) (fun w L => by
      unfold P_tree_Put_L2
      dsimp only
      rw [ltI_len_end, sel_false]
      rfl) l.length i (i + 1) l (by omega) (by omega) (by omega) rfl hfl rfl
  refine ⟨w, L, ?_, h2, h3, h5⟩
  rw [iadd_one (by omega), h1, h2]

theorem same_dir {l : List Nd} (ho : Ord l) {n x : Nd} {k : Nat} (hx : l[k]? = some x) (e : x.1 = n.1) : l.filter (fun x => !decide (x.1 = n.1)) = l.take k ++ l.drop (k + 1) ∧ insF (l.take k ++ l.drop (k + 1)) n = l.take k ++ [n] ++ l.drop (k + 1) := by
  have hk := getElem?_lt hx
  have hkx : key x = parts n.1 := by unfold key; rw [e]
  have hlo : ∀ (j : Nat) (y : Nd), j < k → l[j]? = some y → cmp y n.1 < 0 := fun j y hj hy => by
    have := ho j k y x hj hy hx
    rw [hkx] at this; exact this
  have hhi : ∀ (j : Nat) (y : Nd), k < j → l[j]? = some y → ¬ cmp y n.1 < 0 := fun j y hj hy hc => by
    have := ho k j x y hj hx hy
    rw [hkx] at this
    have := cmpL_trans this hc
    rw [cmpL_self] at this; omega
  have htl : (l.take k).length = k := by rw [List.length_take]; omega
  constructor
  · refine filter_one hx (by rw [decide_eq_true e]; rfl) fun j y hj hy => ?_
    rw [decide_eq_false]; rfl
    intro e2
    have h0 := cmp_same e2
    rcases Nat.lt_or_ge j k with g | g
    · have := hlo j y g hy; omega
    · have hne : key x = key y := by rw [hkx]; unfold key; rw [e2]
      have := ho k j x y (by omega) hx hy
      rw [hne, cmpL_self] at this; omega
  · obtain ⟨h1, h2⟩ := takeWhile_eq (l := l.take k ++ l.drop (k + 1)) (k := k) (P := fun x => decide (cmp x n.1 < 0)) (by rw [List.length_append, htl]; omega) (fun j y hj hy => by
        rw [List.getElem?_append_left (by omega), List.getElem?_take, if_pos hj] at hy
        exact decide_eq_true (hlo j y hj hy)) (fun y hy => by
        rw [List.getElem?_append_right (by omega), htl, Nat.sub_self, List.getElem?_drop] at hy
        exact decide_eq_false (hhi _ y (by omega) hy))
    unfold insF
    rw [h1, h2, List.take_left' htl, List.drop_left' htl]
    simp

theorem set_split {α : Type} {l : List α} {k : Nat} (hk : k < l.length) (n : α) : l.set k n = l.take k ++ [n] ++ l.drop (k + 1) := by
  rw [List.set_eq_take_append_cons_drop, if_pos hk]
  simp

theorem t14_put_val (l : List Nd) (n : Nd) (hl : SmL l) (hn : Sm n) : P_tree_Put (l, (n, ())) = some ((t14_putF l n).1, ((t14_putF l n).2, ())) := by
  obtain ⟨e, c1, c2⟩ := check_val' l hl
  have hn1 := hn.1
  unfold P_tree_Put
  dsimp only
  rw [c1, obind_some, tis_val n (by omega), obind_some]
  dsimp only
  by_cases hvm : ¬ Valid l ∨ mayF n = false
  · have hp : t14_putF l n = ([], 1) := by unfold t14_putF; rw [if_pos hvm]
    rw [hp]
    have : sel (nt (nt (eqI e 0))) (some (nt (mayF n))) (some true) = some true := by
      rcases hvm with h | h
      · rw [show eqI e 0 = false by unfold eqI; exact decide_eq_false fun h0 => h (c2.1 h0)]; rfl
      · rw [h]; cases nt (nt (eqI e 0)) <;> rfl
    rw [this, obind_some, sel_true]
  · have hv : Valid l := by
      by_cases h : Valid l
      · exact h
      · exact absurd (.inl h) hvm
    have hm : mayF n = true := by
      cases h : mayF n with
      | true => rfl
      | false => exact absurd (.inr h) hvm
    obtain rfl := c2.2 hv
    rw [hm]
    have : sel (nt (nt (eqI 0 0))) (some (nt true)) (some true) = some false := rfl
    rw [this, obind_some, sel_false, psplit_val _ (by omega), obind_some]
    dsimp only
    obtain ⟨d, d1, d2⟩ := dir_val l (splitF n.1).1 hl (by have := splitF_len n.1; omega)
    rw [d1, obind_some]
    dsimp only
    by_cases hg : (¬ ((splitF n.1).1 ≠ [] ∧ ∀ x ∈ l, x.1 ≠ (splitF n.1).1)) ∧ (¬ ((splitF n.1).1 ≠ [] ∧ ∀ x ∈ l, x.1 = (splitF n.1).1 → x.2.1 ≠ 2)) ∧ d = 0
    · obtain ⟨g1, g2, hd0⟩ := hg
      subst hd0
      have hp : t14_putF l n = (let r := if (∃ x ∈ l, x.1 = n.1 ∧ x.2.1 = 2) ∧ n.2.1 = 2 then l.filter (fun x => !decide (x.1 = n.1)) else restF l n.1
          if 64 ≤ r.length then ([], 5) else (insF r n, 0)) := by
        unfold t14_putF; rw [if_neg hvm, if_neg g1, if_neg g2]
      rw [show nt (eqI 0 0) = false by rfl, sel_false]
      obtain ⟨k, b, p1, p2, p3, p4⟩ := place_val l n.1 hl (by omega)
      have hpl := p4 hv.ord
      rw [p1, obind_some]
      dsimp only
      obtain ⟨y6, e6, s6⟩ : ∃ y6, sel b (obind (idx l (k : Int)) (fun (y : Nd) => some (eqI y.2.1 2))) (some false) = some y6 ∧ (sel y6 (eqI n.2.1 2) false = true ↔ ((∃ x ∈ l, x.1 = n.1 ∧ x.2.1 = 2) ∧ n.2.1 = 2)) := by
        cases b with
        | false =>
          refine ⟨false, rfl, ?_⟩
          rw [sel_false]
          exact ⟨fun h => (by cases h), fun ⟨⟨x, hx, e, _⟩, _⟩ => absurd e (hpl.no rfl x hx)⟩
        | true =>
          obtain ⟨x, hx, e⟩ := hpl.is rfl
          refine ⟨eqI x.2.1 2, by rw [sel_true, idx_some' hx, obind_some], ?_⟩
          rw [sel_and, Bool.and_eq_true]
          unfold eqI
          rw [decide_eq_true_eq, decide_eq_true_eq]
          refine ⟨fun h => ⟨⟨x, List.mem_of_getElem? hx, e, h.1⟩, h.2⟩, fun ⟨⟨y, hy, e2, hy2⟩, h2⟩ => ?_⟩
          have := hv.ord.uniq (List.mem_of_getElem? hx) hy (by rw [e, e2])
          subst this
          exact ⟨hy2, h2⟩
      rw [e6, obind_some]
      by_cases hno : (∃ x ∈ l, x.1 = n.1 ∧ x.2.1 = 2) ∧ n.2.1 = 2
      · rw [s6.2 hno, sel_true]
        have hb : b = true := by
          cases b with
          | true => rfl
          | false => obtain ⟨⟨x, hx, e, _⟩, _⟩ := hno; exact absurd e (hpl.no rfl x hx)
        obtain ⟨x, hx, e⟩ := hpl.is hb
        have hk := getElem?_lt hx
        rw [fits_len (by have := hl.1; omega), sel_true, within_true (by omega) (by unfold len; omega), sel_true, idx_some' hx, obind_some, obind_some, obind_some, lset_nat]
        obtain ⟨s1, s2⟩ := same_dir hv.ord hx e
        have hfew := hv.few
        rw [if_pos hno, s1] at hp
        have h64 : ¬ 64 ≤ (l.take k ++ l.drop (k + 1)).length := by simp; omega
        rw [hp]
        simp only [h64, if_false]
        rw [s2, set_split hk]
      · have hs : sel y6 (eqI n.2.1 2) false = false := by
          cases h : sel y6 (eqI n.2.1 2) false with
          | false => rfl
          | true => exact absurd (s6.1 h) hno
        rw [if_neg hno] at hp
        rw [hs, sel_false, obind_some]
        dsimp only
        rw [show nt (eqI 0 0) = false by rfl, sel_false, fits_len (by have := hl.1; omega), sel_true]
        rcases put_loop0 l n hl hn1 with ⟨i, x, hx, hg, hb, h⟩ | ⟨hb, h⟩
        · obtain ⟨w, L, w1, w2, w3, w4⟩ := put_loop2 l n hl hn1 i x hx hg hb
          rw [h, obind_some]
          dsimp only
          rw [eqN_one, sel_false, show eqI (i : Int) (-1) = false by unfold eqI; exact decide_eq_false (by omega), sel_false, w1, obind_some]
          dsimp only
          rw [inside_true (by omega) (by unfold len; omega) (Int.le_refl _), sel_true, len_over L w (by omega), inside_true (Int.le_refl _) (by omega) (by omega), sel_true, sub_over L w (by omega), w4]
          have hlen : (restF l n.1).length = w := by rw [← w4, List.length_take]; omega
          refine Eq.trans (tail_val (restF l n.1) n (hl.filter _) (hv.ord.filter _) hn1 (minus (w : Int) 0) (by rw [hlen]; unfold minus; omega)) ?_
          rw [hp]
          by_cases h64 : 64 ≤ (restF l n.1).length
          · rw [if_pos h64]; simp only [h64, if_true]
          · rw [if_neg h64]; simp only [h64, if_false]
        · have hr : restF l n.1 = l := List.filter_eq_self.2 fun x hx => by
            obtain ⟨j, hj⟩ := mem_at.1 hx
            rw [hb j x hj]; rfl
          rw [hr] at hp
          rw [h, obind_some]
          dsimp only
          rw [eqN_zero, sel_true, show eqI (-1) (-1) = true by rfl, sel_true]
          have tv := tail_val l n hl hv.ord hn1 (len l) rfl
          rw [p1] at tv
          refine Eq.trans tv ?_
          rw [hp]
          by_cases h64 : 64 ≤ l.length
          · rw [if_pos h64]; simp only [h64, if_true]
          · rw [if_neg h64]; simp only [h64, if_false]
    · rcases d2 hv.ord with ⟨h0, hd⟩ | ⟨h0, ⟨hno, hd⟩ | ⟨x, hx, hx1, ⟨hx2, hd⟩ | ⟨hx2, hd⟩⟩⟩
      · exact absurd ⟨fun h => h.1 h0, fun h => h.1 h0, hd⟩ hg
      · subst hd
        have hp : t14_putF l n = ([], 3) := by unfold t14_putF; rw [if_neg hvm, if_pos ⟨h0, hno⟩]
        rw [hp]; rfl
      · exact absurd ⟨fun h => h.2 x hx hx1, fun h => h.2 x hx hx1 hx2, hd⟩ hg
      · subst hd
        have hp : t14_putF l n = ([], 12) := by
          unfold t14_putF
          rw [if_neg hvm, if_neg (fun h => h.2 x hx hx1), if_pos ⟨h0, fun y hy e => by
            have := hv.ord.uniq hx hy (by rw [hx1, e])
            subst this
            exact hx2⟩]
        rw [hp]; rfl
end Go.Ge

/- The reference's Put: in plain words. -/
namespace Go.Ge
set_option linter.unusedVariables false
set_option linter.unusedSimpArgs false

def withoutF (l : List Nd) (p : List UInt8) (b : Bool) : List Nd := l.filter fun x => !underL (parts x.1) (parts p) && (!b || !decide (x.1 = p))

end Go.Ge

/- A tree's text, its nodes, its lists: in plain words. -/
namespace Go.Ge
set_option linter.unusedVariables false
set_option linter.unusedSimpArgs false

/-! ### The text -/
end Go.Ge

/- A tree's nodes, its lists; the law TreePuts: in plain words. -/
namespace Go.Ge
set_option linter.unusedVariables false
set_option linter.unusedSimpArgs false

def zeroN : Nd := ([], (0, (0, ([], ([], ())))))
def findF (l : List Nd) (p : List UInt8) : Nd × Bool × Unit := match l.find? fun x => decide (x.1 = p) with
  | some x => (x, (true, ()))
  | none => (zeroN, (false, ()))

theorem find_none' {l : List Nd} {p : List UInt8} (h : ∀ x ∈ l, x.1 ≠ p) : findF l p = (zeroN, (false, ())) := by
  unfold findF
  rw [List.find?_eq_none.2 (fun x hx => by simp [h x hx])]
theorem find_some' {l : List Nd} (ho : Ord l) {p : List UInt8} {x : Nd} (hx : x ∈ l) (e : x.1 = p) : findF l p = (x, (true, ())) := by
  unfold findF
  cases h : l.find? fun x => decide (x.1 = p) with
  | none => have := List.find?_eq_none.1 h x hx; simp [e] at this
  | some y =>
    have h1 := List.find?_some h
    have h2 := List.mem_of_find?_eq_some h
    have h1 : y.1 = p := by simpa using h1
    have := ho.uniq hx h2 (by rw [e, h1])
    subst this
    rfl

theorem tfind_val (l : List Nd) (p : List UInt8) (hl : SmL l) (hp : p.length ≤ 4096) (hv : Valid l) : P_tree_Find (l, (p, ())) = some (findF l p) := by
  obtain ⟨e, c1, c2⟩ := check_val' l hl
  obtain rfl := c2.2 hv
  obtain ⟨k, b, p1, p2, p3, p4⟩ := place_val l p hl hp
  have hpl := p4 hv.ord
  unfold P_tree_Find
  dsimp only
  rw [c1, obind_some]
  dsimp only
  rw [show nt (eqI 0 0) = false by rfl, sel_false, p1, obind_some]
  dsimp only
  cases b with
  | false => rw [nt_false, sel_true, find_none' (hpl.no rfl)]; rfl
  | true =>
    obtain ⟨x, hx, e⟩ := hpl.is rfl
    rw [nt_true, sel_false, idx_some' hx, obind_some, find_some' hv.ord (List.mem_of_getElem? hx) e]

/-! ### What may be, told by a program -/
def ordB : List Nd → Bool
  | a :: b :: r => decide (cmpL (key a) (key b) < 0) && ordB (b :: r)
  | _ => true
theorem ordB_ord : ∀ {l : List Nd}, ordB l = true → Ord l := by
  intro l h
  refine ord_of_adj ?_
  induction l with
  | nil => intro k x y hx; simp at hx
  | cons a r ih =>
    cases r with
    | nil => intro k x y hx hy; simp at hy
    | cons b r =>
      simp only [ordB, Bool.and_eq_true, decide_eq_true_eq] at h
      intro k x y hx hy
      cases k with
      | zero =>
        obtain rfl : a = x := by simpa using hx
        obtain rfl : b = y := by simpa using hy
        exact h.1
      | succ k => exact ih h.2 k x y hx hy
def validB (l : List Nd) : Bool := decide (l.length ≤ 64) && ordB l && l.all mayF && l.all fun x => decide ((splitF x.1).1 = []) || l.any fun y => decide (y.1 = (splitF x.1).1) && decide (y.2.1 = 2)
theorem validB_valid {l : List Nd} (h : validB l = true) : Valid l := by
  unfold validB at h
  simp only [Bool.and_eq_true, decide_eq_true_eq] at h
  refine ⟨h.1.1.1, ordB_ord h.1.1.2, fun x hx => List.all_eq_true.1 h.1.2 x hx, fun x hx => ?_⟩
  have := List.all_eq_true.1 h.2 x hx
  simp only [Bool.or_eq_true, decide_eq_true_eq, List.any_eq_true, Bool.and_eq_true] at this
  exact this
def t14_putB (l : List Nd) (n : Nd) : List Nd × Int :=
  if (splitF n.1).1 ≠ [] ∧ ∀ x ∈ l, x.1 ≠ (splitF n.1).1 then ([], 3) else
  if (splitF n.1).1 ≠ [] ∧ ∀ x ∈ l, x.1 = (splitF n.1).1 → x.2.1 ≠ 2 then ([], 12) else
  let r := if (∃ x ∈ l, x.1 = n.1 ∧ x.2.1 = 2) ∧ n.2.1 = 2 then l.filter (fun x => !decide (x.1 = n.1)) else restF l n.1
  if 64 ≤ r.length then ([], 5) else (insF r n, 0)
theorem putF_eq {l : List Nd} {n : Nd} (hv : Valid l) (hm : mayF n = true) : t14_putF l n = t14_putB l n := by
  unfold t14_putF t14_putB
  rw [if_neg (show ¬ (¬ Valid l ∨ mayF n = false) from fun h => h.elim (fun h => h hv) (fun h => by rw [hm] at h; cases h))]
/-! ### awake -/
theorem few14_val (l : List Nd) (n : Nat) (c : Int) (hc : c = n) (hn : n ≤ 4096) : ∃ b, P_ref14_Few (l, (c, ())) = some (b, ()) ∧ (b = true → l.length ≤ n ∧ SmL l) := by
  subst hc
  unfold P_ref14_Few
  rcases srchTo (f := P_ref14_Few_L0 (l, ((n : Int), ()))) l n (fun i => ((false, (i, ())), ())) (fun _ x => decide (200 < x.1.length) || decide (200 < x.2.2.2.2.1.length) || decide (1024 < x.2.2.2.1.length)) (fun i x => (1, ((false, ((i : Int), ())), ()))) (fun m => (0, ((false, ((m : Int), ())), ()))) (by omega) (fun i x hx hi hin ha => by
      unfold P_ref14_Few_L0
      dsimp only
      have l1 : ∀ {m : List UInt8}, ltI 200 (len m) = decide (200 < m.length) := fun {m} => by unfold ltI len; apply decide_eq_decide.2; omega
      have l2 : ∀ {m : List UInt8}, ltI 1024 (len m) = decide (1024 < m.length) := fun {m} => by unfold ltI len; apply decide_eq_decide.2; omega
      rw [ltI_len_true hi, sel_true, ltI_true (show (i : Int) < n by omega), sel_true, idx_some' hx, obind_some, obind_some, obind_some, l1, l1, l2, ha]
      cases decide (200 < x.1.length) <;> cases decide (200 < x.2.2.2.2.1.length) <;> cases decide (1024 < x.2.2.2.1.length) <;> rfl) (by
      unfold P_ref14_Few_L0
      dsimp only
      have : sel (ltI ((min n l.length : Nat) : Int) (len l)) (ltI ((min n l.length : Nat) : Int) (n : Int)) false = false := by
        by_cases h : l.length ≤ n
        · rw [Nat.min_eq_right h, ltI_len_end, sel_false]
        · rw [Nat.min_eq_left (by omega), ltI_false (Int.le_refl _)]
          cases ltI (n : Int) (len l) <;> rfl
      rw [this, sel_false]) with ⟨i, x, hi, hx, hp, _, h⟩ | ⟨hn2, h⟩
  · rw [h]; exact ⟨false, rfl, fun h => (by cases h)⟩
  · rw [h]
    refine ⟨_, rfl, fun hb => ?_⟩
    dsimp only at hb
    rw [leI_len] at hb
    have h8 := of_decide_eq_true hb
    refine ⟨h8, by omega, fun x hx => ?_⟩
    obtain ⟨i, hi⟩ := mem_at.1 hx
    have := hn2 i x (by have := getElem?_lt hi; omega) hi
    simp only [Bool.or_eq_false_iff, decide_eq_false_iff_not, Nat.not_lt] at this
    exact ⟨this.1.1, by omega, by omega⟩

end Go.Ge

/- The law TreeTells: a tree's text tells it: in plain words. -/
namespace Go.Ge
set_option linter.unusedVariables false
set_option linter.unusedSimpArgs false

set_option synthInstance.maxHeartbeats 200000 in
set_option synthInstance.maxSize 4000 in
instance decNd : DecidableEq Nd := inferInstance

end Go.Ge

/- What is put into a tree leaves a tree; the law TreeStays: in plain words. -/
namespace Go.Ge
set_option linter.unusedVariables false
set_option linter.unusedSimpArgs false

theorem insF_cons (a : Nd) (r : List Nd) (n : Nd) : insF (a :: r) n = if cmp a n.1 < 0 then a :: insF r n else n :: a :: r := by
  unfold insF
  by_cases h : cmp a n.1 < 0
  · rw [if_pos h, List.takeWhile_cons, List.dropWhile_cons]
    simp [h]
  · rw [if_neg h, List.takeWhile_cons, List.dropWhile_cons]
    simp [h]
theorem mem_insF {r : List Nd} {n x : Nd} : x ∈ insF r n ↔ x = n ∨ x ∈ r := by
  induction r with
  | nil => simp [insF]
  | cons a r ih =>
    rw [insF_cons]
    split
    · rw [List.mem_cons, ih, List.mem_cons]
      constructor
      · rintro (h | h | h)
        · exact .inr (.inl h)
        · exact .inl h
        · exact .inr (.inr h)
      · rintro (h | h | h)
        · exact .inr (.inl h)
        · exact .inl h
        · exact .inr (.inr h)
    · rw [List.mem_cons]
theorem insF_len (r : List Nd) (n : Nd) : (insF r n).length = r.length + 1 := by
  unfold insF
  rw [List.length_append, List.length_cons, ← Nat.add_assoc, ← List.length_append, List.takeWhile_append_dropWhile]

theorem ord_pairs {l : List Nd} : Ord l ↔ l.Pairwise fun x y => cmpL (key x) (key y) < 0 := by
  constructor
  · intro h
    rw [List.pairwise_iff_getElem]
    intro i j hi hj hij
    exact h i j _ _ hij (List.getElem?_eq_getElem hi) (List.getElem?_eq_getElem hj)
  · intro h i j x y hij hx hy
    rw [List.pairwise_iff_getElem] at h
    obtain ⟨h1, h2⟩ := List.getElem?_eq_some_iff.1 hx
    obtain ⟨h3, h4⟩ := List.getElem?_eq_some_iff.1 hy
    rw [← h2, ← h4]
    exact h i j h1 h3 hij

theorem insF_ord {r : List Nd} {n : Nd} (hr : Ord r) (hn : ∀ x ∈ r, x.1 ≠ n.1) : Ord (insF r n) := by
  rw [ord_pairs] at hr ⊢
  induction r with
  | nil => simp [insF]
  | cons a r ih =>
    rw [List.pairwise_cons] at hr
    rw [insF_cons]
    split
    · rename_i h
      refine List.pairwise_cons.2 ⟨fun y hy => ?_, ih hr.2 fun x hx => hn x (by simp [hx])⟩
      rcases mem_insF.1 hy with rfl | hy
      · exact h
      · exact hr.1 y hy
    · rename_i h
      have ha : cmpL (key n) (key a) < 0 := by
        have h1 : cmp a n.1 ≠ 0 := fun e => hn a (by simp) (cmp_zero e)
        have h2 : cmpL (key n) (key a) = - cmpL (key a) (key n) := cmpL_neg _ _
        have h3 : cmp a n.1 = cmpL (key a) (key n) := rfl
        omega
      refine List.pairwise_cons.2 ⟨fun y hy => ?_, List.pairwise_cons.2 hr⟩
      rcases List.mem_cons.1 hy with rfl | hy
      · exact ha
      · exact cmpL_trans ha (hr.1 y hy)

theorem under_up {x y : Nd} {p : List UInt8} (hu : (splitF x.1).1 ≠ []) (e : y.1 = (splitF x.1).1) (h : underL (parts y.1) (parts p) = true) : underL (parts x.1) (parts p) = true := by
  have hk := parent_key hu
  rw [← e] at hk
  unfold underL at h ⊢
  obtain ⟨h1, h2⟩ := of_decide_eq_true h
  refine decide_eq_true ⟨?_, ?_⟩
  · rw [hk, List.length_append]; omega
  · rw [hk, List.take_append_of_le_length (by omega), h2]
theorem under_self {x : Nd} (hu : (splitF x.1).1 ≠ []) : underL (parts x.1) (parts (splitF x.1).1) = true := by
  have hk := parent_key hu
  unfold underL
  refine decide_eq_true ⟨?_, ?_⟩
  · rw [hk, List.length_append]; simp
  · rw [hk]; simp

def PutRest (l : List Nd) (n : Nd) (r : List Nd) : Prop :=
  (((∃ x ∈ l, x.1 = n.1 ∧ x.2.1 = 2) ∧ n.2.1 = 2) ∧ r = l.filter (fun x => !decide (x.1 = n.1))) ∨ ((¬ ((∃ x ∈ l, x.1 = n.1 ∧ x.2.1 = 2) ∧ n.2.1 = 2)) ∧ r = restF l n.1)

theorem putF_cases (l : List Nd) (n : Nd) : ((t14_putF l n).1 = [] ∧ (t14_putF l n).2 ≠ 0) ∨
    (Valid l ∧ mayF n = true ∧ ((splitF n.1).1 = [] ∨ ∃ x ∈ l, x.1 = (splitF n.1).1 ∧ x.2.1 = 2) ∧ ∃ r, PutRest l n r ∧ r.length < 64 ∧ t14_putF l n = (insF r n, 0)) := by
  unfold t14_putF
  by_cases h1 : ¬ Valid l ∨ mayF n = false
  · rw [if_pos h1]; exact .inl ⟨rfl, by decide⟩
  · rw [if_neg h1]
    by_cases h2 : (splitF n.1).1 ≠ [] ∧ ∀ x ∈ l, x.1 ≠ (splitF n.1).1
    · rw [if_pos h2]; exact .inl ⟨rfl, by decide⟩
    · rw [if_neg h2]
      by_cases h3 : (splitF n.1).1 ≠ [] ∧ ∀ x ∈ l, x.1 = (splitF n.1).1 → x.2.1 ≠ 2
      · rw [if_pos h3]; exact .inl ⟨rfl, by decide⟩
      · rw [if_neg h3]
        have hv : Valid l := Classical.byContradiction fun h => h1 (.inl h)
        have hm : mayF n = true := by
          cases h : mayF n with
          | true => rfl
          | false => exact absurd (.inr h) h1
        have hu : (splitF n.1).1 = [] ∨ ∃ x ∈ l, x.1 = (splitF n.1).1 ∧ x.2.1 = 2 := by
          by_cases h0 : (splitF n.1).1 = []
          · exact .inl h0
          · right
            refine Classical.byContradiction fun h => h3 ⟨h0, fun x hx e h2 => h ⟨x, hx, e, h2⟩⟩
        by_cases h4 : (∃ x ∈ l, x.1 = n.1 ∧ x.2.1 = 2) ∧ n.2.1 = 2
        · simp only [if_pos h4]
          by_cases h5 : 64 ≤ (l.filter fun x => !decide (x.1 = n.1)).length
          · rw [if_pos h5]; exact .inl ⟨rfl, by decide⟩
          · rw [if_neg h5]
            exact .inr ⟨hv, hm, hu, _, .inl ⟨h4, rfl⟩, by omega, rfl⟩
        · simp only [if_neg h4]
          by_cases h5 : 64 ≤ (restF l n.1).length
          · rw [if_pos h5]; exact .inl ⟨rfl, by decide⟩
          · rw [if_neg h5]
            exact .inr ⟨hv, hm, hu, _, .inr ⟨h4, rfl⟩, by omega, rfl⟩

theorem PutRest.sub {l r : List Nd} {n : Nd} (h : PutRest l n r) : (∀ x ∈ r, x ∈ l ∧ x.1 ≠ n.1) ∧ ∃ P, r = l.filter P := by
  rcases h with ⟨_, rfl⟩ | ⟨_, rfl⟩
  · refine ⟨fun x hx => ?_, _, rfl⟩
    have := List.mem_filter.1 hx
    simpa using this
  · refine ⟨fun x hx => ?_, _, rfl⟩
    have := List.mem_filter.1 hx
    unfold gone at this
    simp at this
    exact ⟨this.1, this.2.1⟩

theorem put_valid {l r : List Nd} {n : Nd} (hv : Valid l) (hm : mayF n = true) (hu : (splitF n.1).1 = [] ∨ ∃ x ∈ l, x.1 = (splitF n.1).1 ∧ x.2.1 = 2) (hr : PutRest l n r) (h64 : r.length < 64) : Valid (insF r n) := by
  obtain ⟨hsub, P, hP⟩ := hr.sub
  have ho : Ord r := by rw [hP]; exact hv.ord.filter P
  refine ⟨by rw [insF_len]; omega, insF_ord ho fun x hx => (hsub x hx).2, fun x hx => ?_, fun x hx => ?_⟩
  · rcases mem_insF.1 hx with rfl | hx
    · exact hm
    · exact hv.may x (hsub x hx).1
  · rcases mem_insF.1 hx with rfl | hx
    · -- the node's own directory
      rcases hu with h | ⟨y, hy, hy1, hy2⟩
      · exact .inl h
      · by_cases h0 : (splitF x.1).1 = []
        · exact .inl h0
        · right
          refine ⟨y, mem_insF.2 (.inr ?_), hy1, hy2⟩
          have hself := under_self h0
          rw [← hy1] at hself
          have hlen : (parts y.1).length < (parts x.1).length := by
            unfold underL at hself
            exact (of_decide_eq_true hself).1
          have hne : y.1 ≠ x.1 := fun e => by rw [e] at hlen; omega
          have hnu : underL (parts y.1) (parts x.1) = false := by
            unfold underL
            exact decide_eq_false fun h => by omega
          rcases hr with ⟨_, rfl⟩ | ⟨_, rfl⟩
          · exact List.mem_filter.2 ⟨hy, by simp [hne]⟩
          · exact List.mem_filter.2 ⟨hy, by unfold gone; simp [hne, hnu]⟩
    · rcases hv.up x (hsub x hx).1 with h | ⟨y, hy, hy1, hy2⟩
      · exact .inl h
      · by_cases h0 : (splitF x.1).1 = []
        · exact .inl h0
        · right
          have hself := under_self h0
          by_cases e : y.1 = n.1
          · rcases hr with ⟨h4, rfl⟩ | ⟨_, rfl⟩
            · exact ⟨n, mem_insF.2 (.inl rfl), by rw [← e, hy1], h4.2⟩
            · have := (List.mem_filter.1 hx).2
              rw [← hy1, e] at hself
              unfold gone at this
              rw [hself] at this
              simp at this
          · refine ⟨y, mem_insF.2 (.inr ?_), hy1, hy2⟩
            rcases hr with ⟨_, rfl⟩ | ⟨_, rfl⟩
            · exact List.mem_filter.2 ⟨hy, by simp [e]⟩
            · refine List.mem_filter.2 ⟨hy, ?_⟩
              have hx2 := (List.mem_filter.1 hx).2
              unfold gone at hx2 ⊢
              cases hun : underL (parts y.1) (parts n.1) with
              | false => simp [e]
              | true =>
                rw [under_up h0 hy1 hun] at hx2
                simp at hx2

end Go.Ge

/- Diffs laid on trees: which paths and nodes an entry may name: in plain words. -/
namespace Go.Ge
set_option linter.unusedVariables false
set_option linter.unusedSimpArgs false

def NmOk (ns : List (List UInt8)) : Prop := ∀ x ∈ ns, 47 ∉ x ∧ x ≠ []
def dirM (m : Int) (p : List UInt8) : Nd := (p, ((2 : Int), (m, (([] : List UInt8), (([] : List UInt8), ())))))
def preP (ns : List (List UInt8)) (j : Nat) : List UInt8 := joinS (ns.take (j + 1))
def dirsOf (ns : List (List UInt8)) (k : Nat) : List Nd := (List.range k).map fun j => dirM 0 (preP ns j)

theorem dirsOf_succ (ns : List (List UInt8)) (k : Nat) : dirsOf ns (k + 1) = dirsOf ns k ++ [dirM 0 (preP ns k)] := by
  unfold dirsOf
  rw [List.range_succ, List.map_append]; rfl
theorem dirsOf_len (ns : List (List UInt8)) (k : Nat) : (dirsOf ns k).length = k := by unfold dirsOf; rw [List.length_map, List.length_range]
theorem joinP_take {ns : List (List UInt8)} (h : NmOk ns) {i : Nat} {x : List UInt8} (hx : ns[i]? = some x) : joinP (joinS (ns.take i)) x = preP ns i := by
  have ht : ns.take (i + 1) = ns.take i ++ [x] := by rw [List.take_add_one, hx]; rfl
  have := joinP_fold [x] (ns.take i) (fun y hy => by
    rw [← ht] at hy
    exact h y (List.mem_of_mem_take hy))
  unfold preP
  rw [ht]
  exact this

theorem joinS_take_len : ∀ (ns : List (List UInt8)) (k : Nat), (joinS (ns.take k)).length ≤ (joinS ns).length := by
  intro ns
  induction ns with
  | nil => intro k; simp
  | cons x r ih =>
    intro k
    cases k with
    | zero => simp [joinS]
    | succ k =>
      rw [List.take_succ_cons]
      cases r with
      | nil => simp
      | cons y r =>
        cases k with
        | zero => simp [joinS]
        | succ k =>
          have := ih (k + 1)
          rw [List.take_succ_cons] at this ⊢
          simp only [joinS, List.length_append, List.length_cons] at this ⊢
          omega
theorem joinS_mem_len : ∀ (ns : List (List UInt8)) (x : List UInt8), x ∈ ns → x.length ≤ (joinS ns).length := by
  intro ns
  induction ns with
  | nil => intro x hx; cases hx
  | cons a r ih =>
    intro x hx
    cases r with
    | nil =>
      rw [List.mem_singleton] at hx
      subst hx; simp [joinS]
    | cons b r =>
      simp only [joinS, List.length_append, List.length_cons]
      rcases List.mem_cons.1 hx with rfl | hx
      · omega
      · have := ih x hx
        omega

def ShN (ns : List (List UInt8)) : Prop := NmOk ns ∧ ns.length ≤ 16 ∧ (joinS ns).length ≤ 200
theorem ShN.pre_len {ns : List (List UInt8)} (h : ShN ns) (k : Nat) : (joinS (ns.take k)).length ≤ 200 := Nat.le_trans (joinS_take_len ns k) h.2.2
theorem ShN.mem_len {ns : List (List UInt8)} (h : ShN ns) {x : List UInt8} (hx : x ∈ ns) : x.length ≤ 200 := Nat.le_trans (joinS_mem_len ns x hx) h.2.2
theorem ShN.take {ns : List (List UInt8)} (h : ShN ns) (k : Nat) : ShN (ns.take k) := ⟨fun x hx => h.1 x (List.mem_of_mem_take hx), by rw [List.length_take]; have := h.2.1; omega, h.pre_len k⟩

theorem isNode_loop (ns : List (List UInt8)) (h : ShN ns) : Loop (P_overlay_isNode_L0 (ns, ())) (((), (([] : List UInt8), ((0 : Int), ()))), (([] : List Nd), ())) =
    some (((), (joinS ns, ((ns.length : Int), ()))), (dirsOf ns ns.length, ())) := by
  obtain ⟨t, ht, h1, _⟩ := fold_loop (f := P_overlay_isNode_L0 (ns, ())) ns (fun (s : List UInt8 × List Nd) i => (((), (s.1, (i, ()))), (s.2, ()))) (fun s i x => (joinP s.1 x, s.2 ++ [dirM 0 (joinP s.1 x)])) (fun s => (((), (s.1, ((ns.length : Int), ()))), (s.2, ())))
    (fun s i => s.1 = joinS (ns.take i) ∧ s.2 = dirsOf ns i) (by have := h.2.1; omega) (fun s i x hx hi hadd hI => by
      have hxl := h.mem_len (List.mem_of_getElem? hx)
      have hpl := h.pre_len i
      have hlen := dirsOf_len ns i
      have h16 := h.2.1
      constructor
      · unfold P_overlay_isNode_L0
        dsimp only
        rw [ltI_len_true hi, sel_true, idx_some' hx, obind_some, pjoin_val _ _ (by rw [hI.1]; omega) (by omega), obind_some, fits_len2 (by rw [hI.2, hlen]; simp only [List.length_cons, List.length_nil]; omega), sel_true, hadd]
        rfl
      · dsimp only
        rw [hI.1, hI.2, joinP_take h.1 hx, dirsOf_succ]
        exact ⟨rfl, rfl⟩) (fun s _ => by
      unfold P_overlay_isNode_L0
      dsimp only
      rw [ltI_len_end, sel_false]
      rfl) ([], []) ⟨by simp [joinS], rfl⟩
  rw [h1, ht.1, ht.2, List.take_length]

def preB (ns : List (List UInt8)) (k : Nat) : Bool := (List.range k).all fun j => mayF (dirM 0 (preP ns j))

theorem preP_split {ns : List (List UInt8)} (h : NmOk ns) {j : Nat} (hj : j < ns.length) : (splitF (preP ns j)).1 = joinS (ns.take j) := by
  have hne : ns.take (j + 1) ≠ [] := by
    intro e
    have := congrArg List.length e
    rw [List.length_take, List.length_nil] at this
    omega
  unfold preP
  rw [splitF_join (fun x hx => h x (List.mem_of_mem_take hx)) hne]
  dsimp only
  rw [List.dropLast_eq_take, List.length_take, List.take_take]
  congr 2
  omega
theorem preP_parts {ns : List (List UInt8)} (h : NmOk ns) (j : Nat) : parts (preP ns j) = ns.take (j + 1) := parts_joinS _ fun x hx => h x (List.mem_of_mem_take hx)
theorem joinS_nil {ns : List (List UInt8)} (h : NmOk ns) : joinS ns = [] ↔ ns = [] := by
  constructor
  · intro e
    have := parts_joinS ns h
    rw [e] at this
    exact this.symm
  · rintro rfl; rfl

theorem valid_node {ns : List (List UInt8)} (h : ShN ns) (hne : ns ≠ []) {n : Nd} (hn : n.1 = joinS ns) :
    Valid (dirsOf ns (ns.length - 1) ++ [n]) ↔ (preB ns (ns.length - 1) = true ∧ mayF n = true) := by
  have hk : 0 < ns.length := List.length_pos_iff.2 hne
  have hat : ∀ (j : Nat) (x : Nd), (dirsOf ns (ns.length - 1) ++ [n])[j]? = some x → x.1 = preP ns j ∧ j < ns.length ∧ (j < ns.length - 1 → x = dirM 0 (preP ns j)) := by
    intro j x hx
    rw [List.getElem?_append, dirsOf_len] at hx
    by_cases hj : j < ns.length - 1
    · rw [if_pos hj] at hx
      unfold dirsOf at hx
      rw [List.getElem?_map, List.getElem?_range hj] at hx
      obtain rfl := Option.some.inj hx
      exact ⟨rfl, by omega, fun _ => rfl⟩
    · rw [if_neg hj] at hx
      have : j - (ns.length - 1) = 0 := by
        have := getElem?_lt hx
        simp at this
        omega
      rw [this] at hx
      obtain rfl := Option.some.inj hx
      have hjl : j = ns.length - 1 := by omega
      refine ⟨?_, by omega, fun h => absurd h hj⟩
      rw [hn]
      unfold preP
      rw [hjl, List.take_of_length_le (by omega)]
  constructor
  · intro hv
    refine ⟨?_, hv.may n (by simp)⟩
    unfold preB
    rw [List.all_eq_true]
    intro j hj
    rw [List.mem_range] at hj
    refine hv.may _ (List.mem_append_left _ ?_)
    unfold dirsOf
    exact List.mem_map.2 ⟨j, List.mem_range.2 hj, rfl⟩
  · rintro ⟨h1, h2⟩
    unfold preB at h1
    rw [List.all_eq_true] at h1
    refine ⟨?_, ?_, ?_, ?_⟩
    · rw [List.length_append, dirsOf_len]
      have := h.2.1
      simp; omega
    · intro i j x y hij hx hy
      obtain ⟨x1, x2, _⟩ := hat i x hx
      obtain ⟨y1, y2, _⟩ := hat j y hy
      unfold key
      rw [x1, y1, preP_parts h.1, preP_parts h.1]
      have e : ns.take (j + 1) = ns.take (i + 1) ++ (ns.take (j + 1)).drop (i + 1) := by
        have := (List.take_append_drop (i + 1) (ns.take (j + 1))).symm
        rwa [List.take_take, Nat.min_eq_left (by omega)] at this
      rw [e, cmpL_app]
      · decide
      · intro e2
        have := congrArg List.length e2
        rw [List.length_drop, List.length_take] at this
        simp at this
        omega
    · intro x hx
      rcases List.mem_append.1 hx with hx | hx
      · obtain ⟨j, hj, rfl⟩ := List.mem_map.1 hx
        exact h1 j hj
      · rw [List.mem_singleton] at hx
        subst hx; exact h2
    · intro x hx
      obtain ⟨j, hj⟩ := mem_at.1 hx
      obtain ⟨x1, x2, _⟩ := hat j x hj
      rw [x1, preP_split h.1 x2]
      cases j with
      | zero => left; rfl
      | succ j =>
        right
        refine ⟨dirM 0 (preP ns j), List.mem_append_left _ ?_, rfl, rfl⟩
        unfold dirsOf
        exact List.mem_map.2 ⟨j, List.mem_range.2 (by omega), rfl⟩

theorem isNode_val {ns : List (List UInt8)} (h : ShN ns) (hne : ns ≠ []) {n : Nd} (hn : n.1 = joinS ns) (hs : Sm n) :
    P_overlay_isNode (n, ()) = some (preB ns (ns.length - 1) && mayF n, ()) := by
  have hk : 0 < ns.length := List.length_pos_iff.2 hne
  have hsp : splitF n.1 = (joinS ns.dropLast, ns.getLast hne) := by rw [hn]; exact splitF_join h.1 hne
  have hpl := h.pre_len (ns.length - 1)
  have hdl : ns.dropLast = ns.take (ns.length - 1) := List.dropLast_eq_take
  have hsh : ShN (ns.take (ns.length - 1)) := h.take _
  have hpp : parts (joinS (ns.take (ns.length - 1))) = ns.take (ns.length - 1) := parts_joinS _ hsh.1
  have hdo : dirsOf (ns.take (ns.length - 1)) (ns.take (ns.length - 1)).length = dirsOf ns (ns.length - 1) := by
    rw [List.length_take, Nat.min_eq_left (by omega)]
    unfold dirsOf
    apply List.map_congr_left
    intro j hj
    rw [List.mem_range] at hj
    unfold preP
    rw [List.take_take, Nat.min_eq_left (by omega)]
  unfold P_overlay_isNode
  dsimp only
  rw [psplit_val n.1 (by have := hs.1; omega), obind_some, hsp]
  dsimp only
  rw [hdl, parts_val _ (by omega), obind_some, hpp, isNode_loop _ hsh, obind_some, hdo]
  dsimp only
  have hnn : n.1 ≠ [] := by rw [hn]; exact fun e => hne ((joinS_nil h.1).1 e)
  rw [eqS_false hnn, nt_false, sel_true, fits_len2 (by rw [dirsOf_len]; have := h.2.1; simp only [List.length_cons, List.length_nil]; omega), sel_true]
  have hsm : SmL (dirsOf ns (ns.length - 1) ++ [n]) := ⟨by rw [List.length_append, dirsOf_len]; have := h.2.1; simp; omega, fun x hx => by
    rcases List.mem_append.1 hx with hx | hx
    · obtain ⟨j, hj, rfl⟩ := List.mem_map.1 hx
      rw [List.mem_range] at hj
      exact ⟨h.pre_len (j + 1), by simp [dirM], by simp [dirM]⟩
    · rw [List.mem_singleton] at hx
      subst hx; exact hs⟩
  obtain ⟨e, c1, c2⟩ := check_val' _ hsm
  rw [app_eq, c1, obind_some]
  dsimp only
  have hv := valid_node h hne hn
  rw [show eqI e 0 = (preB ns (ns.length - 1) && mayF n) by
    rw [Bool.eq_iff_iff, Bool.and_eq_true, ← hv, ← c2]
    unfold eqI
    simp]

theorem may_dir {n : Nd} (h : mayF n = true) : mayF (dirM 0 n.1) = true := by
  unfold mayF at h ⊢
  simp only [Bool.and_eq_true] at h ⊢
  exact ⟨⟨⟨h.1.1.1, by simp [dirM]⟩, by simp [dirM]⟩, by simp [kindF, dirM]⟩

theorem refIsPath_val {ns : List (List UInt8)} (h : ShN ns) : P_ref15_isPath (joinS ns, ()) = some (preB ns ns.length && decide (ns ≠ []), ()) := by
  have hpp : parts (joinS ns) = ns := parts_joinS _ h.1
  have hpl := h.pre_len ns.length
  rw [List.take_length] at hpl
  unfold P_ref15_isPath
  dsimp only
  rw [refParts_val _ (by omega), obind_some, hpp]
  have key : ∀ (d k : Nat), k + d = ns.length → (∀ j, j < k → mayF (dirM 0 (preP ns j)) = true) →
      ∃ r, Loop (P_ref15_isPath_L0 (ns, ())) ((false, (joinS (ns.take k), ((k : Int), ()))), ()) = some r ∧ ((r.1 = 0 ∧ preB ns ns.length = true) ∨ (r.1 = 1 ∧ r.2.1.1 = false ∧ preB ns ns.length = false)) := by
    intro d
    induction d with
    | zero =>
      intro k hk hall
      obtain rfl : k = ns.length := by omega
      refine ⟨(0, ((false, (joinS (ns.take ns.length), ((ns.length : Int), ()))), ())), ?_, .inl ⟨rfl, ?_⟩⟩
      · rw [Loop_eq]
        unfold P_ref15_isPath_L0
        dsimp only
        rw [ltI_len_end, sel_false]; rfl
      · unfold preB
        rw [List.all_eq_true]
        exact fun j hj => hall j (List.mem_range.1 hj)
    | succ d ih =>
      intro k hk hall
      have hx : ns[k]? = some ns[k] := List.getElem?_eq_getElem (by omega)
      have hxl := h.mem_len (List.getElem_mem (show k < ns.length by omega))
      have hpk := h.pre_len k
      have hpk1 := h.pre_len (k + 1)
      have h16 := h.2.1
      have step : P_ref15_isPath_L0 (ns, ()) ((false, (joinS (ns.take k), ((k : Int), ()))), ()) = some (if mayF (dirM 0 (preP ns k)) = true then .inl ((false, (preP ns k, (((k + 1 : Nat) : Int), ()))), ()) else .inr (1, ((false, (preP ns k, ((k : Int), ()))), ()))) := by
        unfold P_ref15_isPath_L0
        dsimp only
        have hm := t14_may_val (dirM 0 (preP ns k)) (by show (preP ns k).length ≤ 4096; unfold preP; omega) (by simp [dirM])
        unfold dirM at hm
        rw [ltI_len_true (show k < ns.length by omega), sel_true, idx_some' hx, obind_some, refpjoin_val _ _ (by omega) (by omega), obind_some, joinP_take h.1 hx, hm, obind_some, iadd_one (by omega)]
        unfold dirM
        cases mayF (preP ns k, ((2 : Int), ((0 : Int), (([] : List UInt8), (([] : List UInt8), ()))))) <;> rfl
      by_cases hm : mayF (dirM 0 (preP ns k)) = true
      · rw [if_pos hm] at step
        obtain ⟨r, r1, r2⟩ := ih (k + 1) (by omega) (fun j hj => by
          by_cases hjk : j = k
          · rw [hjk]; exact hm
          · exact hall j (by omega))
        exact ⟨r, by rw [Loop_eq, step]; exact r1, r2⟩
      · rw [if_neg hm] at step
        refine ⟨_, by rw [Loop_eq, step]; rfl, .inr ⟨rfl, rfl, ?_⟩⟩
        unfold preB
        rw [List.all_eq_false]
        exact ⟨k, List.mem_range.2 (by omega), hm⟩
  obtain ⟨r, r1, r2⟩ := key ns.length 0 (by omega) (fun j hj => by omega)
  have r1' : Loop (P_ref15_isPath_L0 (ns, ())) ((false, (([] : List UInt8), ((0 : Int), ()))), ()) = some r := by
    have : joinS (ns.take 0) = [] := by simp [joinS]
    rw [this] at r1
    exact r1
  rw [r1', obind_some]
  rcases r2 with ⟨a1, a2⟩ | ⟨a1, a2, a3⟩
  · rw [a1, show eqN 0 0 = true from rfl, sel_true, a2, Bool.true_and]
    congr 2
    unfold nt eqS
    rw [Bool.eq_iff_iff]
    have := joinS_nil h.1
    simp [this]
  · rw [a1, show eqN 1 0 = false from rfl, sel_false, a2, a3]; rfl
end Go.Ge

/- The reference's headers that may be; what a block is summed up to. -/
namespace Go.Ge
set_option linter.unusedVariables false
set_option linter.unusedSimpArgs false

/-! ### Sums -/
def sumAt (b : List UInt8) (k : Nat) : Nat := if 148 ≤ k ∧ k < 156 then 32 else (b.getD k 0).toNat
def sumTo (b : List UInt8) : Nat → Nat
  | 0 => 0
  | k + 1 => sumTo b k + sumAt b k
end Go.Ge

/- A header's block, field by field. -/
namespace Go.Ge
set_option linter.unusedVariables false
set_option linter.unusedSimpArgs false

def nul (n : Nat) : List UInt8 := List.replicate n 0
theorem length_nul (n : Nat) : (nul n).length = n := List.length_replicate
def magic : List UInt8 := [117, 115, 116, 97, 114, 0, 48, 48]

theorem flat_split (fs : List (List UInt8)) (k : Nat) (hk : k < fs.length) : fs.flatten = (fs.take k).flatten ++ (fs[k] ++ (fs.drop (k + 1)).flatten) := by
  conv => lhs; rw [← List.take_append_drop k fs, List.drop_eq_getElem_cons hk]
  rw [List.flatten_append, List.flatten_cons]
theorem flat_set (fs : List (List UInt8)) (k : Nat) (hk : k < fs.length) (x : List UInt8) : (fs.set k x).flatten = (fs.take k).flatten ++ (x ++ (fs.drop (k + 1)).flatten) := by
  rw [List.set_eq_take_append_cons_drop, if_pos hk, List.flatten_append, List.flatten_cons]

theorem over_mid (A z R s : List UInt8) (off : Nat) (hA : A.length = off) (hs : s.length ≤ z.length) : over (bytesInts (A ++ (z ++ R))) (off : Int) (bytesInts s) = bytesInts (A ++ ((s ++ z.drop s.length) ++ R)) := by
  unfold over
  rw [Int.toNat_natCast, length_bytes]
  have h1 : (bytesInts (A ++ (z ++ R))).take off = bytesInts A := by rw [bytesInts_take, List.take_left' hA]
  have h2 : (bytesInts (A ++ (z ++ R))).drop (off + s.length) = bytesInts (z.drop s.length ++ R) := by
    have : (A ++ (z ++ R)).drop (off + s.length) = z.drop s.length ++ R := by
      rw [← hA, ← List.drop_drop, List.drop_left, List.drop_append_of_le_length hs]
    rw [← this]
    simp [bytesInts, List.map_drop]
  rw [h1, h2, ← bytesInts_app, ← bytesInts_app, List.append_assoc, List.append_assoc]

theorem ov (fs : List (List UInt8)) (k : Nat) (hk : k < fs.length) (s : List UInt8) (n l off : Nat) (hz : fs[k] = nul n) (hl : s.length = l) (hln : l ≤ n) (ho : (fs.take k).flatten.length = off) (h5 : off + l ≤ 512) :
    over (bytesInts fs.flatten) (off : Int) (ltake (bytesInts s) (minus 512 (off : Int))) = bytesInts (fs.set k (s ++ nul (n - l))).flatten := by
  have e : ltake (bytesInts s) (minus 512 (off : Int)) = bytesInts s := by
    unfold ltake minus
    rw [List.take_of_length_le]
    rw [length_bytes]; omega
  rw [e, flat_split fs k hk, over_mid _ _ _ _ off ho (by rw [hz, length_nul]; omega), flat_set fs k hk, hz, hl]
  simp [nul]

def fldsOf (h : Hd) (m u g z t : Nat) (kd : UInt8) (sm : List UInt8) : List (List UInt8) := [h.1 ++ nul (100 - h.1.length), octF m 7 ++ nul 1, octF u 7 ++ nul 1, octF g 7 ++ nul 1, octF z 11 ++ nul 1, octF t 11 ++ nul 1, sm, [kd] ++ nul 0, h.2.2.2.2.2.2.2.1 ++ nul (100 - h.2.2.2.2.2.2.2.1.length), magic ++ nul 0, nul 80, nul 155, nul 12]

end Go.Ge

/- What a header is put as. -/
namespace Go.Ge
set_option linter.unusedVariables false
set_option linter.unusedSimpArgs false

def hfields : List (Int × Int × Unit) := [(0, (100, ())), (100, (8, ())), (108, (8, ())), (116, (8, ())), (124, (12, ())), (136, (12, ())), (148, (8, ())), (156, (1, ())), (157, (100, ())), (257, (8, ())), (345, (155, ()))]
theorem fields_val : P_header_fields () = some (hfields, ()) := rfl
structure Fits (h : Hd) (m u g z t : Nat) (kd : UInt8) : Prop where
  path : h.1.length ≤ 100
  link : h.2.2.2.2.2.2.2.1.length ≤ 100
  m : h.2.2.1 = (m : Int) ∧ m < 2097152
  u : h.2.2.2.1 = (u : Int) ∧ u < 2097152
  g : h.2.2.2.2.1 = (g : Int) ∧ g < 2097152
  z : h.2.2.2.2.2.1 = (z : Int) ∧ z < 8589934592
  t : h.2.2.2.2.2.2.1 = (t : Int) ∧ t < 8589934592
  kind : (h.2.1 = 1 ∧ kd = 48) ∨ (h.2.1 = 2 ∧ kd = 53) ∨ (h.2.1 = 3 ∧ kd = 50)

def putF (h : Hd) (m u g z t : Nat) (kd : UInt8) : List UInt8 := (fldsOf h m u g z t kd (octF (sumTo (fldsOf h m u g z t kd (nul 8)).flatten 512) 6 ++ [0, 32])).flatten

end Go.Ge

/- What a block is taken as: of any block; of one that was put. -/
namespace Go.Ge
set_option linter.unusedVariables false
set_option linter.unusedSimpArgs false

/-! ### Any block -/
def fld (b : List UInt8) (a n : Nat) : List UInt8 := (b.drop a).take n
theorem of_val12 (b : List UInt8) (hb : b.length = 512) (k : Int) (a n : Nat) (hk : idx hfields k = some ((a : Int), ((n : Int), ()))) (h : a + n ≤ 512) : P_header_of (b, (k, ())) = some (fld b a n, ()) := by
  unfold P_header_of
  rw [fields_val, obind_some]
  dsimp only
  rw [hk, obind_some]
  dsimp only
  rw [show iadd .i64 (a : Int) (n : Int) = ((a + n : Nat) : Int) from iadd_nat (by omega), inside_true (by omega) (by omega) (by simp only [len]; omega), sel_true]
  unfold sub minus fld
  rw [Int.toNat_natCast, show (((a + n : Nat) : Int) - (a : Int)).toNat = n by omega]

section
variable (b : List UInt8)
theorem o0 (hb : b.length = 512) : P_header_of (b, (0, ())) = some (fld b 0 100, ()) := of_val12 b hb 0 0 100 rfl (by omega)
theorem o1 (hb : b.length = 512) : P_header_of (b, (1, ())) = some (fld b 100 8, ()) := of_val12 b hb 1 100 8 rfl (by omega)
theorem o2 (hb : b.length = 512) : P_header_of (b, (2, ())) = some (fld b 108 8, ()) := of_val12 b hb 2 108 8 rfl (by omega)
theorem o3 (hb : b.length = 512) : P_header_of (b, (3, ())) = some (fld b 116 8, ()) := of_val12 b hb 3 116 8 rfl (by omega)
theorem o4 (hb : b.length = 512) : P_header_of (b, (4, ())) = some (fld b 124 12, ()) := of_val12 b hb 4 124 12 rfl (by omega)
theorem o5 (hb : b.length = 512) : P_header_of (b, (5, ())) = some (fld b 136 12, ()) := of_val12 b hb 5 136 12 rfl (by omega)
end

def noHd : Hd := ([], (0, (0, (0, (0, (0, (0, ([], ()))))))))

end Go.Ge

/- What is put is taken as it was; the laws of layer 12. -/
namespace Go.Ge
set_option linter.unusedVariables false
set_option linter.unusedSimpArgs false

section
variable {h : Hd} {m u g z t : Nat} {kd : UInt8}
theorem nul_all (n : Nat) : ∀ x ∈ nul n, x = 0 := fun x hx => List.eq_of_mem_replicate hx

end
end Go.Ge

/- The laws of layer 12 in plain words. -/
namespace Go.Ge
set_option linter.unusedVariables false
set_option linter.unusedSimpArgs false

def hA : Hd := ([100, 47], (2, (493, (0, (0, (0, (1, ([], ()))))))))
def hC : Hd := ([100], (2, (0, (0, (0, (1, (0, ([], ()))))))))
/-! ### A byte changed -/
end Go.Ge

/- Entries, one behind the other, in plain words: what is written. -/
namespace Go.Ge
set_option linter.unusedVariables false
set_option linter.unusedSimpArgs false

abbrev Pt := Hd × List UInt8 × Unit
def hsize (h : Hd) : Int := h.2.2.2.2.2.1
def kdOf (h : Hd) : UInt8 := if h.2.1 = 1 then 48 else if h.2.1 = 2 then 53 else 50
def putB (h : Hd) : List UInt8 := putF h h.2.2.1.toNat h.2.2.2.1.toNat h.2.2.2.2.1.toNat h.2.2.2.2.2.1.toNat h.2.2.2.2.2.2.1.toNat (kdOf h)

def okPt (p : Pt) : Prop := okHd p.1 100 ∧ hsize p.1 = (p.2.1.length : Int)
instance (p : Pt) : Decidable (okPt p) := inferInstanceAs (Decidable (_ ∧ _))
def fillN (n : Nat) : Nat := (512 - n % 512) % 512
def body (p : Pt) : List UInt8 := putB p.1 ++ p.2.1 ++ nul (fillN p.2.1.length)
structure FewP (l : List Pt) (n : Nat) : Prop where
  many : l.length ≤ n
  path : ∀ p ∈ l, p.1.1.length ≤ 300
  link : ∀ p ∈ l, p.1.2.2.2.2.2.2.2.1.length ≤ 300
  data : ∀ p ∈ l, p.2.1.length ≤ 8192

theorem few_val (l : List Pt) (n : Nat) (hn : n ≤ 1000) : ∃ b, P_ref13_Few (l, ((n : Int), ())) = some (b, ()) ∧ (b = true → FewP l n) := by
  unfold P_ref13_Few
  dsimp only
  have run : ∀ (m i : Nat), n - i ≤ m → i ≤ n → i ≤ l.length → (∀ p ∈ l.take i, p.1.1.length ≤ 300 ∧ p.1.2.2.2.2.2.2.2.1.length ≤ 300 ∧ p.2.1.length ≤ 8192) →
      ∃ q, Loop (P_ref13_Few_L0 (l, ((n : Int), ()))) ((false, ((i : Int), ())), ()) = some q ∧ (if q.1 = 0 then ∀ p ∈ l.take n, p.1.1.length ≤ 300 ∧ p.1.2.2.2.2.2.2.2.1.length ≤ 300 ∧ p.2.1.length ≤ 8192 else q.1 = 1 ∧ q.2.1.1 = false) := by
    intro m
    induction m with
    | zero =>
      intro i hm hi hl hp
      obtain rfl : i = n := by omega
      refine ⟨(0, ((false, ((i : Int), ())), ())), ?_, by rw [if_pos rfl]; exact hp⟩
      rw [Loop_eq]
      have : P_ref13_Few_L0 (l, ((i : Int), ())) ((false, ((i : Int), ())), ()) = some (.inr (0, ((false, ((i : Int), ())), ()))) := by
        unfold P_ref13_Few_L0
        dsimp only
        rw [ltI_false (Int.le_refl _)]
        cases ltI (i : Int) (len l) <;> rfl
      rw [this]; rfl
    | succ m ih =>
      intro i hm hi hl hp
      by_cases h : i < n ∧ i < l.length
      · obtain ⟨p, hpp⟩ : ∃ p, l[i]? = some p := ⟨_, List.getElem?_eq_getElem h.2⟩
        rw [Loop_eq]
        have st : P_ref13_Few_L0 (l, ((n : Int), ())) ((false, ((i : Int), ())), ()) = if p.1.1.length ≤ 300 ∧ p.1.2.2.2.2.2.2.2.1.length ≤ 300 ∧ p.2.1.length ≤ 8192 then some (.inl ((false, (((i + 1 : Nat) : Int), ())), ())) else some (.inr (1, ((false, ((i : Int), ())), ()))) := by
          unfold P_ref13_Few_L0
          dsimp only
          rw [ltI_len_true h.2, ltI_true (by omega), sel_true, sel_true, idx_some' hpp, obind_some, obind_some, obind_some, iadd_one (by omega)]
          by_cases a : p.1.1.length ≤ 300
          · by_cases b : p.1.2.2.2.2.2.2.2.1.length ≤ 300
            · by_cases c : p.2.1.length ≤ 8192
              · rw [ltI_false (by rw [len_eq]; omega), ltI_false (by rw [len_eq]; omega), ltI_false (by rw [len_eq]; omega), if_pos ⟨a, b, c⟩]; rfl
              · rw [ltI_false (by rw [len_eq]; omega), ltI_false (by rw [len_eq]; omega), ltI_true (by rw [len_eq]; omega), if_neg (fun q => c q.2.2)]; rfl
            · rw [ltI_false (by rw [len_eq]; omega), ltI_true (by rw [len_eq]; omega), if_neg (fun q => b q.2.1)]; rfl
          · rw [ltI_true (by rw [len_eq]; omega), if_neg (fun q => a q.1)]; rfl
        rw [st]
        by_cases ok : p.1.1.length ≤ 300 ∧ p.1.2.2.2.2.2.2.2.1.length ≤ 300 ∧ p.2.1.length ≤ 8192
        · rw [if_pos ok]
          refine ih (i + 1) (by omega) (by omega) (by omega) fun q hq => ?_
          rw [List.take_add_one, hpp] at hq
          rcases List.mem_append.1 hq with hq | hq
          · exact hp q hq
          · simp only [Option.toList_some, List.mem_cons, List.not_mem_nil, or_false] at hq; rw [hq]; exact ok
        · rw [if_neg ok]
          exact ⟨_, rfl, by rw [if_neg (by simp)]; exact ⟨rfl, rfl⟩⟩
      · refine ⟨(0, ((false, ((i : Int), ())), ())), ?_, ?_⟩
        · rw [Loop_eq]
          have : P_ref13_Few_L0 (l, ((n : Int), ())) ((false, ((i : Int), ())), ()) = some (.inr (0, ((false, ((i : Int), ())), ()))) := by
            unfold P_ref13_Few_L0
            dsimp only
            by_cases hi' : i < l.length
            · rw [ltI_len_true hi', ltI_false (by omega), sel_true, sel_false]
            · rw [ltI_len, decide_eq_false hi', sel_false, sel_false]
          rw [this]; rfl
        · rw [if_pos rfl]
          by_cases hi' : i < n
          · have e : l.take n = l.take i := by rw [List.take_of_length_le (by omega), List.take_of_length_le (by omega)]
            rw [e]; exact hp
          · obtain rfl : i = n := by omega
            exact hp
  obtain ⟨q, h1, h2⟩ := run n 0 (by omega) (by omega) (by omega) (by simp)
  rw [show Loop (P_ref13_Few_L0 (l, ((n : Int), ()))) ((false, ((0 : Int), ())), ()) = some q from h1, obind_some]
  by_cases h : q.1 = 0
  · rw [if_pos h] at h2
    rw [h, eqN_zero, sel_true]
    refine ⟨_, rfl, fun e => ?_⟩
    have hl : l.length ≤ n := by
      rw [leI_len] at e
      simpa using e
    rw [List.take_of_length_le hl] at h2
    exact ⟨hl, fun p hp => (h2 p hp).1, fun p hp => (h2 p hp).2.1, fun p hp => (h2 p hp).2.2⟩
  · rw [if_neg h] at h2
    rw [h2.1, eqN_one, sel_false, h2.2]
    exact ⟨false, rfl, fun e => by cases e⟩

end Go.Ge

/- Entries, one behind the other, in plain words: what is read; the laws. -/
namespace Go.Ge
set_option linter.unusedVariables false
set_option linter.unusedSimpArgs false

abbrev Rd := Bool × List UInt8 × Int × Bool × Bool × Unit
def zeroPt : Pt := (noHd, ([], ()))
def rd (r : List UInt8) (n : Int) : Rd := (true, (r, (n, (false, (false, ())))))
def rdEnd (n : Int) (b : Bool) : Rd := (true, ([], (n, (true, (b, ())))))

theorem ends_val (r : List UInt8) (n : Int) (b : Bool) : P_tar_Reader_ends ((b, ()), (rd r n, ())) = some ((zeroPt, (false, ())), (rdEnd n b, ())) := rfl

theorem next_zero (r : List UInt8) (n : Int) (h : 512 ≤ r.length) (hl : r.length ≤ 1048576) (hz : ∀ x ∈ r.take 512, x = 0) :
    P_tar_Reader_Next ((), (rd r n, ())) = some ((zeroPt, (false, ())), (rdEnd n (!decide (1024 ≤ r.length ∧ r.length % 512 = 0 ∧ ∀ x ∈ r, x = 0)), ())) := by
  have e := fun b => ends_val r n b
  unfold P_tar_Reader_Next
  dsimp only [rd] at e ⊢
  have ht : (r.take 512).length = 512 := by rw [List.length_take]; omega
  rw [nt_true, nt_false, sel_true, sel_false, ltI_false (by rw [len_eq]; omega), sel_false, inside_true (by decide) (by decide) (by rw [len_eq]; omega), sel_true, show sub r 0 (minus 512 0) = r.take 512 from sub_take r 512, zero_val _ (by omega), decide_eq_true ⟨ht, hz⟩, obind_some, sel_true]
  rw [show eqI 512 0 = false from rfl, sel_false, show irem (len r) 512 = ((r.length % 512 : Nat) : Int) from rfl, show leI 1024 (len r) = decide (1024 ≤ r.length) from by unfold leI len; apply decide_eq_decide.2; omega, show eqI ((r.length % 512 : Nat) : Int) 0 = decide (r.length % 512 = 0) from by unfold eqI; apply decide_eq_decide.2; omega, trim_nul r hl]
  have hb : decide ((rtrim isNul r).dropWhile isNul = []) = decide (∀ x ∈ r, x = 0) := decide_eq_decide.2 (trim_empty r)
  by_cases a : 1024 ≤ r.length
  · by_cases b : r.length % 512 = 0
    · by_cases c : ∀ x ∈ r, x = 0
      · have c' := (trim_empty r).2 c
        rw [decide_eq_true a, sel_true, decide_eq_true b, obind_some, nt_true, nt_false, sel_true, obind_some, obind_some]
        dsimp only
        rw [eqS_true c', nt_true, e, obind_some, decide_eq_true ⟨a, b, c⟩]
        rfl
      · have c' : ¬ (rtrim isNul r).dropWhile isNul = [] := fun q => c ((trim_empty r).1 q)
        rw [decide_eq_true a, sel_true, decide_eq_true b, obind_some, nt_true, nt_false, sel_true, obind_some, obind_some]
        dsimp only
        rw [eqS_false c', nt_false, e, obind_some, decide_eq_false (fun q => c q.2.2)]
        rfl
    · rw [decide_eq_true a, sel_true, decide_eq_false b, obind_some, nt_false, nt_true, sel_false, obind_some, e, obind_some, decide_eq_false (fun q => b q.2.1)]
      rfl
  · rw [decide_eq_false a, sel_false, obind_some, nt_false, nt_true, sel_false, obind_some, e, obind_some, decide_eq_false (fun q => a q.1)]
    rfl

theorem step_last (p : Pt) (out : List Pt) (st : Rd) : P_tar_Read_L0 (((), ((), (false, ()))), (p, (out, (st, ())))) = some (.inr (((), ((), (false, ()))), (p, (out, (st, ()))))) := rfl

/-! ### awake -/
end Go.Ge

/- Diffs laid on trees: what an entry does: in plain words. -/
namespace Go.Ge
set_option linter.unusedVariables false
set_option linter.unusedSimpArgs false

def pathB (ns : List (List UInt8)) : Bool := preB ns ns.length && decide (ns ≠ [])
theorem pre_all {ns : List (List UInt8)} (hne : ns ≠ []) : preB ns ns.length = (preB ns (ns.length - 1) && mayF (dirM 0 (joinS ns))) := by
  have hk : 0 < ns.length := List.length_pos_iff.2 hne
  have e : ns.length = ns.length - 1 + 1 := by omega
  unfold preB
  conv => lhs; rw [e]
  rw [List.range_succ, List.all_append]
  have : preP ns (ns.length - 1) = joinS ns := by unfold preP; rw [List.take_of_length_le (by omega)]
  simp [this]

theorem node_path {ns : List (List UInt8)} (hne : ns ≠ []) {n : Nd} (hn : n.1 = joinS ns) : (preB ns (ns.length - 1) && mayF n) = (mayF n && pathB ns) := by
  unfold pathB
  rw [pre_all hne, decide_eq_true hne]
  cases hm : mayF n with
  | false => simp
  | true =>
    have := may_dir hm
    rw [hn] at this
    rw [this]; simp

theorem isNode_nil {n : Nd} (hn : n.1 = []) : P_overlay_isNode (n, ()) = some (false, ()) := by
  unfold P_overlay_isNode
  dsimp only
  have hsp : splitF ([] : List UInt8) = ([], []) := by decide
  rw [hn, psplit_val _ (by simp), obind_some, hsp]
  dsimp only
  rw [parts_val _ (by simp), obind_some, show parts [] = [] from rfl]
  have := isNode_loop [] ⟨fun x hx => (by cases hx), (by simp), (by simp [joinS])⟩
  rw [this, obind_some]
  rfl

theorem isDir_val {ns : List (List UInt8)} (h : ShN ns) : P_overlay_isDir (joinS ns, ()) = some (decide (ns = []) || pathB ns, ()) := by
  unfold P_overlay_isDir
  dsimp only
  by_cases hne : ns = []
  · subst hne; rfl
  · have hnn : joinS ns ≠ [] := fun e => hne ((joinS_nil h.1).1 e)
    have hs : Sm (dirM 0 (joinS ns)) := ⟨h.2.2, by simp [dirM], by simp [dirM]⟩
    have := isNode_val h hne (n := dirM 0 (joinS ns)) rfl hs
    unfold dirM at this
    rw [eqS_false hnn, nt_false, sel_true, this, obind_some, obind_some, decide_eq_false hne, Bool.false_or]
    dsimp only
    unfold pathB
    rw [pre_all hne, decide_eq_true hne, Bool.and_true]
    rfl

def nodeOf (p : Pt) (path : List UInt8) : Nd := (path, (p.1.2.1, (p.1.2.2.1, (p.2.1, (p.1.2.2.2.2.2.2.2.1, ())))))
def emptyB (p : Pt) : Bool := decide (p.1.2.1 = 1) && decide (p.2.1 = [])
def goneNs (ns : List (List UInt8)) : List (List UInt8) := ns.dropLast ++ [(markF (ns.getLastD [])).2]
def whatN (p : Pt) : Int × List (List UInt8) × Bool :=
  if cleanOk p.1.1 = true then
    let ns := names p.1.1
    if (markF (ns.getLastD [])).1 = 1 then (1, (goneNs ns, emptyB p && pathB (goneNs ns)))
    else if (markF (ns.getLastD [])).1 = 2 then (2, (ns.dropLast, emptyB p && (decide (ns.dropLast = []) || pathB ns.dropLast)))
    else if (markF (ns.getLastD [])).1 = 0 then (0, (ns, (decide (ns = []) && decide (p.1.2.1 = 2)) || (mayF (nodeOf p (joinS ns)) && pathB ns)))
    else (0, ([], false))
  else (0, ([], false))

theorem clean_sh {s : List UInt8} (h : cleanOk s = true) : ShN (names s) := by
  obtain ⟨h1, h2, h3⟩ := clean_names h
  exact ⟨fun x hx => ⟨(names_mem s x hx).1, (names_mem s x hx).2.1⟩, by omega, by omega⟩
theorem clean_last {s : List UInt8} (h : cleanOk s = true) : ((names s).getLastD []).length ≤ 96 := by
  obtain ⟨h1, h2, h3⟩ := clean_names h
  cases hn : names s with
  | nil => simp
  | cons a r =>
    have : (a :: r).getLastD [] ∈ names s := by
      rw [hn, List.getLastD_cons, ← List.getLast_eq_getLastD (h := by simp)]
      exact List.getLast_mem _
    have := joinS_mem_len (names s) _ this
    omega
theorem split_clean {ns : List (List UInt8)} (h : NmOk ns) : splitF (joinS ns) = (joinS ns.dropLast, ns.getLastD []) := by
  by_cases hne : ns = []
  · subst hne; decide
  · rw [splitF_join h hne]
    cases ns with
    | nil => exact absurd rfl hne
    | cons a r => rw [List.getLast_eq_getLastD, List.getLastD_cons]

theorem mark_one {n : List UInt8} (h : (markF n).1 = 1) : (markF n).2 = n.drop 4 ∧ n.drop 4 ≠ [] := by
  unfold markF at h ⊢
  split at h
  · rename_i hw
    rw [if_pos hw]
    split at h
    · cases h
    · rename_i h1
      rw [if_neg h1]
      split at h
      · cases h
      · rename_i h2
        rw [if_neg h2]
        exact ⟨rfl, fun e => h2 (.inr (.inl e))⟩
  · cases h
theorem mark_two {n : List UInt8} (h : (markF n).1 ≠ 0) : n ≠ [] := by
  rintro rfl
  exact h (by decide)
theorem mark_cases (n : List UInt8) : (markF n).1 = 0 ∨ (markF n).1 = 1 ∨ (markF n).1 = 2 ∨ (markF n).1 = 3 := by
  unfold markF
  split
  · split
    · exact .inr (.inr (.inl rfl))
    · split
      · exact .inr (.inr (.inr rfl))
      · exact .inr (.inl rfl)
  · exact .inl rfl

theorem joinP_le (d n : List UInt8) : (joinP d n).length ≤ d.length + n.length + 1 := by
  unfold joinP
  split <;> simp <;> omega
theorem gone_join {s : List UInt8} (h : cleanOk s = true) (hm : (markF ((names s).getLastD [])).1 = 1) : joinP (joinS (names s).dropLast) (markF ((names s).getLastD [])).2 = joinS (goneNs (names s)) ∧ ShN (goneNs (names s)) := by
  have hsh := clean_sh h
  obtain ⟨e, hne⟩ := mark_one hm
  have hlne : (names s).getLastD [] ≠ [] := mark_two (by rw [hm]; decide)
  have hnn : names s ≠ [] := fun q => hlne (by rw [q]; rfl)
  have hmem : (names s).getLastD [] ∈ names s := by
    cases hn : names s with
    | nil => exact absurd hn hnn
    | cons a r =>
      rw [List.getLastD_cons, ← List.getLast_eq_getLastD (h := by simp)]
      exact List.getLast_mem _
  have hok : NmOk (goneNs (names s)) := fun x hx => by
    unfold goneNs at hx
    rcases List.mem_append.1 hx with hx | hx
    · exact hsh.1 x (by rw [List.dropLast_eq_take] at hx; exact List.mem_of_mem_take hx)
    · rw [List.mem_singleton] at hx
      subst hx
      rw [e]
      exact ⟨fun q => (hsh.1 _ hmem).1 (List.mem_of_mem_drop q), hne⟩
  have hj : joinP (joinS (names s).dropLast) (markF ((names s).getLastD [])).2 = joinS (goneNs (names s)) := joinP_fold [_] _ hok
  refine ⟨hj, hok, ?_, ?_⟩
  · unfold goneNs
    rw [List.length_append, List.length_dropLast]
    have := hsh.2.1
    simp
    have := List.length_pos_iff.2 hnn
    omega
  · rw [← hj]
    have h1 := joinP_le (joinS (names s).dropLast) (markF ((names s).getLastD [])).2
    have h2 := clean_last h
    have h3 : (joinS (names s).dropLast).length ≤ 96 := by
      rw [List.dropLast_eq_take]
      have := joinS_take_len (names s) ((names s).length - 1)
      have := (clean_names h).2.2
      omega
    have h4 : (markF ((names s).getLastD [])).2.length ≤ 96 := by rw [e, List.length_drop]; omega
    omega
theorem drop_sh {ns : List (List UInt8)} (h : ShN ns) : ShN ns.dropLast := by
  rw [List.dropLast_eq_take]; exact h.take _

def SmP (p : Pt) : Prop := p.1.1.length ≤ 300 ∧ p.1.2.2.2.2.2.2.2.1.length ≤ 300 ∧ p.2.1.length ≤ 8192

theorem refWhat_val (p : Pt) (hp : SmP p) : P_ref15_what (p, ()) = some ((whatN p).1, (joinS (whatN p).2.1, ((whatN p).2.2, ()))) := by
  unfold P_ref15_what
  dsimp only
  rw [refClean_val p.1.1 (by have := hp.1; omega), obind_some]
  dsimp only
  unfold whatN
  cases hc : cleanOk p.1.1 with
  | false =>
    have : cleanF p.1.1 = ([], 2) := by unfold cleanF; rw [hc]; rfl
    rw [this, if_neg (by simp)]
    rfl
  | true =>
    have hcf : cleanF p.1.1 = (joinS (names p.1.1), 0) := by unfold cleanF; rw [hc]; rfl
    have hsh := clean_sh hc
    have h96 := (clean_names hc).2.2
    rw [hcf, if_pos rfl]
    dsimp only
    rw [show nt (eqI 0 0) = false from rfl, sel_false, refSplit_val _ (by omega), obind_some, split_clean hsh.1]
    dsimp only
    rw [refMark_val, obind_some]
    dsimp only
    have he : ∀ (A : Option Bool), (sel (sel (eqI p.1.2.1 1) (eqS p.2.1 []) false) A (some false)) = if emptyB p = true then A else some false := fun A => by
      unfold emptyB eqI eqS
      by_cases h1 : p.1.2.1 = 1
      · by_cases h2 : p.2.1 = []
        · simp [h1, h2, sel]
        · simp [h1, h2, sel]
      · simp [h1, sel]
    have hl96 := clean_last hc
    rcases mark_cases ((names p.1.1).getLastD []) with hm | hm | hm | hm
    · rw [hm, show eqI 0 1 = false from rfl, sel_false, show eqI 0 2 = false from rfl, sel_false, show eqI 0 0 = true from rfl, sel_true, if_neg (by decide), if_neg (by decide), if_pos rfl]
      unfold P_ref15_node
      dsimp only
      rw [obind_some]
      dsimp only
      have hmay := t14_may_val (nodeOf p (joinS (names p.1.1))) (by show (joinS (names p.1.1)).length ≤ 4096; omega) (by show p.1.2.2.2.2.2.2.2.1.length ≤ 4096; have := hp.2.1; omega)
      rw [show P_ref14_May ((joinS (names p.1.1), (p.1.2.1, (p.1.2.2.1, (p.2.1, (p.1.2.2.2.2.2.2.2.1, ()))))), ()) = _ from hmay, obind_some, refIsPath_val hsh, obind_some]
      dsimp only
      have e1 : sel (eqS (joinS (names p.1.1)) []) (eqI p.1.2.1 2) false = (decide (names p.1.1 = []) && decide (p.1.2.1 = 2)) := by
        have := joinS_nil hsh.1
        unfold eqS eqI
        by_cases h1 : names p.1.1 = []
        · rw [decide_eq_true h1, decide_eq_true (this.2 h1)]; simp [sel]
        · rw [decide_eq_false h1, decide_eq_false fun e => h1 (this.1 e)]; rfl
      rw [e1]
      cases decide (names p.1.1 = []) && decide (p.1.2.1 = 2) with
      | true => rfl
      | false =>
        rw [nt_false, sel_true]
        unfold pathB
        cases mayF (nodeOf p (joinS (names p.1.1))) <;> rfl
    · obtain ⟨g1, g2⟩ := gone_join hc hm
      rw [hm, show eqI 1 1 = true from rfl, sel_true, if_pos rfl, refpjoin_val _ _ (by have := (drop_sh hsh).2.2; omega) (by rw [(mark_one hm).1, List.length_drop]; omega), obind_some, g1]
      dsimp only
      rw [refIsPath_val g2, obind_some, he]
      unfold pathB
      cases emptyB p <;> rfl
    · rw [hm, show eqI 2 1 = false from rfl, sel_false, show eqI 2 2 = true from rfl, sel_true, if_neg (by decide), if_pos rfl]
      have hd := drop_sh hsh
      rw [refIsPath_val hd, obind_some, he]
      have e1 : eqS (joinS (names p.1.1).dropLast) [] = decide ((names p.1.1).dropLast = []) := by
        have := joinS_nil hd.1
        unfold eqS
        exact decide_eq_decide.2 this
      rw [e1]
      unfold pathB
      cases emptyB p <;> cases decide ((names p.1.1).dropLast = []) <;> rfl
    · rw [hm, show eqI 3 1 = false from rfl, sel_false, show eqI 3 2 = false from rfl, sel_false, show eqI 3 0 = false from rfl, sel_false, if_neg (by decide), if_neg (by decide), if_neg (by decide)]
      rfl
end Go.Ge

/- Diffs laid on trees: the steps of entries: in plain words. -/
namespace Go.Ge
set_option linter.unusedVariables false
set_option linter.unusedSimpArgs false

abbrev Stp := ((List UInt8 × Unit) ⊕ ((List UInt8 × Unit) ⊕ (Unit ⊕ ((Nd × Unit) ⊕ Unit))))
def stepW (p : Pt) (w : Int × List (List UInt8) × Bool) : Stp :=
  if w.1 = 1 then .inl (joinS w.2.1, ()) else if w.1 = 2 then .inr (.inl (joinS w.2.1, ())) else if w.2.1 = [] then .inr (.inr (.inl ())) else .inr (.inr (.inr (.inl (nodeOf p (joinS w.2.1), ()))))
def stepN (p : Pt) : Stp := stepW p (whatN p)

theorem emptyB_sel (p : Pt) (A : Option Bool) : (sel (sel (eqI p.1.2.1 1) (eqS p.2.1 []) false) A (some false)) = if emptyB p = true then A else some false := by
  unfold emptyB eqI eqS
  by_cases h1 : p.1.2.1 = 1
  · by_cases h2 : p.2.1 = []
    · simp [h1, h2, sel]
    · simp [h1, h2, sel]
  · simp [h1, sel]

theorem goneNs_ne (ns : List (List UInt8)) : goneNs ns ≠ [] := by unfold goneNs; simp

theorem what_val (p : Pt) (hp : SmP p) : ∃ s, P_overlay_what (p, ()) = some (s, ((whatN p).2.2, ())) ∧ ((whatN p).2.2 = true → s = stepN p) := by
  unfold P_overlay_what
  dsimp only
  rw [clean_val p.1.1 (by have := hp.1; omega), obind_some]
  dsimp only
  unfold stepN
  cases hc : cleanOk p.1.1 with
  | false =>
    have : cleanF p.1.1 = ([], 2) := by unfold cleanF; rw [hc]; rfl
    have hw : whatN p = (0, ([], false)) := by unfold whatN; rw [hc, if_neg (by simp)]
    rw [this, hw]
    exact ⟨_, rfl, fun h => by cases h⟩
  | true =>
    have hcf : cleanF p.1.1 = (joinS (names p.1.1), 0) := by unfold cleanF; rw [hc]; rfl
    have hsh := clean_sh hc
    have h96 := (clean_names hc).2.2
    have hl96 := clean_last hc
    rw [hcf]
    dsimp only
    rw [show nt (eqI 0 0) = false from rfl, sel_false, psplit_val _ (by omega), obind_some, split_clean hsh.1]
    dsimp only
    rw [mark_val, obind_some]
    dsimp only
    rcases mark_cases ((names p.1.1).getLastD []) with hm | hm | hm | hm
    · have hw : whatN p = (0, (names p.1.1, (decide (names p.1.1 = []) && decide (p.1.2.1 = 2)) || (mayF (nodeOf p (joinS (names p.1.1))) && pathB (names p.1.1)))) := by
        unfold whatN; rw [hc, if_pos rfl]; dsimp only; rw [hm, if_neg (by decide), if_neg (by decide), if_pos rfl]
      rw [hw, hm, show eqI 0 1 = false from rfl, sel_false, show eqI 0 2 = false from rfl, sel_false, show eqI 0 3 = false from rfl, sel_false]
      unfold stepW
      dsimp only
      rw [if_neg (by decide), if_neg (by decide)]
      have hmt := joinS_nil hsh.1
      by_cases hns : names p.1.1 = []
      · have hj : joinS (names p.1.1) = [] := hmt.2 hns
        rw [decide_eq_true hns, eqS_true hj, sel_true, if_pos hns]
        by_cases hk : p.1.2.1 = 2
        · rw [eqI_true hk, decide_eq_true hk, sel_true]
          exact ⟨_, rfl, fun _ => rfl⟩
        · rw [eqI_false hk, decide_eq_false hk, sel_false]
          have := isNode_nil (n := nodeOf p (joinS (names p.1.1))) hj
          rw [show P_overlay_isNode ((joinS (names p.1.1), (p.1.2.1, (p.1.2.2.1, (p.2.1, (p.1.2.2.2.2.2.2.2.1, ()))))), ()) = _ from this, obind_some]
          have hpb : pathB (names p.1.1) = false := by unfold pathB; rw [hns]; rfl
          rw [hpb]
          simp only [Bool.and_false, Bool.or_false]
          exact ⟨_, rfl, fun h => by cases h⟩
      · have hj : joinS (names p.1.1) ≠ [] := fun e => hns (hmt.1 e)
        rw [decide_eq_false hns, eqS_false hj, sel_false, sel_false, if_neg hns]
        have hs : Sm (nodeOf p (joinS (names p.1.1))) := ⟨by show (joinS (names p.1.1)).length ≤ 200; omega, hp.2.1, hp.2.2⟩
        have := isNode_val hsh hns (n := nodeOf p (joinS (names p.1.1))) rfl hs
        rw [node_path hns rfl] at this
        rw [show P_overlay_isNode ((joinS (names p.1.1), (p.1.2.1, (p.1.2.2.1, (p.2.1, (p.1.2.2.2.2.2.2.2.1, ()))))), ()) = _ from this, obind_some]
        simp only [Bool.false_and, Bool.false_or]
        exact ⟨_, rfl, fun _ => rfl⟩
    · obtain ⟨g1, g2⟩ := gone_join hc hm
      have hw : whatN p = (1, (goneNs (names p.1.1), emptyB p && pathB (goneNs (names p.1.1)))) := by
        unfold whatN; rw [hc, if_pos rfl]; dsimp only; rw [hm, if_pos rfl]
      rw [hw, hm, show eqI 1 1 = true from rfl, sel_true, pjoin_val _ _ (by have := (drop_sh hsh).2.2; omega) (by rw [(mark_one hm).1, List.length_drop]; omega), obind_some, g1]
      dsimp only
      rw [isDir_val g2, obind_some, emptyB_sel, decide_eq_false (goneNs_ne _), Bool.false_or]
      refine ⟨.inl (joinS (goneNs (names p.1.1)), ()), ?_, fun _ => rfl⟩
      cases emptyB p <;> rfl
    · have hd := drop_sh hsh
      have hw : whatN p = (2, ((names p.1.1).dropLast, emptyB p && (decide ((names p.1.1).dropLast = []) || pathB (names p.1.1).dropLast))) := by
        unfold whatN; rw [hc, if_pos rfl]; dsimp only; rw [hm, if_neg (by decide), if_pos rfl]
      rw [hw, hm, show eqI 2 1 = false from rfl, sel_false, show eqI 2 2 = true from rfl, sel_true]
      rw [isDir_val hd, obind_some, emptyB_sel]
      refine ⟨.inr (.inl (joinS (names p.1.1).dropLast, ())), ?_, fun _ => rfl⟩
      cases emptyB p <;> rfl
    · have hw : whatN p = (0, ([], false)) := by
        unfold whatN; rw [hc, if_pos rfl]; dsimp only; rw [hm, if_neg (by decide), if_neg (by decide), if_neg (by decide)]
      rw [hw, hm, show eqI 3 1 = false from rfl, sel_false, show eqI 3 2 = false from rfl, sel_false, show eqI 3 3 = true from rfl, sel_true]
      exact ⟨_, rfl, fun h => by cases h⟩

def allOk (l : List Pt) : Bool := l.all fun p => (whatN p).2.2
def SmPs (l : List Pt) : Prop := l.length ≤ 10000 ∧ ∀ p ∈ l, SmP p

theorem all_of {l : List Pt} : (∀ (i : Nat) (x : Pt), l[i]? = some x → (!(whatN x).2.2) = false) → allOk l = true := fun h => by
  unfold allOk
  rw [List.all_eq_true]
  intro x hx
  obtain ⟨i, hi⟩ := mem_at.1 hx
  have := h i x hi
  simpa using this
theorem all_not {l : List Pt} {i : Nat} {x : Pt} (hx : l[i]? = some x) (h : (!(whatN x).2.2) = true) : allOk l = false := by
  unfold allOk
  rw [List.all_eq_false]
  exact ⟨x, List.mem_of_getElem? hx, by simpa using h⟩

theorem steps_val (l : List Pt) (hl : SmPs l) : P_overlay_steps (l, ()) = some (if allOk l = true then (l.map stepN, (true, ())) else ([], (false, ()))) := by
  unfold P_overlay_steps
  have h1 := hl.1
  rcases srch (f := P_overlay_steps_L0 (l, ())) l (fun i => ((([] : List Stp), (false, ((), (i, ())))), ((l.take i.toNat).map stepN, ()))) (fun _ x => !(whatN x).2.2) (fun i _ => (1, ((([] : List Stp), (false, ((), ((i : Int), ())))), ((l.take i).map stepN, ())))) (0, ((([] : List Stp), (false, ((), ((l.length : Int), ())))), (l.map stepN, ()))) (by omega) (fun i x hx hi hadd => by
      obtain ⟨s, e1, e2⟩ := what_val x (hl.2 x (List.mem_of_getElem? hx))
      unfold P_overlay_steps_L0
      dsimp only
      rw [ltI_len_true hi, sel_true, idx_some' hx, obind_some, e1, obind_some, hadd]
      dsimp only
      rw [Int.toNat_natCast, Int.toNat_natCast]
      have hlen : ((l.take i).map stepN).length ≤ 10000 := by rw [List.length_map, List.length_take]; omega
      cases hw : (whatN x).2.2 with
      | false => rfl
      | true =>
        rw [nt_true, sel_false, fits_len2 (by simp only [List.length_cons, List.length_nil]; omega), sel_true, e2 hw]
        have : (l.take (i + 1)).map stepN = (l.take i).map stepN ++ [stepN x] := by rw [List.take_add_one, hx, List.map_append]; rfl
        rw [this]; rfl) (by
      unfold P_overlay_steps_L0
      dsimp only
      rw [ltI_len_end, sel_false, Int.toNat_natCast, List.take_length]) with ⟨i, x, hx, hp, _, h⟩ | ⟨hn, h⟩
  · rw [show Loop (P_overlay_steps_L0 (l, ())) ((([] : List Stp), (false, ((), ((0 : Int), ())))), (([] : List Stp), ())) = _ from h, obind_some, all_not hx hp]
    rfl
  · rw [show Loop (P_overlay_steps_L0 (l, ())) ((([] : List Stp), (false, ((), ((0 : Int), ())))), (([] : List Stp), ())) = _ from h, obind_some, all_of hn]
    rfl

end Go.Ge

/- The law TreeIs: in plain words. -/
namespace Go.Ge
set_option linter.unusedVariables false
set_option linter.unusedSimpArgs false

/-! ### What goes -/
theorem gone_take {l : List Nd} {g : Nd → Bool} {i : Nat} {x : Nd} (hx : l[i]? = some x) (hg : g x = true) (hb : ∀ (j : Nat) y, j < i → l[j]? = some y → g y = false) : l.take i = (l.take (i + 1)).filter (fun x => !g x) := by
  rw [List.take_add_one, hx, List.filter_append]
  have h1 : (l.take i).filter (fun x => !g x) = l.take i := List.filter_eq_self.2 fun y hy => by
    obtain ⟨j, hj⟩ := mem_at.1 hy
    rw [List.getElem?_take] at hj
    split at hj
    · rw [hb j y (by omega) hj]; rfl
    · cases hj
  rw [h1]
  simp [hg]

theorem rem_loop0 (l : List Nd) (p : List UInt8) (hl : SmL l) (hp : p.length ≤ 4096) : (∃ i x, l[i]? = some x ∧ gone p x = true ∧ (∀ (j : Nat) y, j < i → l[j]? = some y → gone p y = false) ∧ Loop (P_tree_Remove_L0 (l, (p, ()))) ((0, (0, ())), ((), (p, ()))) = some (1, (((i : Int), ((i : Int), ())), ((), (p, ()))))) ∨
    ((∀ (i : Nat) x, l[i]? = some x → gone p x = false) ∧ Loop (P_tree_Remove_L0 (l, (p, ()))) ((0, (0, ())), ((), (p, ()))) = some (0, ((0, ((l.length : Int), ())), ((), (p, ()))))) :=
  srch (f := P_tree_Remove_L0 (l, (p, ()))) l (fun i => ((0, (i, ())), ((), (p, ())))) (fun _ x => gone p x) (fun i x => (1, (((i : Int), ((i : Int), ())), ((), (p, ()))))) (0, ((0, ((l.length : Int), ())), ((), (p, ())))) (by have := hl.1; omega) (fun i x hx hi ha => by
      unfold P_tree_Remove_L0
      dsimp only
      rw [ltI_len_true hi, sel_true, within_true (by omega) (by unfold len; omega), sel_true, idx_some' hx, obind_some, under_val _ _ (by have := (hl.at hx).1; omega) hp, obind_some, eqS_iff, ha]
      unfold gone
      cases decide (x.1 = p) <;> cases underL (parts x.1) (parts p) <;> rfl) (by unfold P_tree_Remove_L0; dsimp only; rw [ltI_len_end, sel_false])

theorem rem_loop2 (l : List Nd) (p : List UInt8) (hl : SmL l) (hp : p.length ≤ 4096) (i : Nat) (x : Nd) (hx : l[i]? = some x) (hg : gone p x = true) (hb : ∀ (j : Nat) y, j < i → l[j]? = some y → gone p y = false) :
    ∃ (w : Nat) (L : List Nd), Loop (P_tree_Remove_L2) (((i : Int), (iadd IntKind.i64 (i : Int) 1, ((), ()))), ((), (p, (l, ())))) = some (((w : Int), ((l.length : Int), ((), ()))), ((), (p, (L, ())))) ∧ L.length = l.length ∧ w ≤ l.length ∧ L.take w = restF l p := by
  have hi := getElem?_lt hx
  have h4 := hl.1
  obtain ⟨w, L, h1, h2, h3, h5⟩ := del_loop (f := P_tree_Remove_L2) l (gone p) (fun w j L => ((w, (j, ((), ()))), ((), (p, (L, ()))))) (fun w L => ((w, ((L.length : Int), ((), ()))), ((), (p, (L, ()))))) (by omega) (fun w j L x hx hxL hw hj ha hb => by
      unfold P_tree_Remove_L2
      dsimp only
      have hwL : w < L.length := by omega
      obtain ⟨z, hz⟩ : ∃ z, L[w]? = some z := ⟨_, List.getElem?_eq_getElem hwL⟩
      have hgv : sel (nt (eqS x.1 p)) (obind (P_paths_Under (x.1, (p, ()))) (fun (y : Bool × Unit) => some y.1)) (some true) = some (gone p x) := by
        rw [under_val _ _ (by have := (hl.at hx).1; omega) hp, obind_some, eqS_iff]
        unfold gone
        cases decide (x.1 = p) <;> rfl
      rw [ltI_len_true hj, sel_true, within_true (by omega) (by unfold len; omega), sel_true, idx_some' hxL, obind_some, hgv, obind_some, hb]
      cases gone p x with
      | true => rfl
      | false =>
        rw [nt_false, sel_true, within_true (by omega) (by unfold len; omega), sel_true, idx_some' hz, obind_some, obind_some, obind_some, obind_some, ha, lset_nat]
        rfl) (fun w L => by
      unfold P_tree_Remove_L2
      dsimp only
      rw [ltI_len_end, sel_false]
      rfl) l.length i (i + 1) l (by omega) (by omega) (by omega) rfl (gone_take hx hg hb) rfl
  refine ⟨w, L, ?_, h2, h3, h5⟩
  rw [iadd_one (by omega), h1, h2]

theorem remove_val (l : List Nd) (p : List UInt8) (hl : SmL l) (hp : p.length ≤ 4096) (hv : Valid l) : P_tree_Remove (l, (p, ())) = some (restF l p, ()) := by
  obtain ⟨e, c1, c2⟩ := check_val' l hl
  obtain rfl := c2.2 hv
  unfold P_tree_Remove
  dsimp only
  rw [c1, obind_some]
  dsimp only
  rw [show nt (eqI 0 0) = false by rfl, sel_false, fits_len (by have := hl.1; omega), sel_true]
  rcases rem_loop0 l p hl hp with ⟨i, x, hx, hg, hb, h⟩ | ⟨hb, h⟩
  · obtain ⟨w, L, w1, w2, w3, w4⟩ := rem_loop2 l p hl hp i x hx hg hb
    rw [h, obind_some]
    dsimp only
    rw [eqN_one, sel_false, show eqI (i : Int) (-1) = false by unfold eqI; exact decide_eq_false (by omega), sel_false, w1, obind_some]
    dsimp only
    rw [inside_true (by omega) (by unfold len; omega) (Int.le_refl _), sel_true, len_over L w (by omega), inside_true (Int.le_refl _) (by omega) (by omega), sel_true, sub_over L w (by omega), w4]
  · have hr : restF l p = l := List.filter_eq_self.2 fun x hx => by
      obtain ⟨j, hj⟩ := mem_at.1 hx
      rw [hb j x hj]; rfl
    rw [h, obind_some, hr]
    dsimp only
    rw [eqN_zero, sel_true, show eqI (-1) (-1) = true by rfl, sel_true]

/-! ### What lies under -/
def undF (p : List UInt8) (x : Nd) : Bool := underL (parts x.1) (parts p)

theorem emp_loop0 (l : List Nd) (p : List UInt8) (hl : SmL l) (hp : p.length ≤ 4096) : (∃ i x, l[i]? = some x ∧ undF p x = true ∧ (∀ (j : Nat) y, j < i → l[j]? = some y → undF p y = false) ∧ Loop (P_tree_Empty_L0 (l, (p, ()))) ((0, (0, ())), ((), (p, ()))) = some (1, (((i : Int), ((i : Int), ())), ((), (p, ()))))) ∨
    ((∀ (i : Nat) x, l[i]? = some x → undF p x = false) ∧ Loop (P_tree_Empty_L0 (l, (p, ()))) ((0, (0, ())), ((), (p, ()))) = some (0, ((0, ((l.length : Int), ())), ((), (p, ()))))) :=
  srch (f := P_tree_Empty_L0 (l, (p, ()))) l (fun i => ((0, (i, ())), ((), (p, ())))) (fun _ x => undF p x) (fun i x => (1, (((i : Int), ((i : Int), ())), ((), (p, ()))))) (0, ((0, ((l.length : Int), ())), ((), (p, ())))) (by have := hl.1; omega) (fun i x hx hi ha => by
      unfold P_tree_Empty_L0
      dsimp only
      rw [ltI_len_true hi, sel_true, within_true (by omega) (by unfold len; omega), sel_true, idx_some' hx, obind_some, under_val _ _ (by have := (hl.at hx).1; omega) hp, obind_some, ha]
      unfold undF
      cases underL (parts x.1) (parts p) <;> rfl) (by unfold P_tree_Empty_L0; dsimp only; rw [ltI_len_end, sel_false])

theorem emp_loop2 (l : List Nd) (p : List UInt8) (hl : SmL l) (hp : p.length ≤ 4096) (i : Nat) (x : Nd) (hx : l[i]? = some x) (hg : undF p x = true) (hb : ∀ (j : Nat) y, j < i → l[j]? = some y → undF p y = false) :
    ∃ (w : Nat) (L : List Nd), Loop (P_tree_Empty_L2) (((i : Int), (iadd IntKind.i64 (i : Int) 1, ((), ()))), ((), (p, (l, ())))) = some (((w : Int), ((l.length : Int), ((), ()))), ((), (p, (L, ())))) ∧ L.length = l.length ∧ w ≤ l.length ∧ L.take w = l.filter (fun x => !undF p x) := by
  have hi := getElem?_lt hx
  have h4 := hl.1
  obtain ⟨w, L, h1, h2, h3, h5⟩ := del_loop (f := P_tree_Empty_L2) l (undF p) (fun w j L => ((w, (j, ((), ()))), ((), (p, (L, ()))))) (fun w L => ((w, ((L.length : Int), ((), ()))), ((), (p, (L, ()))))) (by omega) (fun w j L x hx hxL hw hj ha hb => by
      unfold P_tree_Empty_L2
      dsimp only
      have hwL : w < L.length := by omega
      obtain ⟨z, hz⟩ : ∃ z, L[w]? = some z := ⟨_, List.getElem?_eq_getElem hwL⟩
      rw [ltI_len_true hj, sel_true, within_true (by omega) (by unfold len; omega), sel_true, idx_some' hxL, obind_some, under_val _ _ (by have := (hl.at hx).1; omega) hp, obind_some, hb]
      unfold undF
      cases underL (parts x.1) (parts p) with
      | true => rfl
      | false =>
        rw [nt_false, sel_true, within_true (by omega) (by unfold len; omega), sel_true, idx_some' hz, obind_some, obind_some, obind_some, obind_some, ha, lset_nat]
        rfl) (fun w L => by
      unfold P_tree_Empty_L2
      dsimp only
      rw [ltI_len_end, sel_false]
      rfl) l.length i (i + 1) l (by omega) (by omega) (by omega) rfl (gone_take hx hg hb) rfl
  refine ⟨w, L, ?_, h2, h3, h5⟩
  rw [iadd_one (by omega), h1, h2]

theorem withoutF_false (l : List Nd) (p : List UInt8) : withoutF l p false = l.filter (fun x => !undF p x) := by
  unfold withoutF undF
  congr 1
  funext x
  cases underL (parts x.1) (parts p) <;> rfl

theorem empty_val (l : List Nd) (p : List UInt8) (hl : SmL l) (hp : p.length ≤ 4096) (hv : Valid l) : P_tree_Empty (l, (p, ())) = some (withoutF l p false, ()) := by
  obtain ⟨e, c1, c2⟩ := check_val' l hl
  obtain rfl := c2.2 hv
  rw [withoutF_false]
  unfold P_tree_Empty
  dsimp only
  rw [c1, obind_some]
  dsimp only
  rw [show nt (eqI 0 0) = false by rfl, sel_false, fits_len (by have := hl.1; omega), sel_true]
  rcases emp_loop0 l p hl hp with ⟨i, x, hx, hg, hb, h⟩ | ⟨hb, h⟩
  · obtain ⟨w, L, w1, w2, w3, w4⟩ := emp_loop2 l p hl hp i x hx hg hb
    rw [h, obind_some]
    dsimp only
    rw [eqN_one, sel_false, show eqI (i : Int) (-1) = false by unfold eqI; exact decide_eq_false (by omega), sel_false, w1, obind_some]
    dsimp only
    rw [inside_true (by omega) (by unfold len; omega) (Int.le_refl _), sel_true, len_over L w (by omega), inside_true (Int.le_refl _) (by omega) (by omega), sel_true, sub_over L w (by omega), w4]
  · have hr : l.filter (fun x => !undF p x) = l := List.filter_eq_self.2 fun x hx => by
      obtain ⟨j, hj⟩ := mem_at.1 hx
      rw [hb j x hj]; rfl
    rw [h, obind_some, hr]
    dsimp only
    rw [eqN_zero, sel_true, show eqI (-1) (-1) = true by rfl, sel_true]

/-! ### The reference's text -/
/-! ### The reference's nodes and lists -/
theorem refFind_val (l : List Nd) (p : List UInt8) (hl : SmL l) (hv : Valid l) : P_ref14_Find (l, (p, ())) = some (findF l p) := by
  obtain ⟨e, c1, c2⟩ := isTree_val l hl
  obtain rfl := c2.2 hv
  unfold P_ref14_Find
  dsimp only
  rcases find_val l p hl with ⟨i, x, hx, hxp, h⟩ | ⟨hno, h⟩
  · rw [h, obind_some, c1, obind_some]
    dsimp only
    rw [ltI_false (by omega), idx_some' hx, find_some' hv.ord (List.mem_of_getElem? hx) hxp]
    rfl
  · rw [h, obind_some, c1, obind_some, find_none' hno]
    rfl

end Go.Ge

/- Diffs laid on trees: what goes first, then what is put: in plain words. -/
namespace Go.Ge
set_option linter.unusedVariables false
set_option linter.unusedSimpArgs false

theorem may_bounds {n : Nd} (h : mayF n = true) : n.1.length ≤ 92 ∧ n.2.2.2.2.1.length ≤ 100 ∧ n.2.2.2.1.length ≤ 8192 := by
  unfold mayF at h
  simp only [Bool.and_eq_true] at h
  have hp := h.1.1.1
  have hk := h.2
  unfold okPath at hp
  simp only [Bool.and_eq_true, decide_eq_true_eq] at hp
  refine ⟨hp.1.1.2, ?_⟩
  unfold kindF at hk
  split at hk
  · have := of_decide_eq_true hk
    exact ⟨by rw [this.1]; simp, this.2⟩
  · split at hk
    · have := of_decide_eq_true hk
      exact ⟨by rw [this.1]; simp, by rw [this.2]; simp⟩
    · split at hk
      · have := of_decide_eq_true hk
        exact ⟨this.2.2.1, by rw [this.1]; simp⟩
      · cases hk
theorem valid_sm {l : List Nd} (h : Valid l) : SmL l := ⟨by have := h.few; omega, fun x hx => by
  have := may_bounds (h.may x hx)
  exact ⟨by omega, by omega, by omega⟩⟩

theorem restF_valid {l : List Nd} (h : Valid l) (p : List UInt8) : Valid (restF l p) := by
  refine ⟨Nat.le_trans (List.length_filter_le _ _) h.few, h.ord.filter _, fun x hx => h.may x (List.mem_filter.1 hx).1, fun x hx => ?_⟩
  obtain ⟨hx1, hx2⟩ := List.mem_filter.1 hx
  by_cases hu : (splitF x.1).1 = []
  · exact .inl hu
  · rcases h.up x hx1 with h0 | ⟨y, hy, e, k⟩
    · exact absurd h0 hu
    · refine .inr ⟨y, List.mem_filter.2 ⟨hy, ?_⟩, e, k⟩
      cases hg : gone p y with
      | false => rfl
      | true =>
        have : gone p x = true := by
          unfold gone at hg ⊢
          rw [Bool.or_eq_true] at hg ⊢
          rcases hg with hg | hg
          · right
            rw [← of_decide_eq_true hg, e]
            exact under_self hu
          · exact .inr (under_up hu e hg)
        rw [this] at hx2; cases hx2
theorem withoutF_valid {l : List Nd} (h : Valid l) (p : List UInt8) : Valid (withoutF l p false) := by
  refine ⟨Nat.le_trans (List.length_filter_le _ _) h.few, h.ord.filter _, fun x hx => h.may x (List.mem_filter.1 hx).1, fun x hx => ?_⟩
  obtain ⟨hx1, hx2⟩ := List.mem_filter.1 hx
  by_cases hu : (splitF x.1).1 = []
  · exact .inl hu
  · rcases h.up x hx1 with h0 | ⟨y, hy, e, k⟩
    · exact absurd h0 hu
    · refine .inr ⟨y, List.mem_filter.2 ⟨hy, ?_⟩, e, k⟩
      cases hg : underL (parts y.1) (parts p) with
      | false => rfl
      | true =>
        rw [under_up hu e hg] at hx2; cases hx2
theorem whatN_sh (p : Pt) : ShN (whatN p).2.1 := by
  have hnil : ShN [] := ⟨fun x hx => (by cases hx), (by simp), (by simp [joinS])⟩
  unfold whatN
  split
  · rename_i hc
    dsimp only
    split
    · rename_i hm; exact (gone_join hc hm).2
    · split
      · exact drop_sh (clean_sh hc)
      · split
        · exact clean_sh hc
        · exact hnil
  · exact hnil

def clrT (t : List Nd) (p : Pt) : List Nd := if (whatN p).1 = 1 then restF t (joinS (whatN p).2.1) else if (whatN p).1 = 2 then withoutF t (joinS (whatN p).2.1) false else t
theorem clrT_valid {t : List Nd} (h : Valid t) (p : Pt) : Valid (clrT t p) := by
  unfold clrT
  split
  · exact restF_valid h _
  · split
    · exact withoutF_valid h _
    · exact h

theorem invClears_val {t : List Nd} (h : Valid t) (p : Pt) : P_inv_clears (stepN p, (t, ())) = some (clrT t p, ()) := by
  have hsh := whatN_sh p
  have hs := valid_sm h
  unfold P_inv_clears stepN stepW clrT
  dsimp only
  by_cases h1 : (whatN p).1 = 1
  · rw [if_pos h1, if_pos h1]
    show P_overlay_gone_clears _ = _
    unfold P_overlay_gone_clears
    dsimp only
    rw [remove_val t _ hs (by have := hsh.2.2; omega) h, obind_some]
  · rw [if_neg h1, if_neg h1]
    by_cases h2 : (whatN p).1 = 2
    · rw [if_pos h2, if_pos h2]
      show P_overlay_opaque_clears _ = _
      unfold P_overlay_opaque_clears
      dsimp only
      rw [empty_val t _ hs (by have := hsh.2.2; omega) h, obind_some]
    · rw [if_neg h2, if_neg h2]
      by_cases h3 : (whatN p).2.1 = []
      · rw [if_pos h3]; rfl
      · rw [if_neg h3]; rfl

theorem take_fold {α β : Type} (f : β → α → β) (l : List α) (b : β) {i : Nat} {x : α} (hx : l[i]? = some x) : (l.take (i + 1)).foldl f b = f ((l.take i).foldl f b) x := by
  rw [List.take_add_one, hx, List.foldl_append]; rfl

theorem clears_val (l : List Pt) (ok : Bool) (t0 : List Nd) (ht : Valid t0) (hl : l.length ≤ 10000) : Loop (P_overlay_Lay_L0 (l.map stepN, (ok, ()))) ((t0, ((0 : Int), ())), ()) = some ((l.foldl clrT t0, ((l.length : Int), ())), ()) ∧ Valid (l.foldl clrT t0) := by
  obtain ⟨t, h0, h1, _⟩ := fold_loop (f := P_overlay_Lay_L0 (l.map stepN, (ok, ()))) l (fun (t : List Nd) i => ((t, (i, ())), ())) (fun t _ x => clrT t x) (fun t => ((t, ((l.length : Int), ())), ())) (fun t i => t = (l.take i).foldl clrT t0 ∧ Valid t) (by omega) (fun t i x hx hi hadd hI => by
    have hy : (l.map stepN)[i]? = some (stepN x) := by rw [List.getElem?_map, hx]; rfl
    constructor
    · unfold P_overlay_Lay_L0
      dsimp only
      rw [ltI_len_true (show i < (l.map stepN).length by rw [List.length_map]; exact hi), sel_true, idx_some' hy, obind_some, hadd]
      rw [show P_inv_clears (stepN x, (t, ())) = _ from invClears_val hI.2 x, obind_some]
      rfl
    · exact ⟨by rw [take_fold clrT l t0 hx, ← hI.1], clrT_valid hI.2 x⟩) (fun t _ => by
    unfold P_overlay_Lay_L0
    dsimp only
    rw [show ltI (l.length : Int) (len (l.map stepN)) = false by rw [← List.length_map (f := stepN)]; exact ltI_len_end, sel_false]
    rfl) t0 ⟨rfl, ht⟩
  rw [List.take_length] at h0
  rw [← h0.1]
  exact ⟨h1, h0.2⟩

end Go.Ge

/- Diffs laid on trees: what is put: in plain words. -/
namespace Go.Ge
set_option linter.unusedVariables false
set_option linter.unusedSimpArgs false

theorem putF_valid {t : List Nd} {n : Nd} (h : (t14_putF t n).2 = 0) : Valid (t14_putF t n).1 := by
  rcases putF_cases t n with ⟨_, h2⟩ | ⟨h1, h2, h3, r, h4, h5, h6⟩
  · exact absurd h h2
  · rw [h6]; exact put_valid h1 h2 h3 h4 h5

noncomputable def dirsF : List (List UInt8) → List UInt8 → List Nd → List Nd × Int
  | [], _, t => (t, 0)
  | nm :: r, at', t =>
    if (findF t (joinP at' nm)).2.1 = true ∧ (findF t (joinP at' nm)).1.2.1 = 2 then dirsF r (joinP at' nm) t
    else if (t14_putF t (dirM 493 (joinP at' nm))).2 = 0 then dirsF r (joinP at' nm) (t14_putF t (dirM 493 (joinP at' nm))).1
    else ([], (t14_putF t (dirM 493 (joinP at' nm))).2)

theorem dirsF_valid : ∀ (r : List (List UInt8)) (a : List UInt8) (t : List Nd), Valid t → (dirsF r a t).2 = 0 → Valid (dirsF r a t).1 := by
  intro r
  induction r with
  | nil => intro a t h _; exact h
  | cons nm r ih =>
    intro a t h h2
    unfold dirsF at h2 ⊢
    split at h2
    · rename_i hc; rw [if_pos hc]; exact ih _ _ h h2
    · rename_i hc
      rw [if_neg hc]
      split at h2
      · rename_i hp; rw [if_pos hp]; exact ih _ _ (putF_valid hp) h2
      · rename_i hp; exact absurd h2 hp

abbrev DS := ((List Nd × (List Nd × (Int × (List UInt8 × (Int × Unit))))) × Unit)

theorem dirs_run {f : DS → Option (DS ⊕ (Nat × DS))} (ns : List (List UInt8)) (h : ShN ns) (n : Nat) (hn : n ≤ ns.length)
    (hstep : ∀ (i : Nat) (x : List UInt8) (t : List Nd), i < n → ns[i]? = some x → Valid t →
      f ((t, ([], ((0 : Int), (joinS (ns.take i), ((i : Int), ()))))), ()) =
        some (if (findF t (preP ns i)).2.1 = true ∧ (findF t (preP ns i)).1.2.1 = 2 then .inl ((t, ([], ((0 : Int), (preP ns i, (((i + 1 : Nat) : Int), ()))))), ())
          else if (t14_putF t (dirM 493 (preP ns i))).2 = 0 then .inl (((t14_putF t (dirM 493 (preP ns i))).1, ([], ((0 : Int), (preP ns i, (((i + 1 : Nat) : Int), ()))))), ())
          else .inr (1, ((t, ([], ((t14_putF t (dirM 493 (preP ns i))).2, (preP ns i, ((i : Int), ()))))), ()))))
    (hend : ∀ (t : List Nd) (a : List UInt8), f ((t, ([], ((0 : Int), (a, ((n : Int), ()))))), ()) = some (.inr (0, ((t, ([], ((0 : Int), (a, ((n : Int), ()))))), ())))) :
    ∀ (d i : Nat) (t : List Nd), i + d = n → Valid t → ∃ z, Loop f ((t, ([], ((0 : Int), (joinS (ns.take i), ((i : Int), ()))))), ()) = some z ∧
      (((dirsF ((ns.take n).drop i) (joinS (ns.take i)) t).2 = 0 ∧ z.1 = 0 ∧ z.2.1.1 = (dirsF ((ns.take n).drop i) (joinS (ns.take i)) t).1) ∨
       ((dirsF ((ns.take n).drop i) (joinS (ns.take i)) t).2 ≠ 0 ∧ z.1 = 1 ∧ z.2.1.2.1 = [] ∧ z.2.1.2.2.1 = (dirsF ((ns.take n).drop i) (joinS (ns.take i)) t).2)) := by
  intro d
  induction d with
  | zero =>
    intro i t hi hv
    obtain rfl : i = n := by omega
    refine ⟨_, by rw [Loop_eq, hend]; rfl, .inl ?_⟩
    rw [List.drop_of_length_le (by rw [List.length_take]; omega)]
    exact ⟨rfl, rfl, rfl⟩
  | succ d ih =>
    intro i t hi hv
    have hx : ns[i]? = some ns[i] := List.getElem?_eq_getElem (by omega)
    have hs := hstep i ns[i] t (by omega) hx hv
    have hdrop : (ns.take n).drop i = ns[i] :: (ns.take n).drop (i + 1) := by
      rw [List.drop_eq_getElem_cons (by rw [List.length_take]; omega), List.getElem_take]
    have hj := joinP_take h.1 hx
    rw [hdrop]
    unfold dirsF
    rw [hj]
    have hn1 : preP ns i = joinS (ns.take (i + 1)) := rfl
    split
    · rename_i hc
      rw [if_pos hc] at hs
      obtain ⟨z, z1, z2⟩ := ih (i + 1) t (by omega) hv
      refine ⟨z, ?_, by rw [hn1]; exact z2⟩
      rw [Loop_eq, hs]
      exact z1
    · rename_i hc
      rw [if_neg hc] at hs
      split
      · rename_i hp
        rw [if_pos hp] at hs
        obtain ⟨z, z1, z2⟩ := ih (i + 1) _ (by omega) (putF_valid hp)
        refine ⟨z, ?_, by rw [hn1]; exact z2⟩
        rw [Loop_eq, hs]
        exact z1
      · rename_i hp
        rw [if_neg hp] at hs
        refine ⟨_, by rw [Loop_eq, hs]; rfl, .inr ⟨hp, rfl, rfl, rfl⟩⟩

theorem dir_sm (m : Int) {ns : List (List UInt8)} (h : ShN ns) (i : Nat) : Sm (dirM m (preP ns i)) := ⟨h.pre_len (i + 1), by simp [dirM], by simp [dirM]⟩

noncomputable def nodeF (ns : List (List UInt8)) (t : List Nd) (n : Nd) : List Nd × Int := if (dirsF ns.dropLast [] t).2 = 0 then t14_putF (dirsF ns.dropLast [] t).1 n else ([], (dirsF ns.dropLast [] t).2)

theorem nodePuts_val {ns : List (List UInt8)} (h : ShN ns) {n : Nd} (hn : n.1 = joinS ns) (hs : Sm n) {t : List Nd} (hv : Valid t) : P_overlay_node_puts ((n, ()), (t, ())) = some ((nodeF ns t n).1, ((nodeF ns t n).2, ())) := by
  have hd : ShN ns.dropLast := drop_sh h
  unfold P_overlay_node_puts
  dsimp only
  rw [hn, psplit_val _ (by have := h.2.2; omega), obind_some, split_clean h.1]
  dsimp only
  rw [parts_val _ (by have := hd.2.2; omega), obind_some, parts_joinS _ hd.1]
  obtain ⟨z, z1, z2⟩ := dirs_run (f := P_overlay_node_puts_L0 (ns.dropLast, ())) ns.dropLast hd ns.dropLast.length (Nat.le_refl _) (fun i x u hi hx hu => by
      have hus := valid_sm hu
      have hxl := hd.mem_len (List.mem_of_getElem? hx)
      have hpl := hd.pre_len i
      have hpl1 := hd.pre_len (i + 1)
      have h16 := hd.2.1
      unfold P_overlay_node_puts_L0
      dsimp only
      rw [ltI_len_true hi, sel_true, idx_some' hx, obind_some, pjoin_val _ _ (by omega) (by omega), obind_some, joinP_take hd.1 hx]
      dsimp only
      rw [tfind_val u _ hus (by unfold preP; omega) hu, obind_some, iadd_one (by omega)]
      have hp := t14_put_val u (dirM 493 (preP ns.dropLast i)) hus (dir_sm 493 hd i)
      rw [show P_tree_Put (u, ((preP ns.dropLast i, ((2 : Int), ((493 : Int), (([] : List UInt8), (([] : List UInt8), ()))))), ())) = _ from hp, obind_some]
      dsimp only
      by_cases hf : (findF u (preP ns.dropLast i)).2.1 = true
      · by_cases hk : (findF u (preP ns.dropLast i)).1.2.1 = 2
        · rw [hf, eqI_true hk, if_pos ⟨rfl, hk⟩]; rfl
        · rw [hf, eqI_false hk, if_neg (fun q => hk q.2)]
          by_cases he : (t14_putF u (dirM 493 (preP ns.dropLast i))).2 = 0
          · rw [eqI_true he, if_pos he]; rfl
          · rw [eqI_false he, if_neg he]; rfl
      · rw [show (findF u (preP ns.dropLast i)).2.1 = false by simpa using hf, if_neg (fun q => by cases q.1)]
        by_cases he : (t14_putF u (dirM 493 (preP ns.dropLast i))).2 = 0
        · rw [eqI_true he, if_pos he]; rfl
        · rw [eqI_false he, if_neg he]; rfl) (fun u a => by
      unfold P_overlay_node_puts_L0
      dsimp only
      rw [ltI_len_end, sel_false]) ns.dropLast.length 0 t (by omega) hv
  rw [List.take_length, List.drop_zero] at z2
  rw [show Loop (P_overlay_node_puts_L0 (ns.dropLast, ())) ((t, (([] : List Nd), ((0 : Int), (([] : List UInt8), ((0 : Int), ()))))), ()) = _ from z1, obind_some]
  have ht0 : joinS (ns.dropLast.take 0) = [] := by simp [joinS]
  rw [ht0] at z2
  unfold nodeF
  rcases z2 with ⟨a1, a2, a3⟩ | ⟨a1, a2, a3, a4⟩
  · have hv2 := dirsF_valid _ _ _ hv a1
    rw [a2, show eqN 0 0 = true from rfl, sel_true, a3, if_pos a1, t14_put_val _ n (valid_sm hv2) hs, obind_some]
  · rw [a2, show eqN 1 0 = false from rfl, sel_false, a3, a4, if_neg a1]

end Go.Ge

/- Diffs laid on trees: what comes of entries laid on nodes: in plain words. -/
namespace Go.Ge
set_option linter.unusedVariables false
set_option linter.unusedSimpArgs false

theorem whatN_mark (p : Pt) : (whatN p).1 = 0 ∨ (whatN p).1 = 1 ∨ (whatN p).1 = 2 := by
  unfold whatN
  split
  · dsimp only
    split
    · exact .inr (.inl rfl)
    · split
      · exact .inr (.inr rfl)
      · split
        · exact .inl rfl
        · exact .inl rfl
  · exact .inl rfl

noncomputable def putsF (t : List Nd) (p : Pt) : List Nd × Int := if (whatN p).1 = 0 ∧ (whatN p).2.1 ≠ [] then nodeF (whatN p).2.1 t (nodeOf p (joinS (whatN p).2.1)) else (t, 0)
noncomputable def runF : List Pt → List Nd → List Nd × Int
  | [], t => (t, 0)
  | p :: r, t => if (putsF t p).2 = 0 then runF r (putsF t p).1 else ([], (putsF t p).2)

theorem nodeF_valid {ns : List (List UInt8)} {t : List Nd} {n : Nd} (h : (nodeF ns t n).2 = 0) : Valid (nodeF ns t n).1 := by
  unfold nodeF at h ⊢
  split at h
  · rename_i hd; rw [if_pos hd]; exact putF_valid h
  · rename_i hd; exact absurd h hd
theorem putsF_valid {t : List Nd} {p : Pt} (hv : Valid t) (h : (putsF t p).2 = 0) : Valid (putsF t p).1 := by
  unfold putsF at h ⊢
  split at h
  · rename_i hc; rw [if_pos hc]; exact nodeF_valid h
  · rename_i hc; rw [if_neg hc]; exact hv
theorem runF_valid : ∀ (l : List Pt) (t : List Nd), Valid t → (((runF l t).2 = 0 ∧ Valid (runF l t).1) ∨ ((runF l t).2 ≠ 0 ∧ (runF l t).1 = [])) := by
  intro l
  induction l with
  | nil => intro t h; exact .inl ⟨rfl, h⟩
  | cons p r ih =>
    intro t h
    unfold runF
    split
    · rename_i hp; exact ih _ (putsF_valid h hp)
    · rename_i hp; exact .inr ⟨hp, rfl⟩

theorem node_sm {p : Pt} (hp : SmP p) {ns : List (List UInt8)} (h : ShN ns) : Sm (nodeOf p (joinS ns)) := ⟨h.2.2, hp.2.1, hp.2.2⟩

theorem invPuts_val {t : List Nd} (h : Valid t) (p : Pt) (hp : SmP p) : P_inv_puts (stepN p, (t, ())) = some ((putsF t p).1, ((putsF t p).2, ())) := by
  have hsh := whatN_sh p
  unfold P_inv_puts stepN stepW putsF
  dsimp only
  rcases whatN_mark p with h0 | h0 | h0
  · rw [if_neg (by rw [h0]; decide), if_neg (by rw [h0]; decide)]
    by_cases h3 : (whatN p).2.1 = []
    · rw [if_pos h3, if_neg (fun q => q.2 h3)]; rfl
    · rw [if_neg h3, if_pos ⟨h0, h3⟩]
      exact nodePuts_val hsh rfl (node_sm hp hsh) h
  · rw [if_pos h0, if_neg (fun q => by rw [h0] at q; exact absurd q.1 (by decide))]; rfl
  · rw [if_neg (by rw [h0]; decide), if_pos h0, if_neg (fun q => by rw [h0] at q; exact absurd q.1 (by decide))]; rfl

theorem runs {S R : Type} {f : S → Option (S ⊕ R)} (l : List Pt) (mk : List Nd → Nat → S) (fin : List Nd → R) (err : Int → List Nd → Nat → R)
    (hstep : ∀ (i : Nat) (x : Pt) (t : List Nd), l[i]? = some x → Valid t → f (mk t i) = some (if (putsF t x).2 = 0 then .inl (mk (putsF t x).1 (i + 1)) else .inr (err (putsF t x).2 t i)))
    (hend : ∀ t, f (mk t l.length) = some (.inr (fin t))) :
    ∀ (d i : Nat) (t : List Nd), i + d = l.length → Valid t → ∃ z, Loop f (mk t i) = some z ∧
      (((runF (l.drop i) t).2 = 0 ∧ z = fin (runF (l.drop i) t).1) ∨ ((runF (l.drop i) t).2 ≠ 0 ∧ ∃ t' i', z = err (runF (l.drop i) t).2 t' i')) := by
  intro d
  induction d with
  | zero =>
    intro i t hi hv
    obtain rfl : i = l.length := by omega
    refine ⟨_, by rw [Loop_eq, hend]; rfl, .inl ?_⟩
    rw [List.drop_length]
    exact ⟨rfl, rfl⟩
  | succ d ih =>
    intro i t hi hv
    have hx : l[i]? = some l[i] := List.getElem?_eq_getElem (by omega)
    have hs := hstep i l[i] t hx hv
    rw [List.drop_eq_getElem_cons (by omega)]
    unfold runF
    split
    · rename_i hp
      rw [if_pos hp] at hs
      obtain ⟨z, z1, z2⟩ := ih (i + 1) _ (by omega) (putsF_valid hv hp)
      exact ⟨z, by rw [Loop_eq, hs]; exact z1, z2⟩
    · rename_i hp
      rw [if_neg hp] at hs
      exact ⟨_, by rw [Loop_eq, hs]; rfl, .inr ⟨hp, t, i, rfl⟩⟩

open Classical in
noncomputable def layF (l : List Nd) (ps : List Pt) : List Nd × Int := if Valid l then (if allOk ps = true then runF ps (ps.foldl clrT l) else ([], 10)) else ([], 1)

theorem folds_valid (ps : List Pt) : ∀ (l : List Nd), Valid l → Valid (ps.foldl clrT l) := by
  induction ps with
  | nil => intro l h; exact h
  | cons p r ih => intro l h; exact ih _ (clrT_valid h p)

theorem lay_val (l : List Nd) (ps : List Pt) (hl : SmL l) (hp : SmPs ps) : P_overlay_Lay (l, (ps, ())) = some ((layF l ps).1, ((layF l ps).2, ())) := by
  obtain ⟨e, c1, c2⟩ := check_val' l hl
  have h1 := hl.1
  have h2 := hp.1
  unfold P_overlay_Lay layF
  dsimp only
  rw [c1, obind_some]
  dsimp only
  by_cases hv : Valid l
  · rw [c2.2 hv, show nt (eqI 0 0) = false from rfl, sel_false, if_pos hv, steps_val ps hp, obind_some]
    by_cases ha : allOk ps = true
    · rw [if_pos ha, if_pos ha]
      dsimp only
      rw [nt_true, sel_false, fits_len2 (by simp only [List.length_nil]; omega), sel_true, show app ([] : List Nd) l = l from rfl]
      obtain ⟨k1, k2⟩ := clears_val ps true l hv (by omega)
      rw [k1, obind_some]
      dsimp only
      obtain ⟨z, z1, z2⟩ := runs (f := P_overlay_Lay_L1 (ps.map stepN, (true, ()))) ps (fun t i => (([], ((0 : Int), (t, ((i : Int), ())))), ())) (fun t => (0, (([], ((0 : Int), (t, ((ps.length : Int), ())))), ()))) (fun e t i => (1, (([], (e, (t, ((i : Int), ())))), ()))) (fun i x t hx hu => by
          have hi := getElem?_lt hx
          have hy : (ps.map stepN)[i]? = some (stepN x) := by rw [List.getElem?_map, hx]; rfl
          unfold P_overlay_Lay_L1
          dsimp only
          rw [ltI_len_true (show i < (ps.map stepN).length by rw [List.length_map]; exact hi), sel_true, idx_some' hy, obind_some, iadd_one (by omega)]
          rw [show P_inv_puts (stepN x, (t, ())) = _ from invPuts_val hu x (hp.2 x (List.mem_of_getElem? hx)), obind_some]
          dsimp only
          by_cases he : (putsF t x).2 = 0
          · rw [eqI_true he, if_pos he]; rfl
          · rw [eqI_false he, if_neg he]; rfl) (fun t => by
          unfold P_overlay_Lay_L1
          dsimp only
          rw [show ltI (ps.length : Int) (len (ps.map stepN)) = false by rw [← List.length_map (f := stepN)]; exact ltI_len_end, sel_false]) ps.length 0 (ps.foldl clrT l) (by omega) k2
      rw [List.drop_zero] at z2
      rw [show Loop (P_overlay_Lay_L1 (ps.map stepN, (true, ()))) (([], ((0 : Int), (ps.foldl clrT l, ((0 : Int), ())))), ()) = _ from z1, obind_some]
      rcases z2 with ⟨a1, a2⟩ | ⟨a1, t', i', a2⟩
      · rw [a2, a1]; rfl
      · rw [a2]
        rcases runF_valid ps _ k2 with ⟨b1, _⟩ | ⟨_, b2⟩
        · exact absurd b1 a1
        · rw [b2]; rfl
    · rw [if_neg ha, if_neg ha]; rfl
  · have : e ≠ 0 := fun q => hv (c2.1 q)
    rw [eqI_false this, nt_false, sel_true, if_neg hv]

end Go.Ge

/- A reader that nobody made reads nothing. -/
namespace Go.Ge
set_option linter.unusedVariables false
set_option linter.unusedSimpArgs false

def rd0 : Rd := (false, ([], (0, (false, (false, ())))))

abbrev Ns := (Bool × Int × Unit) × (Unit × Unit × Unit) × Rd × Unit
def ns (k : Int) : Ns := ((false, (k, ())), (((), ((), ())), (rd0, ())))

end Go.Ge

/- What must come in layer 15, whatever the arguments are: in plain words. -/
namespace Go.Ge
set_option linter.unusedVariables false

def putB' (l : List Nd) (n : Nd) : List Nd × Int := if mayF n = true then t14_putB l n else ([], 1)
theorem putB_eq {l : List Nd} (h : Valid l) (n : Nd) : t14_putF l n = putB' l n := by
  unfold putB'
  by_cases hm : mayF n = true
  · rw [if_pos hm, putF_eq h hm]
  · rw [if_neg hm]
    unfold t14_putF
    rw [if_pos (.inr (by simpa using hm))]
def dirsB : List (List UInt8) → List UInt8 → List Nd → List Nd × Int
  | [], _, t => (t, 0)
  | nm :: r, a, t =>
    if (findF t (joinP a nm)).2.1 = true ∧ (findF t (joinP a nm)).1.2.1 = 2 then dirsB r (joinP a nm) t
    else if (putB' t (dirM 493 (joinP a nm))).2 = 0 then dirsB r (joinP a nm) (putB' t (dirM 493 (joinP a nm))).1
    else ([], (putB' t (dirM 493 (joinP a nm))).2)
theorem dirsB_eq : ∀ (r : List (List UInt8)) (a : List UInt8) (t : List Nd), Valid t → dirsF r a t = dirsB r a t := by
  intro r
  induction r with
  | nil => intro a t _; rfl
  | cons nm r ih =>
    intro a t h
    unfold dirsF dirsB
    rw [← putB_eq h]
    split
    · exact ih _ _ h
    · split
      · rename_i hp; exact ih _ _ (putF_valid hp)
      · rfl
def nodeB (ns : List (List UInt8)) (t : List Nd) (n : Nd) : List Nd × Int := if (dirsB ns.dropLast [] t).2 = 0 then putB' (dirsB ns.dropLast [] t).1 n else ([], (dirsB ns.dropLast [] t).2)
theorem nodeB_eq (ns : List (List UInt8)) {t : List Nd} (h : Valid t) (n : Nd) : nodeF ns t n = nodeB ns t n := by
  unfold nodeF nodeB
  rw [← dirsB_eq _ _ _ h]
  split
  · rename_i hd; exact putB_eq (dirsF_valid _ _ _ h hd) n
  · rfl
def putsB (t : List Nd) (p : Pt) : List Nd × Int := if (whatN p).1 = 0 ∧ (whatN p).2.1 ≠ [] then nodeB (whatN p).2.1 t (nodeOf p (joinS (whatN p).2.1)) else (t, 0)
theorem putsB_eq {t : List Nd} (h : Valid t) (p : Pt) : putsF t p = putsB t p := by
  unfold putsF putsB
  split
  · exact nodeB_eq _ h _
  · rfl
def runB : List Pt → List Nd → List Nd × Int
  | [], t => (t, 0)
  | p :: r, t => if (putsB t p).2 = 0 then runB r (putsB t p).1 else ([], (putsB t p).2)
theorem runB_eq : ∀ (l : List Pt) (t : List Nd), Valid t → runF l t = runB l t := by
  intro l
  induction l with
  | nil => intro t _; rfl
  | cons p r ih =>
    intro t h
    unfold runF runB
    rw [← putsB_eq h]
    split
    · rename_i hp; exact ih _ (putsF_valid h hp)
    · rfl
theorem lay_run {l : List Nd} {ps : List Pt} {r : List Nd × Int} (h : validB l = true) (hp : SmPs ps) (hr : (if allOk ps = true then runB ps (ps.foldl clrT l) else ([], 10)) = r) : P_overlay_Lay (l, (ps, ())) = some (r.1, (r.2, ())) := by
  have hv := validB_valid h
  rw [lay_val l ps (valid_sm hv) hp]
  unfold layF
  rw [if_pos hv, runB_eq _ _ (folds_valid ps l hv), hr]

def aF (path data : List UInt8) : Pt := ((path, (1, (420, (0, (0, (len data, (0, ([], ())))))))), (data, ()))
def aT1 : List Nd := [([98], (1, (420, ([121], ([], ()))))), ([100], (2, (493, ([], ([], ()))))), ([100, 47, 97], (1, (420, ([120], ([], ())))))]
def aT2 : List Nd := [([100], (2, (493, ([], ([], ()))))), ([100, 47, 97], (1, (420, ([122], ([], ())))))]
theorem aF_sm {p d : List UInt8} (hp : p.length ≤ 300) (hd : d.length ≤ 300) : SmP (aF p d) := ⟨hp, by simp [aF], by show d.length ≤ 8192; omega⟩
theorem aL1 : P_overlay_Lay ([], ([aF [46, 47, 100, 47, 97] [120], aF [98] [121]], ())) = some (aT1, (0, ())) := lay_run (r := (aT1, 0)) (by decide +kernel) ⟨by simp, fun p hp => by
  simp only [List.mem_cons, List.not_mem_nil, or_false] at hp
  rcases hp with rfl | rfl <;> exact aF_sm (by simp) (by simp)⟩ (by kernel_rfl)
theorem aL2 : P_overlay_Lay (aT1, ([aF [100, 47, 46, 119, 104, 46, 97] [], aF [46, 119, 104, 46, 98] [], aF [100, 47, 97] [122]], ())) = some (aT2, (0, ())) := lay_run (r := (aT2, 0)) (by decide +kernel) ⟨by simp, fun p hp => by
  simp only [List.mem_cons, List.not_mem_nil, or_false] at hp
  rcases hp with rfl | rfl | rfl <;> exact aF_sm (by simp) (by simp)⟩ (by kernel_rfl)
theorem aL3 : P_overlay_Lay (aT2, ([aF [46, 46, 47, 120] []], ())) = some ([], (10, ())) := lay_run (r := ([], 10)) (by decide +kernel) ⟨by simp, fun p hp => by
  simp only [List.mem_cons, List.not_mem_nil, or_false] at hp
  rcases hp with rfl; exact aF_sm (by simp) (by simp)⟩ (by kernel_rfl)
theorem check_bad {s : List UInt8} (h : P_tar_Read (s, ()) = some ([], (10, ()))) : P_overlay_Check (s, ()) = some (10, ()) := by
  unfold P_overlay_Check
  dsimp only
  rw [h, obind_some]
  dsimp only
  rw [steps_val [] ⟨by simp, fun p hp => by cases hp⟩, obind_some]
  rfl
theorem read_x : P_tar_Read ([120], ()) = some ([], (10, ())) := by
  unfold P_tar_Read
  have h1 : P_tar_Reader_Next ((), ((true, (([120] : List UInt8), ((0 : Int), (ltI (8192 : Int) (@len UInt8 [120]), (ltI (8192 : Int) (@len UInt8 [120]), ()))))), ())) = some ((zeroPt, (false, ())), ((true, ([], ((0 : Int), (true, (true, ()))))), ())) := by kernel_rfl
  dsimp only
  rw [h1, obind_some]
  dsimp only
  rw [Loop_eq, step_last]
  rfl
theorem aC1 : P_overlay_Check ([120], ()) = some (10, ()) := check_bad read_x
theorem zeros_nul : intsBytes (lrep (1024 : Int) (0 : Int)) = nul 1024 := by
  unfold lrep intsBytes nul
  rw [List.map_replicate]
  rfl
theorem read_zeros : P_tar_Read (nul 1024, ()) = some ([], (0, ())) := by
  have hz : ∀ x ∈ nul 1024, x = 0 := nul_all _
  have hl : (nul 1024).length = 1024 := length_nul _
  unfold P_tar_Read
  dsimp only
  rw [ltI_false (show len (nul 1024) ≤ 8192 by unfold len; omega)]
  rw [show P_tar_Reader_Next ((), ((true, (nul 1024, ((0 : Int), (false, (false, ()))))), ())) = _ from next_zero (nul 1024) 0 (by omega) (by omega) (fun x hx => hz x (List.mem_of_mem_take hx)), decide_eq_true ⟨by omega, by omega, hz⟩, obind_some]
  dsimp only
  rw [Loop_eq, step_last]
  rfl
theorem aC2 : P_overlay_Check (intsBytes (lrep (1024 : Int) (0 : Int)), ()) = some (0, ()) := by
  unfold P_overlay_Check
  dsimp only
  rw [zeros_nul, read_zeros, obind_some]
  dsimp only
  rw [steps_val [] ⟨by simp, fun p hp => by cases hp⟩, obind_some]
  rfl

theorem awake15 : P_law15_awake () = some (true, ()) := by
  unfold P_law15_awake P_law15_file
  have l1 := aL1
  have l2 := aL2
  have l3 := aL3
  unfold aF at l1 l2 l3
  unfold aT1 at l1 l2
  unfold aT2 at l2 l3
  simp only [obind_some]
  rw [l1, obind_some]
  dsimp only
  rw [l2, obind_some]
  dsimp only
  rw [l3, obind_some]
  dsimp only
  rw [aC1, obind_some]
  dsimp only
  rw [aC2]
  rfl
end Go.Ge

/- What is read of any bytes: in plain words. -/
namespace Go.Ge
set_option linter.unusedVariables false
set_option linter.unusedSimpArgs false

end Go.Ge
