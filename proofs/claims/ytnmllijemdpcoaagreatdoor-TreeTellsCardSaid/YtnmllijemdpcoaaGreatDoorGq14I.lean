/- The law TreeTells: a tree's text tells it: in plain words. -/
import Derived.Test.YtnmllijemdpcoaaGreatDoorGq14H
namespace Go.Ge
set_option linter.unusedVariables false
set_option linter.unusedSimpArgs false

set_option synthInstance.maxHeartbeats 200000 in
set_option synthInstance.maxSize 4000 in
instance decNd : DecidableEq Nd := inferInstance

/-- Are two trees the same. -/
theorem same_val (l m : List Nd) (hl : l.length ≤ 4294967296) : P_ref14_Same (l, (m, ())) = some (decide (l = m), ()) := by
  by_cases e : l = m
  · subst e
    rw [same_self l hl]; simp
  · unfold P_ref14_Same
    dsimp only
    rw [eqI_lens, decide_eq_false e]
    by_cases hlen : l.length = m.length
    · rw [decide_eq_true hlen, nt_true, sel_false]
      rcases srch (f := P_ref14_Same_L0 (l, (m, ()))) l (fun i => ((false, (i, ())), ())) (fun i x => match m[i]? with | some y => !decide (x = y) | none => false) (fun i x => (1, ((false, ((i : Int), ())), ()))) ((0 : Nat), ((false, ((l.length : Int), ())), ())) hl (fun i x hx hi ha => by
          unfold P_ref14_Same_L0
          dsimp only
          obtain ⟨y, hy⟩ : ∃ y, m[i]? = some y := ⟨_, List.getElem?_eq_getElem (by omega)⟩
          rw [ltI_len_true hi, ltI_len_true (show i < m.length by omega), sel_true, sel_true, idx_some' hx, obind_some, idx_some' hy, obind_some, ha, hy]
          have hq : an (eqS x.1 y.1) (an (eqI x.2.1 y.2.1) (an (eqI x.2.2.1 y.2.2.1) (an (eqS x.2.2.2.1 y.2.2.2.1) (an (eqS x.2.2.2.2.1 y.2.2.2.2.1) true)))) = decide (x = y) := by
            obtain ⟨x1, x2, x3, x4, x5, x6⟩ := x
            obtain ⟨y1, y2, y3, y4, y5, y6⟩ := y
            unfold an eqS eqI
            rw [Bool.eq_iff_iff]
            simp
          rw [hq]
          by_cases hxy : x = y
          · simp [hxy, sel, nt]
          · simp [hxy, sel, nt]) (by unfold P_ref14_Same_L0; dsimp only; rw [ltI_len_end, sel_false, sel_false]) with ⟨i, x, _, _, _, h⟩ | ⟨hn, h⟩
      · rw [h]; rfl
      · exfalso
        apply e
        apply List.ext_getElem?
        intro i
        by_cases hi : i < l.length
        · have hx : l[i]? = some l[i] := List.getElem?_eq_getElem hi
          have hy : m[i]? = some m[i] := List.getElem?_eq_getElem (by omega)
          have := hn i l[i] hx
          rw [hy] at this
          simp at this
          rw [hx, hy, this]
        · rw [List.getElem?_eq_none (by omega), List.getElem?_eq_none (by omega)]
    · rw [decide_eq_false hlen, nt_false, sel_true]

/-- What ends at the first mark. -/
theorem cut_at {α : Type} {c : α} : ∀ {a b r s : List α}, c ∉ a → c ∉ b → a ++ c :: r = b ++ c :: s → a = b ∧ r = s := by
  intro a
  induction a with
  | nil =>
    intro b r s _ hb h
    cases b with
    | nil => exact ⟨rfl, by simpa using h⟩
    | cons x b =>
      simp only [List.nil_append, List.cons_append, List.cons.injEq] at h
      exact absurd (by rw [h.1]; simp) hb
  | cons x a ih =>
    intro b r s ha hb h
    cases b with
    | nil =>
      simp only [List.nil_append, List.cons_append, List.cons.injEq] at h
      exact absurd (by rw [← h.1]; simp) ha
    | cons y b =>
      simp only [List.cons_append, List.cons.injEq] at h
      obtain ⟨h1, h2⟩ := ih (fun q => ha (by simp [q])) (fun q => hb (by simp [q])) h.2
      exact ⟨by rw [h.1, h1], h2⟩

theorem hx_no : ∀ n : Fin 16, hx n.val ≠ 32 ∧ hx n.val ≠ 10 := by decide +kernel
theorem hexF_no (l : List UInt8) : 32 ∉ hexF l ∧ 10 ∉ hexF l := by
  induction l with
  | nil => simp [hexF]
  | cons b r ih =>
    have h1 := hx_no ⟨b.toNat / 16, by have := b.toNat_lt; omega⟩
    have h2 := hx_no ⟨b.toNat % 16, by omega⟩
    have e : hexF (b :: r) = hx (b.toNat / 16) :: hx (b.toNat % 16) :: hexF r := rfl
    rw [e]
    simp only [List.mem_cons, not_or]
    exact ⟨⟨fun q => h1.1 q.symm, fun q => h2.1 q.symm, ih.1⟩, ⟨fun q => h1.2 q.symm, fun q => h2.2 q.symm, ih.2⟩⟩
theorem hexF_inj {a b : List UInt8} (h : hexF a = hexF b) : a = b := by
  have := unhex_hex a
  rw [h, unhex_hex b] at this
  exact (Option.some.inj this).symm
theorem dgst_no (s : List UInt8) : 10 ∉ dgst s := by
  unfold dgst preD
  have := (hexF_no (intsBytes (sha s))).2
  simp [this]
theorem octD_no (n k : Nat) : octD n k ≠ 10 := by
  have h : ∀ d : Fin 8, UInt8.ofNat (48 + d.val) ≠ 10 := by decide
  exact h ⟨n / 8 ^ k % 8, Nat.mod_lt _ (by omega)⟩
theorem octF_no (n : Nat) : ∀ k, 10 ∉ octF n k := by
  intro k
  induction k with
  | zero => simp [octF]
  | succ k ih =>
    have e : octF n (k + 1) = octD n k :: octF n k := rfl
    rw [e, List.mem_cons, not_or]
    exact ⟨fun q => octD_no n k q.symm, ih⟩
theorem octD_inj {n m k : Nat} (h : octD n k = octD m k) : n / 8 ^ k % 8 = m / 8 ^ k % 8 := by
  have q : ∀ d e : Fin 8, UInt8.ofNat (48 + d.val) = UInt8.ofNat (48 + e.val) → d = e := by decide
  have := q ⟨n / 8 ^ k % 8, Nat.mod_lt _ (by omega)⟩ ⟨m / 8 ^ k % 8, Nat.mod_lt _ (by omega)⟩ h
  exact congrArg Fin.val this
theorem octF4_inj {n m : Nat} (hn : n < 4096) (hm : m < 4096) (h : octF n 4 = octF m 4) : n = m := by
  have e : ∀ n, octF n 4 = [octD n 3, octD n 2, octD n 1, octD n 0] := fun n => rfl
  rw [e, e] at h
  simp only [List.cons.injEq] at h
  have h3 := octD_inj h.1
  have h2 := octD_inj h.2.1
  have h1 := octD_inj h.2.2.1
  have h0 := octD_inj h.2.2.2.1
  simp at h0 h1 h2 h3
  omega

theorem tailF_no (n : Nd) : 10 ∉ tailF n := by
  unfold tailF
  split
  · simp [dgst_no]
  · split
    · simp
    · simp [(hexF_no _).2]
theorem tailF_form (n : Nd) : tailF n = [] ∨ ∃ t, tailF n = 32 :: t := by
  unfold tailF
  split
  · exact .inr ⟨_, rfl⟩
  · split
    · exact .inl rfl
    · exact .inr ⟨_, rfl⟩
/-- A line without its end. -/
noncomputable def bodyF (n : Nd) : List UInt8 := headC n :: 32 :: (modeF n ++ 32 :: (hexF n.1 ++ tailF n))
theorem lineF_body (n : Nd) : lineF n = bodyF n ++ [10] := by
  unfold lineF bodyF
  simp
theorem bodyF_no (n : Nd) : 10 ∉ bodyF n := by
  unfold bodyF modeF headC
  have h1 := octF_no n.2.2.1.toNat 4
  have h2 := (hexF_no n.1).2
  have h3 := tailF_no n
  have h4 : (10 : UInt8) ≠ (if n.2.1 = 1 then 102 else if n.2.1 = 2 then 100 else 108) := by
    split
    · decide
    · split <;> decide
  simp [h1, h2, h3, h4]

theorem bodyF_inj {x y : Nd} (hx : mayF x = true) (hy : mayF y = true) (h : bodyF x = bodyF y) (hd : x.2.2.2.1 = y.2.2.2.1 ∨ dgst x.2.2.2.1 ≠ dgst y.2.2.2.1) : x = y := by
  unfold bodyF at h
  simp only [List.cons.injEq, true_and] at h
  obtain ⟨h1, h2⟩ := h
  have hm := length_octF x.2.2.1.toNat 4
  have hm2 := length_octF y.2.2.1.toNat 4
  obtain ⟨h3, h4⟩ := List.append_inj h2 (by unfold modeF; rw [hm, hm2])
  simp only [List.cons.injEq, true_and] at h4
  have px := mayF_parts hx
  have py := mayF_parts hy
  have hmode : x.2.2.1 = y.2.2.1 := by
    have := octF4_inj (n := x.2.2.1.toNat) (m := y.2.2.1.toNat) (by omega) (by omega) h3
    omega
  have hkind : x.2.1 = y.2.1 := by
    unfold headC at h1
    rcases kind_cases hx with a | a | a <;> rcases kind_cases hy with b | b | b <;> rw [a, b] at h1 ⊢ <;> revert h1 <;> decide
  have hpt : x.1 = y.1 ∧ tailF x = tailF y := by
    rcases tailF_form x with a | ⟨t, a⟩ <;> rcases tailF_form y with b | ⟨u, b⟩
    · rw [a, b, List.append_nil, List.append_nil] at h4
      exact ⟨hexF_inj h4, by rw [a, b]⟩
    · rw [a, b, List.append_nil] at h4
      exact absurd (by rw [h4]; simp) (hexF_no x.1).1
    · rw [a, b, List.append_nil] at h4
      exact absurd (by rw [← h4]; simp) (hexF_no y.1).1
    · rw [a, b] at h4
      obtain ⟨q1, q2⟩ := cut_at (hexF_no x.1).1 (hexF_no y.1).1 h4
      exact ⟨hexF_inj q1, by rw [a, b, q2]⟩
  obtain ⟨hp, ht⟩ := hpt
  have kx := px.2.2.2
  have ky := py.2.2.2
  unfold kindF at kx ky
  unfold tailF at ht
  obtain ⟨x1, x2, x3, x4, x5, x6⟩ := x
  obtain ⟨y1, y2, y3, y4, y5, y6⟩ := y
  dsimp only at hp hkind hmode ht kx ky hd
  subst hp hkind hmode
  rcases kind_cases hx with k | k | k
  · dsimp only at k
    subst k
    simp only [if_true, decide_eq_true_eq, List.cons.injEq, true_and] at kx ky ht
    rcases hd with hd | hd
    · rw [hd, kx.1, ky.1]
    · exact absurd ht hd
  · dsimp only at k
    subst k
    simp at kx ky
    rw [kx.1, kx.2, ky.1, ky.2]
  · dsimp only at k
    subst k
    simp at kx ky ht
    rw [kx.1, ky.1, hexF_inj ht]

theorem textF_inj : ∀ {l m : List Nd}, (∀ x ∈ l, mayF x = true) → (∀ x ∈ m, mayF x = true) → (∀ (i : Nat) (x y : Nd), l[i]? = some x → m[i]? = some y → x.2.2.2.1 = y.2.2.2.1 ∨ dgst x.2.2.2.1 ≠ dgst y.2.2.2.1) → textF l = textF m → l = m := by
  intro l
  induction l with
  | nil =>
    intro m _ _ _ h
    cases m with
    | nil => rfl
    | cons y m => simp [textF, lineF] at h
  | cons x l ih =>
    intro m hl hm hd h
    cases m with
    | nil => simp [textF, lineF] at h
    | cons y m =>
      unfold textF at h
      rw [List.flatMap_cons, List.flatMap_cons, lineF_body, lineF_body, List.append_assoc, List.append_assoc] at h
      obtain ⟨h1, h2⟩ := cut_at (bodyF_no x) (bodyF_no y) h
      have e1 := bodyF_inj (hl x (by simp)) (hm y (by simp)) h1 (hd 0 x y rfl rfl)
      have e2 := ih (fun z hz => hl z (by simp [hz])) (fun z hz => hm z (by simp [hz])) (fun i a b ha hb => hd (i + 1) a b ha hb) h2
      rw [e1, e2]

theorem treeTells_val (l m : List Nd) : P_law14_TreeTells (l, (m, ())) = some (true, ()) := by
  unfold P_law14_TreeTells
  dsimp only
  obtain ⟨b1, f1, g1⟩ := few14_val l 20 20 rfl (by omega)
  obtain ⟨b2, f2, g2⟩ := few14_val m 20 20 rfl (by omega)
  rw [f1, obind_some, f2]
  simp only [obind_some]
  rw [show (sel (nt (nt b1)) (some (nt b2)) (some true) : Option Bool) = some (!(b1 && b2)) by cases b1 <;> cases b2 <;> rfl, obind_some]
  cases hb : (b1 && b2) with
  | false =>
    have : ∀ o : Option Bool, (sel (nt (!false)) o (some true) : Option Bool) = some true := fun o => rfl
    rw [this, obind_some]
    have : ∀ o : Option Bool, (sel (nt true) o (some true) : Option Bool) = some true := fun o => rfl
    rw [this, obind_some, sel_true, awake14]
    rfl
  | true =>
    rw [Bool.and_eq_true] at hb
    obtain ⟨rfl, rfl⟩ := hb
    have hl := (g1 rfl).2
    have hm := (g2 rfl).2
    obtain ⟨e, c1, c2⟩ := check_val' l hl
    obtain ⟨d, d1, d2⟩ := check_val' m hm
    rw [c1, d1]
    simp only [obind_some]
    have : ∀ o : Option Bool, (sel (nt (!true)) o (some true) : Option Bool) = o := fun o => rfl
    rw [this, obind_some]
    by_cases hv : Valid l ∧ Valid m
    · obtain rfl := c2.2 hv.1
      obtain rfl := d2.2 hv.2
      have : (sel (nt (nt (eqI 0 0))) (some (nt (eqI 0 0))) (some true) : Option Bool) = some false := rfl
      rw [this, obind_some, sel_false, same_val l m (by have := hl.1; omega), obind_some, ttext_val l hl hv.1, ttext_val m hm hv.2]
      simp only [obind_some]
      by_cases e : l = m
      · subst e
        rw [decide_eq_true rfl, sel_true, eqS_self, sel_true, awake14]
        rfl
      · rw [decide_eq_false e, sel_false]
        rcases srchTo (f := P_law14_TreeTells_L0 (l, (m, ()))) l m.length (fun i => ((false, (i, ())), ())) (fun i x => match m[i]? with | some y => !decide (x.2.2.2.1 = y.2.2.2.1) && decide (dgst x.2.2.2.1 = dgst y.2.2.2.1) | none => false) (fun i x => (1, ((true, ((i : Int), ())), ()))) (fun n => (0, ((false, ((n : Int), ())), ()))) (by have := hl.1; omega) (fun i x hx hi hm2 ha => by
            unfold P_law14_TreeTells_L0
            dsimp only
            obtain ⟨y, hy⟩ : ∃ y, m[i]? = some y := ⟨_, List.getElem?_eq_getElem hm2⟩
            rw [ltI_len_true hi, ltI_len_true hm2, sel_true, sel_true, idx_some' hx, obind_some, idx_some' hy, obind_some, obind_some, refOf_val _ (by have := (hl.at hx).2.2; omega), obind_some, obind_some, refOf_val _ (by have := (hm.at hy).2.2; omega), obind_some, ha, hy, awake14, obind_some, eqS_iff, eqS_iff]
            dsimp only
            by_cases h1 : x.2.2.2.1 = y.2.2.2.1
            · simp [h1, sel, nt]
            · by_cases h2 : dgst x.2.2.2.1 = dgst y.2.2.2.1
              · simp [h1, h2, sel, nt]
              · simp [h1, h2, sel, nt]) (by
            unfold P_law14_TreeTells_L0
            dsimp only
            have : sel (ltI ((min m.length l.length : Nat) : Int) (len l)) (ltI ((min m.length l.length : Nat) : Int) (len m)) false = false := by
              by_cases h : l.length ≤ m.length
              · rw [Nat.min_eq_right h, ltI_len_end, sel_false]
              · rw [Nat.min_eq_left (by omega), ltI_len_end]
                cases ltI ((m.length : Nat) : Int) (len l) <;> rfl
            rw [this, sel_false]) with ⟨i, x, hi, hx, hp, _, h⟩ | ⟨hn, h⟩
        · rw [h]; rfl
        · rw [h, obind_some, eqN_zero, sel_true]
          have hne : textF l ≠ textF m := fun ht => e (textF_inj hv.1.may hv.2.may (fun i x y hx hy => by
            have := hn i x (getElem?_lt hy) hx
            rw [hy] at this
            simp only [Bool.and_eq_false_iff, Bool.not_eq_false', decide_eq_true_eq, decide_eq_false_iff_not] at this
            exact this) ht)
          rw [eqS_false hne, nt_false, sel_true, awake14]
          rfl
    · have : (obind (sel (nt (nt (eqI e 0))) (some (nt (eqI d 0))) (some true)) : (Bool → Option (Bool × Unit)) → Option (Bool × Unit)) = obind (some true) := by
        have hh : (sel (nt (nt (eqI e 0))) (some (nt (eqI d 0))) (some true) : Option Bool) = some true := by
          by_cases h1 : e = 0
          · by_cases h2 : d = 0
            · exact absurd ⟨c2.1 h1, d2.1 h2⟩ hv
            · rw [show eqI d 0 = false by simp [eqI, h2]]
              cases nt (nt (eqI e 0)) <;> rfl
          · rw [show eqI e 0 = false by simp [eqI, h1]]; rfl
        rw [hh]
      rw [this, obind_some, sel_true, awake14]
      rfl
end Go.Ge
