/- The laws NamesAlone and NamesOf in plain words. -/
import Derived.Test.YtaiikfdelihadaaDoorGq17E
namespace Go.Ge
set_option linter.unusedVariables false
set_option linter.unusedSimpArgs false

/-- No two records have a name. -/
def Alone (l : List Nm) : Prop := ∀ (i k : Nat) (x y : Nm), l[i]? = some x → k < i → l[k]? = some y → ∀ s ∈ x.2.1, s ∉ y.2.1

/-- Does a record have a name of one that stands ahead of it? -/
def shares (l : List Nm) (x : Nm) (k : Nat) : Bool := match l[k]? with | some y => x.2.1.any (fun s => decide (s ∈ y.2.1)) | none => false

theorem alone_val (l : List Nm) (hl : Small l) : ∃ b, P_ref17_Alone (l, ()) = some (b, ()) ∧ (b = true ↔ Alone l) := by
  unfold P_ref17_Alone
  have in2 : ∀ (i k : Nat) (x y : Nm) (r : Bool), l[i]? = some x → l[k]? = some y →
      (x.2.1.any (fun s => decide (s ∈ y.2.1)) = true ∧ ∃ q, Loop (P_ref17_Alone_L2 (l, ()) ((r, ((i : Int), ())), ()) ((r, ((k : Int), ())), ())) ((r, ((0 : Int), ())), ()) = some (1, ((false, q), ()))) ∨
      (x.2.1.any (fun s => decide (s ∈ y.2.1)) = false ∧ ∃ q, Loop (P_ref17_Alone_L2 (l, ()) ((r, ((i : Int), ())), ()) ((r, ((k : Int), ())), ())) ((r, ((0 : Int), ())), ()) = some (0, ((r, q), ()))) := by
    intro i k x y r hx hy
    rcases srch (f := P_ref17_Alone_L2 (l, ()) ((r, ((i : Int), ())), ()) ((r, ((k : Int), ())), ())) x.2.1 (fun n => ((r, (n, ())), ())) (fun _ s => decide (s ∈ y.2.1)) (fun n s => (1, ((false, ((n : Int), ())), ()))) (0, ((r, (len x.2.1, ())), ())) (hl.2 x (mem_at.2 ⟨i, hx⟩)) (fun n s hs hn ha => by
        unfold P_ref17_Alone_L2
        dsimp only
        rw [idx_some' hx, obind_some, ltI_len_true hn, sel_true, idx_some' hy, obind_some, obind_some, idx_some' hs, obind_some, ref17_has_val _ _ (hl.2 y (mem_at.2 ⟨k, hy⟩)), obind_some, sel_if, ha]
        by_cases h : s ∈ y.2.1 <;> simp [h]) (by
        unfold P_ref17_Alone_L2
        dsimp only
        rw [idx_some' hx, obind_some, ltI_len_end, sel_false]; rfl) with ⟨n, s, hs, hp, hj, h⟩ | ⟨hn, h⟩
    · exact .inl ⟨List.any_eq_true.2 ⟨s, mem_at.2 ⟨n, hs⟩, hp⟩, _, h⟩
    · refine .inr ⟨?_, _, h⟩
      rw [List.any_eq_false]
      intro s hs
      obtain ⟨n, hi⟩ := mem_at.1 hs
      rw [hn n s hi]; simp
  have in1 : ∀ (i : Nat) (x : Nm) (r : Bool), l[i]? = some x →
      ((∃ k y, k < i ∧ l[k]? = some y ∧ x.2.1.any (fun s => decide (s ∈ y.2.1)) = true) ∧ ∃ q, Loop (P_ref17_Alone_L1 (l, ()) ((r, ((i : Int), ())), ())) ((r, ((0 : Int), ())), ()) = some (1, ((false, q), ()))) ∨
      ((∀ k y, k < i → l[k]? = some y → x.2.1.any (fun s => decide (s ∈ y.2.1)) = false) ∧ ∃ q, Loop (P_ref17_Alone_L1 (l, ()) ((r, ((i : Int), ())), ())) ((r, ((0 : Int), ())), ()) = some (0, ((r, q), ()))) := by
    intro i x r hx
    have hi := getElem?_lt hx
    have hmin : min i l.length = i := by omega
    rcases srchTo (f := P_ref17_Alone_L1 (l, ()) ((r, ((i : Int), ())), ())) l i (fun k => ((r, (k, ())), ())) (fun k y => x.2.1.any (fun s => decide (s ∈ y.2.1))) (fun k y => (1, ((false, ((k : Int), ())), ()))) (fun n => (0, ((r, ((n : Int), ())), ()))) (by have := hl.1; omega) (fun k y hy hk hki ha => by
        unfold P_ref17_Alone_L1
        dsimp only
        rw [ltI_true (show (k : Int) < (i : Int) by omega), sel_true]
        rcases in2 i k x y r hx hy with ⟨h1, q, h⟩ | ⟨h1, q, h⟩
        · rw [h, obind_some, h1]; dsimp only; rw [eqN_one, sel_false]; rfl
        · rw [h, obind_some, h1, ha]; dsimp only; rw [eqN_zero, sel_true]; rfl) (by
        unfold P_ref17_Alone_L1
        dsimp only
        rw [hmin, ltI_false (Int.le_refl _), sel_false]) with ⟨k, y, hki, hy, hp, _, h⟩ | ⟨hn, h⟩
    · exact .inl ⟨⟨k, y, hki, hy, hp⟩, _, h⟩
    · exact .inr ⟨hn, _, h⟩
  let bad : Nat → Nm → Bool := fun i x => (List.range i).any (shares l x)
  have hbad : ∀ i x, bad i x = true ↔ ∃ k y, k < i ∧ l[k]? = some y ∧ x.2.1.any (fun s => decide (s ∈ y.2.1)) = true := by
    intro i x
    rw [show bad i x = (List.range i).any (shares l x) from rfl, List.any_eq_true]
    constructor
    · rintro ⟨k, hk, h⟩
      unfold shares at h
      split at h
      · rename_i y hy; exact ⟨k, y, List.mem_range.1 hk, hy, h⟩
      · cases h
    · rintro ⟨k, y, hk, hy, h⟩
      exact ⟨k, List.mem_range.2 hk, by unfold shares; rw [hy]; exact h⟩
  rcases srch (f := P_ref17_Alone_L0 (l, ())) l (fun i => ((false, (i, ())), ())) bad (fun i x => (1, ((false, ((i : Int), ())), ()))) (0, ((false, (len l, ())), ())) hl.1 (fun i x hx hi ha => by
      unfold P_ref17_Alone_L0
      dsimp only
      rw [ltI_len_true hi, sel_true]
      rcases in1 i x false hx with ⟨h1, q, h⟩ | ⟨h1, q, h⟩
      · rw [h, obind_some, (hbad i x).2 h1]; rfl
      · have : bad i x = false := by
          rw [← Bool.not_eq_true, hbad]
          rintro ⟨k, y, hk, hy, h⟩
          rw [h1 k y hk hy] at h; cases h
        rw [h, obind_some, this, ha]; rfl) (by unfold P_ref17_Alone_L0; dsimp only; rw [ltI_len_end, sel_false]; rfl) with ⟨i, x, hx, hp, hj, h⟩ | ⟨hn, h⟩
  · rw [h]
    refine ⟨false, rfl, (fun h => by cases h), fun ha => ?_⟩
    exfalso
    obtain ⟨k, y, hk, hy, h⟩ := (hbad i x).1 hp
    obtain ⟨s, hs, hs2⟩ := List.any_eq_true.1 h
    exact ha i k x y hx hk hy s hs (of_decide_eq_true hs2)
  · rw [h]
    refine ⟨true, rfl, fun _ => ?_, fun _ => rfl⟩
    intro i k x y hx hk hy s hs hs2
    have := hn i x hx
    rw [← Bool.not_eq_true, hbad] at this
    exact this ⟨k, y, hk, hy, List.any_eq_true.2 ⟨s, hs, decide_eq_true hs2⟩⟩

theorem Alone.ne {l : List Nm} (h : Alone l) {i k : Nat} {x y : Nm} (hx : l[i]? = some x) (hy : l[k]? = some y) {s : Tx} (h1 : s ∈ x.2.1) (h2 : s ∈ y.2.1) : i = k := by
  rcases Nat.lt_trichotomy i k with q | q | q
  · exact (h k i y x hy q hx s h2 h1).elim
  · exact q
  · exact (h i k x y hx q hy s h1 h2).elim

theorem ownerI_of {l : List Nm} (ha : Alone l) {i : Nat} {x : Nm} (hx : l[i]? = some x) {s : Tx} (hs : s ∈ x.2.1) : ownerI l s = (x.1, (true, ())) :=
  ownerI_at hx (decide_eq_true hs) fun j y hj hy => decide_eq_false fun h => by have := ha.ne hx hy hs h; omega

theorem findI_some {l : List Nm} {id : Tx} {k : Nat} (h : findI l id = k) : ∃ x, l[k]? = some x ∧ x.1 = id := by
  unfold findI at h
  split at h
  · rename_i i hi
    have : i = k := by omega
    subst this
    rw [List.findIdx?_eq_some_iff_getElem] at hi
    obtain ⟨h1, h2, _⟩ := hi
    exact ⟨l[i], List.getElem?_eq_getElem h1, of_decide_eq_true h2⟩
  · omega

/-- What is so of records one of which has other names. -/
theorem setI_ok {l : List Nm} {id : Tx} {given : List Tx} (ha : Alone l) (h0 : (setI l id given).2.1 = 0) : ∃ k x, l[k]? = some x ∧ x.1 = id ∧ (setI l id given).1 = l.set k (id, (given, ())) ∧ Alone (l.set k (id, (given, ()))) := by
  unfold setI at h0 ⊢
  split at h0
  · contradiction
  · rename_i hc
    rw [if_neg hc]
    split at h0
    · cases h0
    · rename_i hf
      rw [if_neg hf]
      split at h0
      · contradiction
      · rename_i hq
        rw [if_neg hq]
        rcases findI_range (l := l) (id := id) with h | ⟨k, h, hk⟩
        · omega
        · obtain ⟨x, hx, hid⟩ := findI_some h
          refine ⟨k, x, hx, hid, by rw [h]; rfl, ?_⟩
          have hclash : clashB l given k = false := by
            have hq' : freeI l id given = 0 := Decidable.not_not.1 hq
            unfold freeI at hq'
            rw [if_neg hc, h] at hq'
            cases hb : clashB l given k with
            | false => rfl
            | true => rw [hb] at hq'; cases hq'
          have hno : ∀ (i : Nat) (y : Nm), l[i]? = some y → i ≠ k → ∀ s ∈ y.2.1, s ∉ given := by
            intro i y hy hik s hs hg
            have : clashB l given k = true := clash_iff.2 ⟨i, y, hy, by
              unfold hitF
              simp only [Bool.and_eq_true, decide_eq_true_eq, List.any_eq_true]
              exact ⟨by omega, s, hs, hg⟩⟩
            rw [hclash] at this; cases this
          intro i j y z hy hji hz s hs1 hs2
          have hset : ∀ n, (l.set k (id, (given, ())))[n]? = if k = n then some (id, (given, ())) else l[n]? := fun n => by
            by_cases e : k = n
            · subst e; rw [List.getElem?_set_self hk, if_pos rfl]
            · rw [List.getElem?_set_ne e, if_neg e]
          rw [hset] at hy hz
          by_cases e1 : k = i
          · rw [if_pos e1] at hy
            obtain rfl := Option.some.inj hy
            rw [if_neg (by omega)] at hz
            exact hno j z hz (by omega) s hs2 hs1
          · rw [if_neg e1] at hy
            by_cases e2 : k = j
            · rw [if_pos e2] at hz
              obtain rfl := Option.some.inj hz
              exact hno i y hy (by omega) s hs1 hs2
            · rw [if_neg e2] at hz
              exact ha i j y z hy hji hz s hs1 hs2

theorem namesAlone_val (l : List Nm) (id : Tx) (given : List Tx) : P_law17_NamesAlone (l, (id, (given, ()))) = some (true, ()) := by
  unfold P_law17_NamesAlone
  dsimp only
  obtain ⟨b1, h1, hb1⟩ := few_val l
  obtain ⟨b2, h2, hb2⟩ := fewTexts_val given
  rw [h1, obind_some, h2, obind_some, awake17, obind_some]
  dsimp only
  cases b1 with
  | false => rfl
  | true =>
    have hl := hb1 rfl
    rw [nt_true, nt_false, sel_true]
    cases hc : ltI 100 (len id) with
    | true => rfl
    | false =>
      rw [nt_false, sel_true, obind_some]
      cases b2 with
      | false => rfl
      | true =>
        have hg := hb2 rfl
        have hs := hl.small
        obtain ⟨b3, h3, hb3⟩ := alone_val l hs
        rw [nt_true, nt_false, sel_true, h3, obind_some, obind_some]
        dsimp only
        cases b3 with
        | false => rfl
        | true =>
          have ha := hb3.1 rfl
          rw [nt_true, sel_false]
          -- ids of one record alone
          have in1 : ∀ (i : Nat) (x : Nm) (r : Bool), l[i]? = some x →
              (∃ q, Loop (P_law17_NamesAlone_L1 (l, (id, (given, ()))) ((r, ((i : Int), ())), ())) ((r, ((0 : Int), ())), ()) = some (1, ((true, q), ()))) ∨
              (∃ q, Loop (P_law17_NamesAlone_L1 (l, (id, (given, ()))) ((r, ((i : Int), ())), ())) ((r, ((0 : Int), ())), ()) = some (0, ((r, q), ()))) := by
            intro i x r hx
            have hi := getElem?_lt hx
            have hmin : min i l.length = i := by omega
            rcases srchTo (f := P_law17_NamesAlone_L1 (l, (id, (given, ()))) ((r, ((i : Int), ())), ())) l i (fun k => ((r, (k, ())), ())) (fun k y => decide (x.1 = y.1)) (fun k y => (1, ((true, ((k : Int), ())), ()))) (fun n => (0, ((r, ((n : Int), ())), ()))) (by have := hs.1; omega) (fun k y hy hk hki hadd => by
                unfold P_law17_NamesAlone_L1
                dsimp only
                rw [ltI_true (show (k : Int) < (i : Int) by omega), sel_true, idx_some' hx, obind_some, idx_some' hy, obind_some, sel_if, awake17, obind_some, hadd]
                by_cases h : x.1 = y.1 <;> simp [eqS, h]) (by
                unfold P_law17_NamesAlone_L1
                dsimp only
                rw [hmin, ltI_false (Int.le_refl _), sel_false]) with ⟨k, y, hki, hy, hp, _, h⟩ | ⟨hn, h⟩
            · exact .inl ⟨_, h⟩
            · exact .inr ⟨_, h⟩
          have hL0 : (∃ q, Loop (P_law17_NamesAlone_L0 (l, (id, (given, ())))) ((false, ((0 : Int), ())), ()) = some (1, ((true, q), ()))) ∨ ∃ q, Loop (P_law17_NamesAlone_L0 (l, (id, (given, ())))) ((false, ((0 : Int), ())), ()) = some (0, ((false, q), ())) := by
            let hit : Nat → Nm → Bool := fun i x => match Loop (P_law17_NamesAlone_L1 (l, (id, (given, ()))) ((false, ((i : Int), ())), ())) ((false, ((0 : Int), ())), ()) with | some (1, _) => true | _ => false
            rcases srch (f := P_law17_NamesAlone_L0 (l, (id, (given, ())))) l (fun i => ((false, (i, ())), ())) hit (fun i x => (1, ((true, ((i : Int), ())), ()))) (0, ((false, (len l, ())), ())) hs.1 (fun i x hx hi hadd => by
                unfold P_law17_NamesAlone_L0
                dsimp only
                rw [ltI_len_true hi, sel_true]
                rcases in1 i x false hx with ⟨q, h⟩ | ⟨q, h⟩
                · have : hit i x = true := by simp only [hit, h]
                  rw [h, obind_some, this]; rfl
                · have : hit i x = false := by simp only [hit, h]
                  rw [h, obind_some, this, hadd]; rfl) (by unfold P_law17_NamesAlone_L0; dsimp only; rw [ltI_len_end, sel_false]; rfl) with ⟨i, x, hx, hp, hj, h⟩ | ⟨hn, h⟩
            · exact .inl ⟨_, h⟩
            · exact .inr ⟨_, h⟩
          rcases hL0 with ⟨q, h⟩ | ⟨q, h⟩
          · rw [h, obind_some]; rfl
          · rw [h, obind_some]
            dsimp only
            rw [eqN_zero, sel_true, names_set_val l id given hs hg.small, obind_some]
            by_cases he : (setI l id given).2.1 = 0
            · obtain ⟨k, x0, hx0, hid, hm, hal⟩ := setI_ok ha he
              have hk := getElem?_lt hx0
              have hmk : (l.set k (id, (given, ())))[k]? = some (id, (given, ())) := by rw [List.getElem?_set_self hk]
              have hsm : Small (l.set k (id, (given, ()))) := set_small hs hg.small
              obtain ⟨b4, h4, hb4⟩ := alone_val _ hsm
              obtain rfl : b4 = true := hb4.2 hal
              rw [he, eqI_self, nt_true, sel_false]
              generalize hS : setI l id given = S at hm
              obtain ⟨m, e, u⟩ := S
              dsimp only at hm
              subst hm
              rcases srch (f := P_law17_NamesAlone_L2 (l, (id, (given, ()))) (l.set k (id, (given, ())), (e, u))) given (fun i => ((false, (i, ())), ())) (fun _ _ => false) (fun i x => (1, ((false, ((i : Int), ())), ()))) (0, ((false, (len given, ())), ())) hg.small (fun i s hsi hi hadd => by
                  unfold P_law17_NamesAlone_L2
                  dsimp only
                  rw [ltI_len_true hi, sel_true, idx_some' hsi, obind_some, names_owner_val _ s hsm, ownerI_of hal hmk (mem_at.2 ⟨i, hsi⟩), obind_some, eqS_self, hadd]
                  rfl) (by unfold P_law17_NamesAlone_L2; dsimp only; rw [ltI_len_end, sel_false]; rfl) with ⟨i, s, hx, hp, hj, h⟩ | ⟨hn, h⟩
              · cases hp
              · rw [h, obind_some]
                dsimp only
                rw [eqN_zero, sel_true]
                have in4 : ∀ (i : Nat) (x : Nm) (r : Bool), l[i]? = some x → ∃ q, Loop (P_law17_NamesAlone_L4 (l, (id, (given, ()))) (l.set k (id, (given, ())), (e, u)) ((r, ((i : Int), ())), ())) ((r, ((0 : Int), ())), ()) = some (0, ((r, q), ())) := by
                  intro i x r hx
                  rcases srch (f := P_law17_NamesAlone_L4 (l, (id, (given, ()))) (l.set k (id, (given, ())), (e, u)) ((r, ((i : Int), ())), ())) x.2.1 (fun n => ((r, (n, ())), ())) (fun _ _ => false) (fun n s => (1, ((false, ((n : Int), ())), ()))) (0, ((r, (len x.2.1, ())), ())) (hs.2 x (mem_at.2 ⟨i, hx⟩)) (fun n s hsn hn hadd => by
                      unfold P_law17_NamesAlone_L4
                      dsimp only
                      rw [idx_some' hx, obind_some, ltI_len_true hn, sel_true, obind_some, idx_some' hsn, obind_some, names_owner_val _ s hsm, obind_some, obind_some]
                      by_cases hxid : x.1 = id
                      · rw [eqS_true hxid, nt_true, sel_false, obind_some, sel_false, hadd]; rfl
                      · have hik : k ≠ i := fun e => hxid (by subst e; rw [hx0] at hx; rw [← Option.some.inj hx]; exact hid)
                        have hmi : (l.set k (id, (given, ())))[i]? = some x := by rw [List.getElem?_set_ne hik]; exact hx
                        rw [ownerI_of hal hmi (mem_at.2 ⟨n, hsn⟩), eqS_false hxid, nt_false, sel_true, obind_some, obind_some, eqS_self, hadd]
                        rfl) (by
                      unfold P_law17_NamesAlone_L4
                      dsimp only
                      rw [idx_some' hx, obind_some, ltI_len_end, sel_false]; rfl) with ⟨n, s, hx, hp, hj, h⟩ | ⟨hn, h⟩
                  · cases hp
                  · exact ⟨_, h⟩
                rcases srch (f := P_law17_NamesAlone_L3 (l, (id, (given, ()))) (l.set k (id, (given, ())), (e, u))) l (fun i => ((false, (i, ())), ())) (fun _ _ => false) (fun i x => (1, ((false, ((i : Int), ())), ()))) (0, ((false, (len l, ())), ())) hs.1 (fun i x hx hi hadd => by
                    unfold P_law17_NamesAlone_L3
                    dsimp only
                    obtain ⟨q, h⟩ := in4 i x false hx
                    rw [ltI_len_true hi, sel_true, h, obind_some, hadd]
                    rfl) (by unfold P_law17_NamesAlone_L3; dsimp only; rw [ltI_len_end, sel_false]; rfl) with ⟨i, s, hx, hp, hj, h⟩ | ⟨hn, h⟩
                · cases hp
                · rw [h, obind_some]
                  dsimp only
                  rw [eqN_zero, sel_true, h4, obind_some, eqI_lens, List.length_set]
                  simp [sel, obind]
            · rw [eqI_false he, nt_false, sel_true]
              have hne : (setI l id given).1 = [] := by
                unfold setI at he ⊢
                split
                · rfl
                · rename_i hc
                  rw [if_neg hc] at he
                  split
                  · rfl
                  · rename_i hf
                    rw [if_neg hf] at he
                    split
                    · rfl
                    · rename_i hq
                      rw [if_neg hq] at he
                      exact absurd rfl he
              rw [hne]
              rfl
end Go.Ge
