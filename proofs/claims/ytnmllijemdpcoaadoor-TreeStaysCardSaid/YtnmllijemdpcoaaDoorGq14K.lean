/- What is put into a tree leaves a tree; the law TreeStays: in plain words. -/
import Derived.Test.YtnmllijemdpcoaaDoorGp14
import Derived.Test.YtnmllijemdpcoaaDoorGq14I
namespace Go.Ge
set_option linter.unusedVariables false
set_option linter.unusedSimpArgs false

theorem insF_cons (a : Nd) (r : List Nd) (n : Nd) : insF (a :: r) n = if cmp a n.1 < 0 then a :: insF r n else n :: a :: r := by
  unfold insF
  by_cases h : cmp a n.1 < 0
  · rw [if_pos h, List.takeWhile_cons, List.dropWhile_cons]
    simp [h]
  · rw [if_neg h, List.takeWhile_cons, List.dropWhile_cons]
    simp [h]
theorem mem_insF {r : List Nd} {n x : Nd} : x ∈ insF r n ↔ x = n ∨ x ∈ r := by
  induction r with
  | nil => simp [insF]
  | cons a r ih =>
    rw [insF_cons]
    split
    · rw [List.mem_cons, ih, List.mem_cons]
      constructor
      · rintro (h | h | h)
        · exact .inr (.inl h)
        · exact .inl h
        · exact .inr (.inr h)
      · rintro (h | h | h)
        · exact .inr (.inl h)
        · exact .inl h
        · exact .inr (.inr h)
    · rw [List.mem_cons]
theorem insF_len (r : List Nd) (n : Nd) : (insF r n).length = r.length + 1 := by
  unfold insF
  rw [List.length_append, List.length_cons, ← Nat.add_assoc, ← List.length_append, List.takeWhile_append_dropWhile]

theorem ord_pairs {l : List Nd} : Ord l ↔ l.Pairwise fun x y => cmpL (key x) (key y) < 0 := by
  constructor
  · intro h
    rw [List.pairwise_iff_getElem]
    intro i j hi hj hij
    exact h i j _ _ hij (List.getElem?_eq_getElem hi) (List.getElem?_eq_getElem hj)
  · intro h i j x y hij hx hy
    rw [List.pairwise_iff_getElem] at h
    obtain ⟨h1, h2⟩ := List.getElem?_eq_some_iff.1 hx
    obtain ⟨h3, h4⟩ := List.getElem?_eq_some_iff.1 hy
    rw [← h2, ← h4]
    exact h i j h1 h3 hij

theorem insF_ord {r : List Nd} {n : Nd} (hr : Ord r) (hn : ∀ x ∈ r, x.1 ≠ n.1) : Ord (insF r n) := by
  rw [ord_pairs] at hr ⊢
  induction r with
  | nil => simp [insF]
  | cons a r ih =>
    rw [List.pairwise_cons] at hr
    rw [insF_cons]
    split
    · rename_i h
      refine List.pairwise_cons.2 ⟨fun y hy => ?_, ih hr.2 fun x hx => hn x (by simp [hx])⟩
      rcases mem_insF.1 hy with rfl | hy
      · exact h
      · exact hr.1 y hy
    · rename_i h
      have ha : cmpL (key n) (key a) < 0 := by
        have h1 : cmp a n.1 ≠ 0 := fun e => hn a (by simp) (cmp_zero e)
        have h2 : cmpL (key n) (key a) = - cmpL (key a) (key n) := cmpL_neg _ _
        have h3 : cmp a n.1 = cmpL (key a) (key n) := rfl
        omega
      refine List.pairwise_cons.2 ⟨fun y hy => ?_, List.pairwise_cons.2 hr⟩
      rcases List.mem_cons.1 hy with rfl | hy
      · exact ha
      · exact cmpL_trans ha (hr.1 y hy)

theorem under_up {x y : Nd} {p : List UInt8} (hu : (splitF x.1).1 ≠ []) (e : y.1 = (splitF x.1).1) (h : underL (parts y.1) (parts p) = true) : underL (parts x.1) (parts p) = true := by
  have hk := parent_key hu
  rw [← e] at hk
  unfold underL at h ⊢
  obtain ⟨h1, h2⟩ := of_decide_eq_true h
  refine decide_eq_true ⟨?_, ?_⟩
  · rw [hk, List.length_append]; omega
  · rw [hk, List.take_append_of_le_length (by omega), h2]
theorem under_self {x : Nd} (hu : (splitF x.1).1 ≠ []) : underL (parts x.1) (parts (splitF x.1).1) = true := by
  have hk := parent_key hu
  unfold underL
  refine decide_eq_true ⟨?_, ?_⟩
  · rw [hk, List.length_append]; simp
  · rw [hk]; simp

/-- What is left of a tree once a node is put into it. -/
def PutRest (l : List Nd) (n : Nd) (r : List Nd) : Prop :=
  (((∃ x ∈ l, x.1 = n.1 ∧ x.2.1 = 2) ∧ n.2.1 = 2) ∧ r = l.filter (fun x => !decide (x.1 = n.1))) ∨ ((¬ ((∃ x ∈ l, x.1 = n.1 ∧ x.2.1 = 2) ∧ n.2.1 = 2)) ∧ r = restF l n.1)

theorem putF_cases (l : List Nd) (n : Nd) : ((putF l n).1 = [] ∧ (putF l n).2 ≠ 0) ∨
    (Valid l ∧ mayF n = true ∧ ((splitF n.1).1 = [] ∨ ∃ x ∈ l, x.1 = (splitF n.1).1 ∧ x.2.1 = 2) ∧ ∃ r, PutRest l n r ∧ r.length < 64 ∧ putF l n = (insF r n, 0)) := by
  unfold putF
  by_cases h1 : ¬ Valid l ∨ mayF n = false
  · rw [if_pos h1]; exact .inl ⟨rfl, by decide⟩
  · rw [if_neg h1]
    by_cases h2 : (splitF n.1).1 ≠ [] ∧ ∀ x ∈ l, x.1 ≠ (splitF n.1).1
    · rw [if_pos h2]; exact .inl ⟨rfl, by decide⟩
    · rw [if_neg h2]
      by_cases h3 : (splitF n.1).1 ≠ [] ∧ ∀ x ∈ l, x.1 = (splitF n.1).1 → x.2.1 ≠ 2
      · rw [if_pos h3]; exact .inl ⟨rfl, by decide⟩
      · rw [if_neg h3]
        have hv : Valid l := Classical.byContradiction fun h => h1 (.inl h)
        have hm : mayF n = true := by
          cases h : mayF n with
          | true => rfl
          | false => exact absurd (.inr h) h1
        have hu : (splitF n.1).1 = [] ∨ ∃ x ∈ l, x.1 = (splitF n.1).1 ∧ x.2.1 = 2 := by
          by_cases h0 : (splitF n.1).1 = []
          · exact .inl h0
          · right
            refine Classical.byContradiction fun h => h3 ⟨h0, fun x hx e h2 => h ⟨x, hx, e, h2⟩⟩
        by_cases h4 : (∃ x ∈ l, x.1 = n.1 ∧ x.2.1 = 2) ∧ n.2.1 = 2
        · simp only [if_pos h4]
          by_cases h5 : 64 ≤ (l.filter fun x => !decide (x.1 = n.1)).length
          · rw [if_pos h5]; exact .inl ⟨rfl, by decide⟩
          · rw [if_neg h5]
            exact .inr ⟨hv, hm, hu, _, .inl ⟨h4, rfl⟩, by omega, rfl⟩
        · simp only [if_neg h4]
          by_cases h5 : 64 ≤ (restF l n.1).length
          · rw [if_pos h5]; exact .inl ⟨rfl, by decide⟩
          · rw [if_neg h5]
            exact .inr ⟨hv, hm, hu, _, .inr ⟨h4, rfl⟩, by omega, rfl⟩

theorem PutRest.sub {l r : List Nd} {n : Nd} (h : PutRest l n r) : (∀ x ∈ r, x ∈ l ∧ x.1 ≠ n.1) ∧ ∃ P, r = l.filter P := by
  rcases h with ⟨_, rfl⟩ | ⟨_, rfl⟩
  · refine ⟨fun x hx => ?_, _, rfl⟩
    have := List.mem_filter.1 hx
    simpa using this
  · refine ⟨fun x hx => ?_, _, rfl⟩
    have := List.mem_filter.1 hx
    unfold gone at this
    simp at this
    exact ⟨this.1, this.2.1⟩

/-- A tree stays a tree. -/
theorem put_valid {l r : List Nd} {n : Nd} (hv : Valid l) (hm : mayF n = true) (hu : (splitF n.1).1 = [] ∨ ∃ x ∈ l, x.1 = (splitF n.1).1 ∧ x.2.1 = 2) (hr : PutRest l n r) (h64 : r.length < 64) : Valid (insF r n) := by
  obtain ⟨hsub, P, hP⟩ := hr.sub
  have ho : Ord r := by rw [hP]; exact hv.ord.filter P
  refine ⟨by rw [insF_len]; omega, insF_ord ho fun x hx => (hsub x hx).2, fun x hx => ?_, fun x hx => ?_⟩
  · rcases mem_insF.1 hx with rfl | hx
    · exact hm
    · exact hv.may x (hsub x hx).1
  · rcases mem_insF.1 hx with rfl | hx
    · -- the node's own directory
      rcases hu with h | ⟨y, hy, hy1, hy2⟩
      · exact .inl h
      · by_cases h0 : (splitF x.1).1 = []
        · exact .inl h0
        · right
          refine ⟨y, mem_insF.2 (.inr ?_), hy1, hy2⟩
          have hself := under_self h0
          rw [← hy1] at hself
          have hlen : (parts y.1).length < (parts x.1).length := by
            unfold underL at hself
            exact (of_decide_eq_true hself).1
          have hne : y.1 ≠ x.1 := fun e => by rw [e] at hlen; omega
          have hnu : underL (parts y.1) (parts x.1) = false := by
            unfold underL
            exact decide_eq_false fun h => by omega
          rcases hr with ⟨_, rfl⟩ | ⟨_, rfl⟩
          · exact List.mem_filter.2 ⟨hy, by simp [hne]⟩
          · exact List.mem_filter.2 ⟨hy, by unfold gone; simp [hne, hnu]⟩
    · rcases hv.up x (hsub x hx).1 with h | ⟨y, hy, hy1, hy2⟩
      · exact .inl h
      · by_cases h0 : (splitF x.1).1 = []
        · exact .inl h0
        · right
          have hself := under_self h0
          by_cases e : y.1 = n.1
          · rcases hr with ⟨h4, rfl⟩ | ⟨_, rfl⟩
            · exact ⟨n, mem_insF.2 (.inl rfl), by rw [← e, hy1], h4.2⟩
            · have := (List.mem_filter.1 hx).2
              rw [← hy1, e] at hself
              unfold gone at this
              rw [hself] at this
              simp at this
          · refine ⟨y, mem_insF.2 (.inr ?_), hy1, hy2⟩
            rcases hr with ⟨_, rfl⟩ | ⟨_, rfl⟩
            · exact List.mem_filter.2 ⟨hy, by simp [e]⟩
            · refine List.mem_filter.2 ⟨hy, ?_⟩
              have hx2 := (List.mem_filter.1 hx).2
              unfold gone at hx2 ⊢
              cases hun : underL (parts y.1) (parts n.1) with
              | false => simp [e]
              | true =>
                rw [under_up h0 hy1 hun] at hx2
                simp at hx2

theorem put_small {l r : List Nd} {n : Nd} (hl : SmL l) (hn : Sm n) (hr : PutRest l n r) (h64 : r.length < 64) : SmL (insF r n) := by
  obtain ⟨hsub, _⟩ := hr.sub
  refine ⟨by rw [insF_len]; omega, fun x hx => ?_⟩
  rcases mem_insF.1 hx with rfl | hx
  · exact hn
  · exact hl.2 x (hsub x hx).1

theorem stays_inner (t r : List Nd) (n : Nd) (b : Bool) (hv : Valid t) (hl : SmL t) (hn : Sm n) (hr : PutRest t n r) (hv2 : Valid (insF r n)) (hl2 : SmL (insF r n)) (i0 : Int) :
    Loop (P_law14_TreeStays_L1 ((b, (t, (i0, ()))), ()) (insF r n, (0, ())) (n, (true, ())) (findF t n.1)) ((false, (0, ())), ()) = some (0, ((false, ((t.length : Int), ())), ())) := by
  obtain ⟨hsub, P, hP⟩ := hr.sub
  have hK : sel (sel (findF t n.1).2.1 (eqI (findF t n.1).1.2.1 2) false) (eqI n.2.1 2) false = true ↔ ((∃ x ∈ t, x.1 = n.1 ∧ x.2.1 = 2) ∧ n.2.1 = 2) := by
    by_cases h : ∃ x ∈ t, x.1 = n.1
    · obtain ⟨x, hx, e⟩ := h
      rw [find_some' hv.ord hx e]
      dsimp only
      rw [sel_true, sel_and, Bool.and_eq_true]
      unfold eqI
      rw [decide_eq_true_eq, decide_eq_true_eq]
      refine ⟨fun h => ⟨⟨x, hx, e, h.1⟩, h.2⟩, fun ⟨⟨y, hy, e2, hy2⟩, h2⟩ => ?_⟩
      have := hv.ord.uniq hx hy (by rw [e, e2])
      subst this
      exact ⟨hy2, h2⟩
    · rw [find_none' (fun x hx e => h ⟨x, hx, e⟩)]
      refine ⟨fun h => (by cases h), fun ⟨⟨x, hx, e, _⟩, _⟩ => absurd ⟨x, hx, e⟩ h⟩
  rcases srch (f := P_law14_TreeStays_L1 ((b, (t, (i0, ()))), ()) (insF r n, (0, ())) (n, (true, ())) (findF t n.1)) t (fun i => ((false, (i, ())), ())) (fun _ _ => false) (fun i x => (1, ((false, ((i : Int), ())), ()))) ((0 : Nat), ((false, ((t.length : Int), ())), ())) (by have := hl.1; omega) (fun i y hy hi ha => by
      unfold P_law14_TreeStays_L1
      dsimp only
      have hym := List.mem_of_getElem? hy
      have hys := hl.at hy
      rw [ltI_len_true hi, sel_true, idx_some' hy, obind_some, refUnder_val _ _ (by have := hys.1; omega) (by have := hn.1; omega), obind_some, obind_some, tfind_val _ _ hl2 (by have := hys.1; omega) hv2]
      simp only [obind_some, ha]
      by_cases e : y.1 = n.1
      · rw [eqS_true e, nt_true, sel_false]; rfl
      · rw [eqS_false e, nt_false, sel_true]
        have found : y ∈ r → findF (insF r n) y.1 = (y, (true, ())) := fun h => find_some' hv2.ord (mem_insF.2 (.inr h)) rfl
        have same : an (eqS y.1 y.1) (an (eqI y.2.1 y.2.1) (an (eqI y.2.2.1 y.2.2.1) (an (eqS y.2.2.2.1 y.2.2.2.1) (an (eqS y.2.2.2.2.1 y.2.2.2.2.1) true)))) = true := by
          rw [eqS_self, eqS_self, eqS_self, eqI_self, eqI_self]; rfl
        cases hun : underL (parts y.1) (parts n.1) with
        | false =>
          have hyr : y ∈ r := by
            rcases hr with ⟨_, rfl⟩ | ⟨_, rfl⟩
            · exact List.mem_filter.2 ⟨hym, by simp [e]⟩
            · exact List.mem_filter.2 ⟨hym, by unfold gone; simp [e, hun]⟩
          rw [found hyr]
          dsimp only
          rw [same]
          rfl
        | true =>
          rw [nt_true, sel_false]
          by_cases h4 : (∃ x ∈ t, x.1 = n.1 ∧ x.2.1 = 2) ∧ n.2.1 = 2
          · have hyr : y ∈ r := by
              rcases hr with ⟨_, rfl⟩ | ⟨h5, _⟩
              · exact List.mem_filter.2 ⟨hym, by simp [e]⟩
              · exact absurd h4 h5
            rw [found hyr, hK.2 h4]
            dsimp only
            rw [same]
            rfl
          · have hk : sel (sel (findF t n.1).2.1 (eqI (findF t n.1).1.2.1 2) false) (eqI n.2.1 2) false = false := by
              cases h : sel (sel (findF t n.1).2.1 (eqI (findF t n.1).1.2.1 2) false) (eqI n.2.1 2) false with
              | false => rfl
              | true => exact absurd (hK.1 h) h4
            have hno : findF (insF r n) y.1 = (zeroN, (false, ())) := find_none' fun z hz ez => by
              rcases mem_insF.1 hz with rfl | hz
              · exact e ez.symm
              · have := hv.ord.uniq (hsub z hz).1 hym ez
                subst this
                rcases hr with ⟨h5, _⟩ | ⟨_, rfl⟩
                · exact h4 h5
                · have := (List.mem_filter.1 hz).2
                  unfold gone at this
                  rw [hun] at this
                  simp at this
            rw [hno, hk]
            rfl) (by
      unfold P_law14_TreeStays_L1
      dsimp only
      rw [ltI_len_end, sel_false]) with ⟨i, x, _, hp, _⟩ | ⟨_, h⟩
  · cases hp
  · exact h

theorem treeStays_val (l : List Nd) : P_law14_TreeStays (l, ()) = some (true, ()) := by
  unfold P_law14_TreeStays
  dsimp only
  obtain ⟨b1, f1, g1⟩ := few14_val l 20 20 rfl (by omega)
  rw [f1, obind_some]
  dsimp only
  cases b1 with
  | false => rw [nt_false, sel_true, awake14]; rfl
  | true =>
    rw [nt_true, sel_false]
    have hl := (g1 rfl).2
    obtain ⟨t, _, ht, _⟩ := fold_loop (f := P_law14_TreeStays_L0 (l, ())) l (fun (t : List Nd) i => ((false, (t, (i, ()))), ())) (fun t _ x => if (putF t x).2 = 0 then (putF t x).1 else t) (fun t => ((0 : Nat), ((false, (t, ((l.length : Int), ()))), ()))) (fun t _ => Valid t ∧ SmL t) (by have := hl.1; omega) (fun t i x hx hi ha hI => by
        obtain ⟨hv, hs⟩ := hI
        have hxs := hl.at hx
        have hx1 := hxs.1
        unfold P_law14_TreeStays_L0
        dsimp only
        rw [ltI_len_true hi, sel_true, idx_some' hx, obind_some, put_val t x hs hxs, obind_some, ha]
        dsimp only
        rcases putF_cases t x with ⟨h1, h2⟩ | ⟨_, hm, hu, r, hr, h64, hp⟩
        · rw [if_neg h2, show eqI (putF t x).2 0 = false by simp [eqI, h2], nt_false, sel_true, h1]
          exact ⟨rfl, hv, hs⟩
        · have hv2 := put_valid hv hm hu hr h64
          have hs2 := put_small hs hxs hr h64
          obtain ⟨c, c1, c2⟩ := check_val' _ hs2
          obtain rfl := c2.2 hv2
          rw [hp, if_pos rfl]
          dsimp only
          rw [show nt (eqI 0 0) = false by rfl, sel_false, obind_some, tfind_val _ _ hs2 (by omega) hv2, obind_some, obind_some, tfind_val _ _ hs (by omega) hv, obind_some, find_some' hv2.ord (mem_insF.2 (.inl rfl)) rfl]
          dsimp only
          rw [nt_true, sel_false, obind_some, eqS_self, eqS_self, eqS_self, eqI_self, eqI_self, c1, obind_some, stays_inner t r x false hv hs hxs hr hv2 hs2]
          exact ⟨rfl, hv2, hs2⟩) (fun t _ => by
        unfold P_law14_TreeStays_L0
        dsimp only
        rw [ltI_len_end, sel_false]) [] ⟨validB_valid valid1.1, sm0⟩
    rw [ht, obind_some, eqN_zero, sel_true, awake14]
    rfl
end Go.Ge
