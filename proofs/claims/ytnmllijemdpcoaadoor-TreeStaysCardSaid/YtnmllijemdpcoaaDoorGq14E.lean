/- A node put into a tree: in plain words. -/
import Derived.Test.YtnmllijemdpcoaaDoorGq14D
namespace Go.Ge
set_option linter.unusedVariables false
set_option linter.unusedSimpArgs false

open Classical in
/-- A node put into a tree. -/
noncomputable def putF (l : List Nd) (n : Nd) : List Nd × Int :=
  if ¬ Valid l ∨ mayF n = false then ([], 1) else
  if (splitF n.1).1 ≠ [] ∧ ∀ x ∈ l, x.1 ≠ (splitF n.1).1 then ([], 3) else
  if (splitF n.1).1 ≠ [] ∧ ∀ x ∈ l, x.1 = (splitF n.1).1 → x.2.1 ≠ 2 then ([], 12) else
  let r := if (∃ x ∈ l, x.1 = n.1 ∧ x.2.1 = 2) ∧ n.2.1 = 2 then l.filter (fun x => !decide (x.1 = n.1)) else restF l n.1
  if 64 ≤ r.length then ([], 5) else (insF r n, 0)

theorem ins_val (l : List Nd) (k : Nat) (n : Nd) (hk : k ≤ l.length) (hl : l.length ≤ 4096) : P_slices_Insert_api_TreeNode_api_TreeNode l ((k : Int), ([n], ())) = some (l.take k ++ [n] ++ l.drop k) := by
  unfold P_slices_Insert_api_TreeNode_api_TreeNode insL
  dsimp only
  have h1 : inside 0 (k : Int) (len l) = true := inside_len (a := 0) (Nat.zero_le _) hk
  rw [h1, fits_len2 (by simp; omega)]
  simp

/-- Too many, or laid in. -/
theorem tail_val (r : List Nd) (n : Nd) (hr : SmL r) (ho : Ord r) (hn : n.1.length ≤ 200) (c : Int) (hc : c = r.length) :
    sel (leI 64 c) (some (([] : List Nd), ((5 : Int), ()))) (obind (P_tree_place (r, (n.1, ()))) fun (y : Int × Bool × Unit) => obind (P_slices_Insert_api_TreeNode_api_TreeNode r (y.1, ([n], ()))) fun z => some (z, ((0 : Int), ()))) =
      some (if 64 ≤ r.length then ([], (5, ())) else (insF r n, (0, ()))) := by
  subst hc
  rw [leI_dec]
  by_cases h : 64 ≤ r.length
  · rw [decide_eq_true (by omega), sel_true, if_pos h]
  · rw [decide_eq_false (by omega), sel_false, if_neg h]
    obtain ⟨k, b, h1, h2, h3, h4⟩ := place_val r n.1 hr (by omega)
    rw [h1, obind_some]
    dsimp only
    rw [ins_val r k n h2 hr.1, obind_some, insF_at (h4 ho)]

theorem gone_val (x : Nd) (p : List UInt8) (hx : x.1.length ≤ 200) (hp : p.length ≤ 200) : sel (nt (eqS x.1 p)) (obind (P_paths_Under (x.1, (p, ()))) (fun (y : Bool × Unit) => some y.1)) (some true) = some (gone p x) := by
  rw [under_val _ _ (by omega) (by omega), obind_some, eqS_iff]
  unfold gone
  cases decide (x.1 = p) <;> rfl

theorem put_loop0 (l : List Nd) (n : Nd) (hl : SmL l) (hn : n.1.length ≤ 200) : (∃ i x, l[i]? = some x ∧ gone n.1 x = true ∧ (∀ (j : Nat) y, j < i → l[j]? = some y → gone n.1 y = false) ∧ Loop (P_tree_Put_L0 (l, (n, ()))) ((0, (0, ())), ((), ())) = some (1, (((i : Int), ((i : Int), ())), ((), ())))) ∨
    ((∀ (i : Nat) x, l[i]? = some x → gone n.1 x = false) ∧ Loop (P_tree_Put_L0 (l, (n, ()))) ((0, (0, ())), ((), ())) = some (0, ((0, ((l.length : Int), ())), ((), ())))) :=
  srch (f := P_tree_Put_L0 (l, (n, ()))) l (fun i => ((0, (i, ())), ((), ()))) (fun _ x => gone n.1 x) (fun i x => (1, (((i : Int), ((i : Int), ())), ((), ())))) (0, ((0, ((l.length : Int), ())), ((), ()))) (by have := hl.1; omega) (fun i x hx hi ha => by
      unfold P_tree_Put_L0
      dsimp only
      rw [ltI_len_true hi, sel_true, within_true (by omega) (by unfold len; omega), sel_true, idx_some' hx, obind_some, gone_val _ _ (hl.at hx).1 hn, obind_some, ha]
      cases gone n.1 x <;> rfl) (by unfold P_tree_Put_L0; dsimp only; rw [ltI_len_end, sel_false])

theorem put_loop2 (l : List Nd) (n : Nd) (hl : SmL l) (hn : n.1.length ≤ 200) (i : Nat) (x : Nd) (hx : l[i]? = some x) (hg : gone n.1 x = true) (hb : ∀ (j : Nat) y, j < i → l[j]? = some y → gone n.1 y = false) :
    ∃ (w : Nat) (L : List Nd), Loop (P_tree_Put_L2 (l, (n, ()))) (((i : Int), (iadd IntKind.i64 (i : Int) 1, ((), ()))), ((), (l, ()))) = some (((w : Int), ((l.length : Int), ((), ()))), ((), (L, ()))) ∧ L.length = l.length ∧ w ≤ l.length ∧ L.take w = restF l n.1 := by
  have hi := getElem?_lt hx
  have h4 := hl.1
  have hfl : l.take i = (l.take (i + 1)).filter (fun x => !gone n.1 x) := by
    rw [List.take_add_one, hx, List.filter_append]
    have h1 : (l.take i).filter (fun x => !gone n.1 x) = l.take i := List.filter_eq_self.2 fun y hy => by
      obtain ⟨j, hj⟩ := mem_at.1 hy
      rw [List.getElem?_take] at hj
      split at hj
      · rw [hb j y (by omega) hj]; rfl
      · cases hj
    rw [h1]
    simp [hg]
  obtain ⟨w, L, h1, h2, h3, h5⟩ := del_loop (f := P_tree_Put_L2 (l, (n, ()))) l (gone n.1) (fun w j L => ((w, (j, ((), ()))), ((), (L, ())))) (fun w L => ((w, ((L.length : Int), ((), ()))), ((), (L, ())))) (by omega) (fun w j L x hx hxL hw hj ha hb => by
      unfold P_tree_Put_L2
      dsimp only
      have hwL : w < L.length := by omega
      obtain ⟨z, hz⟩ : ∃ z, L[w]? = some z := ⟨_, List.getElem?_eq_getElem hwL⟩
      rw [ltI_len_true hj, sel_true, within_true (by omega) (by unfold len; omega), sel_true, idx_some' hxL, obind_some, gone_val _ _ (hl.at hx).1 hn, obind_some, hb]
      cases gone n.1 x with
      | true => rfl
      | false =>
        rw [nt_false, sel_true, within_true (by omega) (by unfold len; omega), sel_true, idx_some' hz, obind_some, obind_some, obind_some, obind_some, ha, lset_nat]
        rfl) (fun w L => by
      unfold P_tree_Put_L2
      dsimp only
      rw [ltI_len_end, sel_false]
      rfl) l.length i (i + 1) l (by omega) (by omega) (by omega) rfl hfl rfl
  refine ⟨w, L, ?_, h2, h3, h5⟩
  rw [iadd_one (by omega), h1, h2]

/-- What is left once one goes, and its place. -/
theorem same_dir {l : List Nd} (ho : Ord l) {n x : Nd} {k : Nat} (hx : l[k]? = some x) (e : x.1 = n.1) : l.filter (fun x => !decide (x.1 = n.1)) = l.take k ++ l.drop (k + 1) ∧ insF (l.take k ++ l.drop (k + 1)) n = l.take k ++ [n] ++ l.drop (k + 1) := by
  have hk := getElem?_lt hx
  have hkx : key x = parts n.1 := by unfold key; rw [e]
  have hlo : ∀ (j : Nat) (y : Nd), j < k → l[j]? = some y → cmp y n.1 < 0 := fun j y hj hy => by
    have := ho j k y x hj hy hx
    rw [hkx] at this; exact this
  have hhi : ∀ (j : Nat) (y : Nd), k < j → l[j]? = some y → ¬ cmp y n.1 < 0 := fun j y hj hy hc => by
    have := ho k j x y hj hx hy
    rw [hkx] at this
    have := cmpL_trans this hc
    rw [cmpL_self] at this; omega
  have htl : (l.take k).length = k := by rw [List.length_take]; omega
  constructor
  · refine filter_one hx (by rw [decide_eq_true e]; rfl) fun j y hj hy => ?_
    rw [decide_eq_false]; rfl
    intro e2
    have h0 := cmp_same e2
    rcases Nat.lt_or_ge j k with g | g
    · have := hlo j y g hy; omega
    · have hne : key x = key y := by rw [hkx]; unfold key; rw [e2]
      have := ho k j x y (by omega) hx hy
      rw [hne, cmpL_self] at this; omega
  · obtain ⟨h1, h2⟩ := takeWhile_eq (l := l.take k ++ l.drop (k + 1)) (k := k) (P := fun x => decide (cmp x n.1 < 0)) (by rw [List.length_append, htl]; omega) (fun j y hj hy => by
        rw [List.getElem?_append_left (by omega), List.getElem?_take, if_pos hj] at hy
        exact decide_eq_true (hlo j y hj hy)) (fun y hy => by
        rw [List.getElem?_append_right (by omega), htl, Nat.sub_self, List.getElem?_drop] at hy
        exact decide_eq_false (hhi _ y (by omega) hy))
    unfold insF
    rw [h1, h2, List.take_left' htl, List.drop_left' htl]
    simp

theorem set_split {α : Type} {l : List α} {k : Nat} (hk : k < l.length) (n : α) : l.set k n = l.take k ++ [n] ++ l.drop (k + 1) := by
  rw [List.set_eq_take_append_cons_drop, if_pos hk]
  simp

theorem put_val (l : List Nd) (n : Nd) (hl : SmL l) (hn : Sm n) : P_tree_Put (l, (n, ())) = some ((putF l n).1, ((putF l n).2, ())) := by
  obtain ⟨e, c1, c2⟩ := check_val' l hl
  have hn1 := hn.1
  unfold P_tree_Put
  dsimp only
  rw [c1, obind_some, tis_val n (by omega), obind_some]
  dsimp only
  by_cases hvm : ¬ Valid l ∨ mayF n = false
  · have hp : putF l n = ([], 1) := by unfold putF; rw [if_pos hvm]
    rw [hp]
    have : sel (nt (nt (eqI e 0))) (some (nt (mayF n))) (some true) = some true := by
      rcases hvm with h | h
      · rw [show eqI e 0 = false by unfold eqI; exact decide_eq_false fun h0 => h (c2.1 h0)]; rfl
      · rw [h]; cases nt (nt (eqI e 0)) <;> rfl
    rw [this, obind_some, sel_true]
  · have hv : Valid l := by
      by_cases h : Valid l
      · exact h
      · exact absurd (.inl h) hvm
    have hm : mayF n = true := by
      cases h : mayF n with
      | true => rfl
      | false => exact absurd (.inr h) hvm
    obtain rfl := c2.2 hv
    rw [hm]
    have : sel (nt (nt (eqI 0 0))) (some (nt true)) (some true) = some false := rfl
    rw [this, obind_some, sel_false, psplit_val _ (by omega), obind_some]
    dsimp only
    obtain ⟨d, d1, d2⟩ := dir_val l (splitF n.1).1 hl (by have := splitF_len n.1; omega)
    rw [d1, obind_some]
    dsimp only
    by_cases hg : (¬ ((splitF n.1).1 ≠ [] ∧ ∀ x ∈ l, x.1 ≠ (splitF n.1).1)) ∧ (¬ ((splitF n.1).1 ≠ [] ∧ ∀ x ∈ l, x.1 = (splitF n.1).1 → x.2.1 ≠ 2)) ∧ d = 0
    · obtain ⟨g1, g2, hd0⟩ := hg
      subst hd0
      have hp : putF l n = (let r := if (∃ x ∈ l, x.1 = n.1 ∧ x.2.1 = 2) ∧ n.2.1 = 2 then l.filter (fun x => !decide (x.1 = n.1)) else restF l n.1
          if 64 ≤ r.length then ([], 5) else (insF r n, 0)) := by
        unfold putF; rw [if_neg hvm, if_neg g1, if_neg g2]
      rw [show nt (eqI 0 0) = false by rfl, sel_false]
      obtain ⟨k, b, p1, p2, p3, p4⟩ := place_val l n.1 hl (by omega)
      have hpl := p4 hv.ord
      rw [p1, obind_some]
      dsimp only
      obtain ⟨y6, e6, s6⟩ : ∃ y6, sel b (obind (idx l (k : Int)) (fun (y : Nd) => some (eqI y.2.1 2))) (some false) = some y6 ∧ (sel y6 (eqI n.2.1 2) false = true ↔ ((∃ x ∈ l, x.1 = n.1 ∧ x.2.1 = 2) ∧ n.2.1 = 2)) := by
        cases b with
        | false =>
          refine ⟨false, rfl, ?_⟩
          rw [sel_false]
          exact ⟨fun h => (by cases h), fun ⟨⟨x, hx, e, _⟩, _⟩ => absurd e (hpl.no rfl x hx)⟩
        | true =>
          obtain ⟨x, hx, e⟩ := hpl.is rfl
          refine ⟨eqI x.2.1 2, by rw [sel_true, idx_some' hx, obind_some], ?_⟩
          rw [sel_and, Bool.and_eq_true]
          unfold eqI
          rw [decide_eq_true_eq, decide_eq_true_eq]
          refine ⟨fun h => ⟨⟨x, List.mem_of_getElem? hx, e, h.1⟩, h.2⟩, fun ⟨⟨y, hy, e2, hy2⟩, h2⟩ => ?_⟩
          have := hv.ord.uniq (List.mem_of_getElem? hx) hy (by rw [e, e2])
          subst this
          exact ⟨hy2, h2⟩
      rw [e6, obind_some]
      by_cases hno : (∃ x ∈ l, x.1 = n.1 ∧ x.2.1 = 2) ∧ n.2.1 = 2
      · rw [s6.2 hno, sel_true]
        have hb : b = true := by
          cases b with
          | true => rfl
          | false => obtain ⟨⟨x, hx, e, _⟩, _⟩ := hno; exact absurd e (hpl.no rfl x hx)
        obtain ⟨x, hx, e⟩ := hpl.is hb
        have hk := getElem?_lt hx
        rw [fits_len (by have := hl.1; omega), sel_true, within_true (by omega) (by unfold len; omega), sel_true, idx_some' hx, obind_some, obind_some, obind_some, lset_nat]
        obtain ⟨s1, s2⟩ := same_dir hv.ord hx e
        have hfew := hv.few
        rw [if_pos hno, s1] at hp
        have h64 : ¬ 64 ≤ (l.take k ++ l.drop (k + 1)).length := by simp; omega
        rw [hp]
        simp only [h64, if_false]
        rw [s2, set_split hk]
      · have hs : sel y6 (eqI n.2.1 2) false = false := by
          cases h : sel y6 (eqI n.2.1 2) false with
          | false => rfl
          | true => exact absurd (s6.1 h) hno
        rw [if_neg hno] at hp
        rw [hs, sel_false, obind_some]
        dsimp only
        rw [show nt (eqI 0 0) = false by rfl, sel_false, fits_len (by have := hl.1; omega), sel_true]
        rcases put_loop0 l n hl hn1 with ⟨i, x, hx, hg, hb, h⟩ | ⟨hb, h⟩
        · obtain ⟨w, L, w1, w2, w3, w4⟩ := put_loop2 l n hl hn1 i x hx hg hb
          rw [h, obind_some]
          dsimp only
          rw [eqN_one, sel_false, show eqI (i : Int) (-1) = false by unfold eqI; exact decide_eq_false (by omega), sel_false, w1, obind_some]
          dsimp only
          rw [inside_true (by omega) (by unfold len; omega) (Int.le_refl _), sel_true, len_over L w (by omega), inside_true (Int.le_refl _) (by omega) (by omega), sel_true, sub_over L w (by omega), w4]
          have hlen : (restF l n.1).length = w := by rw [← w4, List.length_take]; omega
          refine Eq.trans (tail_val (restF l n.1) n (hl.filter _) (hv.ord.filter _) hn1 (minus (w : Int) 0) (by rw [hlen]; unfold minus; omega)) ?_
          rw [hp]
          by_cases h64 : 64 ≤ (restF l n.1).length
          · rw [if_pos h64]; simp only [h64, if_true]
          · rw [if_neg h64]; simp only [h64, if_false]
        · have hr : restF l n.1 = l := List.filter_eq_self.2 fun x hx => by
            obtain ⟨j, hj⟩ := mem_at.1 hx
            rw [hb j x hj]; rfl
          rw [hr] at hp
          rw [h, obind_some]
          dsimp only
          rw [eqN_zero, sel_true, show eqI (-1) (-1) = true by rfl, sel_true]
          have tv := tail_val l n hl hv.ord hn1 (len l) rfl
          rw [p1] at tv
          refine Eq.trans tv ?_
          rw [hp]
          by_cases h64 : 64 ≤ l.length
          · rw [if_pos h64]; simp only [h64, if_true]
          · rw [if_neg h64]; simp only [h64, if_false]
    · rcases d2 hv.ord with ⟨h0, hd⟩ | ⟨h0, ⟨hno, hd⟩ | ⟨x, hx, hx1, ⟨hx2, hd⟩ | ⟨hx2, hd⟩⟩⟩
      · exact absurd ⟨fun h => h.1 h0, fun h => h.1 h0, hd⟩ hg
      · subst hd
        have hp : putF l n = ([], 3) := by unfold putF; rw [if_neg hvm, if_pos ⟨h0, hno⟩]
        rw [hp]; rfl
      · exact absurd ⟨fun h => h.2 x hx hx1, fun h => h.2 x hx hx1 hx2, hd⟩ hg
      · subst hd
        have hp : putF l n = ([], 12) := by
          unfold putF
          rw [if_neg hvm, if_neg (fun h => h.2 x hx hx1), if_pos ⟨h0, fun y hy e => by
            have := hv.ord.uniq hx hy (by rw [hx1, e])
            subst this
            exact hx2⟩]
        rw [hp]; rfl
end Go.Ge
