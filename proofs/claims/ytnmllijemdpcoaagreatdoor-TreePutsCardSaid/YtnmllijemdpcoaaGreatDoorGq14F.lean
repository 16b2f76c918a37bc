/- The reference's Put: in plain words. -/
import Derived.Test.YtnmllijemdpcoaaGreatDoorGq14E
namespace Go.Ge
set_option linter.unusedVariables false
set_option linter.unusedSimpArgs false

/-- What the reference leaves. -/
def withoutF (l : List Nd) (p : List UInt8) (b : Bool) : List Nd := l.filter fun x => !underL (parts x.1) (parts p) && (!b || !decide (x.1 = p))

theorem without_val (l : List Nd) (p : List UInt8) (b : Bool) (hl : SmL l) (hp : p.length ≤ 4096) : P_ref14_without (l, (p, (b, ()))) = some (withoutF l p b, ()) := by
  unfold P_ref14_without
  have hb := hl.1
  have hfm : ∀ m : List Nd, m.flatMap (fun x => if (!underL (parts x.1) (parts p) && (!b || !decide (x.1 = p))) = true then [x] else []) = withoutF m p b := by
    intro m
    unfold withoutF
    induction m with
    | nil => rfl
    | cons a r ih =>
      rw [List.flatMap_cons, ih, List.filter_cons]
      split <;> simp
  have h := fold_app (f := P_ref14_without_L0 (l, (p, (b, ())))) l (fun a i => (((), (i, ())), (a, ()))) (fun x => if (!underL (parts x.1) (parts p) && (!b || !decide (x.1 = p))) = true then [x] else []) (((), ((l.length : Int), ())), (withoutF l p b, ())) (by omega) (fun i x hx hi ha => by
      unfold P_ref14_without_L0
      dsimp only
      have hlen : ((l.take i).flatMap fun x => if (!underL (parts x.1) (parts p) && (!b || !decide (x.1 = p))) = true then [x] else []).length ≤ 4096 := by
        rw [hfm]
        unfold withoutF
        refine Nat.le_trans (List.length_filter_le _ _) ?_
        rw [List.length_take]; omega
      rw [ltI_len_true hi, sel_true, idx_some' hx, obind_some, refUnder_val _ _ (by have := (hl.at hx).1; omega) hp, obind_some, obind_some, obind_some, ha, fits_len2 (by simp only [List.length_singleton]; omega)]
      dsimp only
      rw [eqS_iff]
      cases underL (parts x.1) (parts p) <;> cases b <;> cases decide (x.1 = p) <;> simp [sel, nt, obind, way1, app]) (by
      unfold P_ref14_without_L0
      dsimp only
      rw [ltI_len_end, sel_false, hfm]
      rfl)
  have h' : Loop (P_ref14_without_L0 (l, (p, (b, ())))) (((), ((0 : Int), ())), (([] : List Nd), ())) = some (((), ((l.length : Int), ())), (withoutF l p b, ())) := h
  rw [h', obind_some]

theorem withoutF_true (l : List Nd) (p : List UInt8) : withoutF l p true = restF l p := by
  unfold withoutF restF
  congr 1
  funext x
  unfold gone
  cases underL (parts x.1) (parts p) <;> cases decide (x.1 = p) <;> rfl

theorem refPut_loop (l r : List Nd) (n : Nd) (hr : SmL r) (hn : n.1.length ≤ 200) : ∃ k : Nat, k ≤ r.length ∧ Loop (P_ref14_Put_L0 (l, (n, ())) ((r, ()), ())) (((0 : Int), ()), ()) = some (((k : Int), ()), ()) ∧ insF r n = r.take k ++ [n] ++ r.drop k := by
  have hb := hr.1
  rcases srch (f := P_ref14_Put_L0 (l, (n, ())) ((r, ()), ())) r (fun i => ((i, ()), ())) (fun _ x => !decide (cmp x n.1 < 0)) (fun i _ => (((i : Int), ()), ())) (((r.length : Int), ()), ()) (by omega) (fun i x hx hi ha => by
      unfold P_ref14_Put_L0
      dsimp only
      rw [ltI_len_true hi, sel_true, idx_some' hx, obind_some, refCompare_val _ _ (by have := (hr.at hx).1; omega) (by omega), obind_some, ha]
      dsimp only
      unfold cmp ltI
      cases decide (cmpL (parts x.1) (parts n.1) < 0) <;> rfl) (by
      unfold P_ref14_Put_L0
      dsimp only
      rw [ltI_len_end, sel_false]
      rfl) with ⟨i, x, hx, hp, hj, h⟩ | ⟨hn, h⟩
  · refine ⟨i, by have := getElem?_lt hx; omega, h, ?_⟩
    obtain ⟨h1, h2⟩ := takeWhile_eq (l := r) (k := i) (P := fun x => decide (cmp x n.1 < 0)) (by have := getElem?_lt hx; omega) (fun j y hji hy => by
      have := hj j y hji hy
      simpa using this) (fun y hy => by
      rw [hx] at hy
      obtain rfl := Option.some.inj hy
      simpa using hp)
    unfold insF
    rw [h1, h2]; simp
  · refine ⟨r.length, Nat.le_refl _, h, ?_⟩
    obtain ⟨h1, h2⟩ := takeWhile_eq (l := r) (k := r.length) (P := fun x => decide (cmp x n.1 < 0)) (Nat.le_refl _) (fun j y hji hy => by
      have := hn j y hy
      simpa using this) (fun y hy => by
      have := getElem?_lt hy; omega)
    unfold insF
    rw [h1, h2]; simp

/-- Too many, or laid in. -/
theorem refTail_val (l r : List Nd) (n : Nd) (hr : SmL r) (hn : n.1.length ≤ 200) :
    sel (leI 64 (len r)) (some (([] : List Nd), ((5 : Int), ()))) (obind (Loop (P_ref14_Put_L0 (l, (n, ())) ((r, ()), ())) (((0 : Int), ()), ())) fun (y9 : (Int × Unit) × Unit) => sel (inside 0 y9.1.1 (len r))
      (sel (fits (plus (len ([] : List Nd)) (len (sub r 0 (minus y9.1.1 0)))))
      (sel (fits (plus (len (app ([] : List Nd) (sub r 0 (minus y9.1.1 0)))) (len [n])))
      (sel (inside y9.1.1 (len r) (len r))
      (sel (fits (plus (len (app (app ([] : List Nd) (sub r 0 (minus y9.1.1 0))) [n])) (len (sub r y9.1.1 (minus (len r) y9.1.1)))))
      (some (app (app (app ([] : List Nd) (sub r 0 (minus y9.1.1 0))) [n]) (sub r y9.1.1 (minus (len r) y9.1.1)), ((0 : Int), ())))
      none) none) none) none) none) = some (if 64 ≤ r.length then ([], (5, ())) else (insF r n, (0, ()))) := by
  have hb := hr.1
  rw [leI_dec]
  by_cases h : 64 ≤ r.length
  · rw [decide_eq_true (by unfold len; omega), sel_true, if_pos h]
  · rw [decide_eq_false (by unfold len; omega), sel_false, if_neg h]
    obtain ⟨k, k1, k2, k3⟩ := refPut_loop l r n hr hn
    rw [k2, obind_some]
    dsimp only
    have i1 : inside 0 (k : Int) (len r) = true := inside_len (a := 0) (Nat.zero_le _) k1
    have i2 : inside (k : Int) (len r) (len r) = true := inside_true (by omega) (by unfold len; omega) (Int.le_refl _)
    rw [i1, sel_true, sub_take, sub_drop r k k1, i2]
    have f1 : fits (plus (len ([] : List Nd)) (len (r.take k))) = true := fits_len2 (by rw [List.length_take]; simp; omega)
    have f2 : fits (plus (len (app ([] : List Nd) (r.take k))) (len [n])) = true := fits_len2 (by rw [app_eq, List.nil_append, List.length_take]; simp; omega)
    have f3 : fits (plus (len (app (app ([] : List Nd) (r.take k)) [n])) (len (r.drop k))) = true := fits_len2 (by rw [app_eq, app_eq, List.nil_append, List.length_append, List.length_take, List.length_drop]; simp; omega)
    rw [f1, f2, f3, sel_true, sel_true, sel_true, sel_true, k3]
    rfl

theorem refPut_val (l : List Nd) (n : Nd) (hl : SmL l) (hn : Sm n) : P_ref14_Put (l, (n, ())) = some ((putF l n).1, ((putF l n).2, ())) := by
  obtain ⟨e, c1, c2⟩ := isTree_val l hl
  have hn1 := hn.1
  have hb := hl.1
  unfold P_ref14_Put
  dsimp only
  rw [c1, obind_some, may_val n (by omega) (by have := hn.2.1; omega), obind_some]
  dsimp only
  by_cases hvm : ¬ Valid l ∨ mayF n = false
  · have hp : putF l n = ([], 1) := by unfold putF; rw [if_pos hvm]
    rw [hp]
    have : sel (nt (nt e)) (some (nt (mayF n))) (some true) = some true := by
      rcases hvm with h | h
      · rw [show e = false by
          cases e with
          | false => rfl
          | true => exact absurd (c2.1 rfl) h]
        rfl
      · rw [h]; cases nt (nt e) <;> rfl
    rw [this, obind_some, sel_true]
  · have hv : Valid l := by
      by_cases h : Valid l
      · exact h
      · exact absurd (.inl h) hvm
    have hm : mayF n = true := by
      cases h : mayF n with
      | true => rfl
      | false => exact absurd (.inr h) hvm
    obtain rfl := c2.2 hv
    rw [hm]
    have : sel (nt (nt true)) (some (nt true)) (some true) = some false := rfl
    rw [this, obind_some, sel_false, refSplit_val _ (by omega), obind_some]
    dsimp only
    -- is there a directory
    obtain ⟨y4, e4, s4⟩ : ∃ y4, sel (nt (eqS (splitF n.1).1 [])) (obind (P_ref14_find (l, ((splitF n.1).1, ()))) (fun (y : Int × Unit) => some (ltI y.1 0))) (some false) = some y4 ∧ (y4 = true ↔ ((splitF n.1).1 ≠ [] ∧ ∀ x ∈ l, x.1 ≠ (splitF n.1).1)) := by
      by_cases h0 : (splitF n.1).1 = []
      · refine ⟨false, by rw [h0]; rfl, fun h => (by cases h), fun h => absurd h0 h.1⟩
      · rw [eqS_false h0, nt_false, sel_true]
        rcases find_val l (splitF n.1).1 hl with ⟨i, x, hx, hxp, h⟩ | ⟨hno, h⟩
        · refine ⟨false, by rw [h, obind_some, ltI_false (by omega)], fun h => (by cases h), fun h => absurd hxp (h.2 x (List.mem_of_getElem? hx))⟩
        · exact ⟨true, by rw [h, obind_some]; rfl, fun _ => ⟨h0, hno⟩, fun _ => rfl⟩
    rw [e4, obind_some]
    by_cases g1 : (splitF n.1).1 ≠ [] ∧ ∀ x ∈ l, x.1 ≠ (splitF n.1).1
    · have hp : putF l n = ([], 3) := by unfold putF; rw [if_neg hvm, if_pos g1]
      rw [s4.2 g1, hp]; rfl
    · have : y4 = false := by
        cases y4 with
        | false => rfl
        | true => exact absurd (s4.1 rfl) g1
      rw [this, sel_false]
      obtain ⟨d, d1, d2, d3⟩ := refDir_val l (splitF n.1).1 hl
      rw [d1, obind_some]
      dsimp only
      by_cases g2 : (splitF n.1).1 ≠ [] ∧ ∀ x ∈ l, x.1 = (splitF n.1).1 → x.2.1 ≠ 2
      · have hp : putF l n = ([], 12) := by unfold putF; rw [if_neg hvm, if_neg g1, if_pos g2]
        have : d = false := by
          cases d with
          | false => rfl
          | true =>
            rcases d2 rfl with h | ⟨x, hx, hx1, hx2⟩
            · exact absurd h g2.1
            · exact absurd hx2 (g2.2 x hx hx1)
        rw [this, hp]; rfl
      · have : d = true := by
          cases d with
          | true => rfl
          | false => exact absurd (d3 hv.ord rfl) g2
        rw [this, show nt true = false by rfl, sel_false]
        have hp : putF l n = (let r := if (∃ x ∈ l, x.1 = n.1 ∧ x.2.1 = 2) ∧ n.2.1 = 2 then l.filter (fun x => !decide (x.1 = n.1)) else restF l n.1
            if 64 ≤ r.length then ([], 5) else (insF r n, 0)) := by
          unfold putF; rw [if_neg hvm, if_neg g1, if_neg g2]
        rcases find_val l n.1 hl with ⟨i, x, hx, hxp, h⟩ | ⟨hno, h⟩
        · have hi := getElem?_lt hx
          have hmem := List.mem_of_getElem? hx
          rw [h, obind_some]
          dsimp only
          rw [leI_true (by omega), sel_true, idx_some' hx, obind_some, obind_some]
          by_cases hbo : x.2.1 = 2 ∧ n.2.1 = 2
          · obtain ⟨s1, s2⟩ := same_dir hv.ord hx hxp
            rw [if_pos (show ((∃ x ∈ l, x.1 = n.1 ∧ x.2.1 = 2) ∧ n.2.1 = 2) from ⟨⟨x, hmem, hxp, hbo.1⟩, hbo.2⟩), s1] at hp
            have i1 : inside 0 (i : Int) (len l) = true := inside_len (a := 0) (Nat.zero_le _) (by omega)
            have i2 : inside ((i + 1 : Nat) : Int) (len l) (len l) = true := inside_true (by omega) (by unfold len; omega) (Int.le_refl _)
            rw [eqI_true hbo.1, eqI_true hbo.2, sel_true, sel_true, i1, sel_true, sub_take, iadd_one (by omega), i2, sub_drop l (i + 1) (by omega)]
            have f1 : fits (plus (len ([] : List Nd)) (len (l.take i))) = true := fits_len2 (by rw [List.length_take]; simp; omega)
            have f2 : fits (plus (len (app ([] : List Nd) (l.take i))) (len (l.drop (i + 1)))) = true := fits_len2 (by rw [app_eq, List.nil_append, List.length_take, List.length_drop]; omega)
            rw [f1, f2, sel_true, sel_true, sel_true, obind_some]
            dsimp only
            have hr : SmL (l.take i ++ l.drop (i + 1)) := by rw [← s1]; exact hl.filter _
            refine Eq.trans (refTail_val l (l.take i ++ l.drop (i + 1)) n hr hn1) ?_
            rw [hp]
            by_cases h64 : 64 ≤ (l.take i ++ l.drop (i + 1)).length
            · rw [if_pos h64]; simp only [h64, if_true]
            · rw [if_neg h64]; simp only [h64, if_false]
          · have hs : sel (eqI x.2.1 2) (eqI n.2.1 2) false = false := by
              unfold eqI
              by_cases h1 : x.2.1 = 2
              · rw [decide_eq_true h1, sel_true]; exact decide_eq_false fun h2 => hbo ⟨h1, h2⟩
              · rw [decide_eq_false h1, sel_false]
            rw [if_neg (show ¬ ((∃ x ∈ l, x.1 = n.1 ∧ x.2.1 = 2) ∧ n.2.1 = 2) from fun h => by
              obtain ⟨⟨y, hy, e2, hy2⟩, h2⟩ := h
              have := hv.ord.uniq hmem hy (by rw [hxp, e2])
              subst this
              exact hbo ⟨hy2, h2⟩)] at hp
            rw [hs, sel_false, without_val l n.1 true hl (by omega), withoutF_true]
            simp only [obind_some, sel_true]
            refine Eq.trans (refTail_val l (restF l n.1) n (hl.filter _) hn1) ?_
            rw [hp]
            by_cases h64 : 64 ≤ (restF l n.1).length
            · rw [if_pos h64]; simp only [h64, if_true]
            · rw [if_neg h64]; simp only [h64, if_false]
        · have hne : ¬ ((∃ x ∈ l, x.1 = n.1 ∧ x.2.1 = 2) ∧ n.2.1 = 2) := fun ⟨⟨y, hy, e2, _⟩, _⟩ => hno y hy e2
          rw [if_neg hne, restF_none hv (mayF_ne hm) hno] at hp
          rw [h, obind_some]
          dsimp only
          rw [show leI 0 (-1) = false by rfl]
          simp only [obind_some, sel_false]
          refine Eq.trans (refTail_val l l n hl hn1) ?_
          rw [hp]
          by_cases h64 : 64 ≤ l.length
          · rw [if_pos h64]; simp only [h64, if_true]
          · rw [if_neg h64]; simp only [h64, if_false]
end Go.Ge
