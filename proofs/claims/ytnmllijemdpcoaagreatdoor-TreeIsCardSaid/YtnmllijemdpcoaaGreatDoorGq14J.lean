/- The law TreeIs: in plain words. -/
import Derived.Test.YtnmllijemdpcoaaGreatDoorGp14zis
import Derived.Test.YtnmllijemdpcoaaGreatDoorGq14I
namespace Go.Ge
set_option linter.unusedVariables false
set_option linter.unusedSimpArgs false

/-! ### What goes -/
theorem gone_take {l : List Nd} {g : Nd → Bool} {i : Nat} {x : Nd} (hx : l[i]? = some x) (hg : g x = true) (hb : ∀ (j : Nat) y, j < i → l[j]? = some y → g y = false) : l.take i = (l.take (i + 1)).filter (fun x => !g x) := by
  rw [List.take_add_one, hx, List.filter_append]
  have h1 : (l.take i).filter (fun x => !g x) = l.take i := List.filter_eq_self.2 fun y hy => by
    obtain ⟨j, hj⟩ := mem_at.1 hy
    rw [List.getElem?_take] at hj
    split at hj
    · rw [hb j y (by omega) hj]; rfl
    · cases hj
  rw [h1]
  simp [hg]

theorem rem_loop0 (l : List Nd) (p : List UInt8) (hl : SmL l) (hp : p.length ≤ 4096) : (∃ i x, l[i]? = some x ∧ gone p x = true ∧ (∀ (j : Nat) y, j < i → l[j]? = some y → gone p y = false) ∧ Loop (P_tree_Remove_L0 (l, (p, ()))) ((0, (0, ())), ((), ())) = some (1, (((i : Int), ((i : Int), ())), ((), ())))) ∨
    ((∀ (i : Nat) x, l[i]? = some x → gone p x = false) ∧ Loop (P_tree_Remove_L0 (l, (p, ()))) ((0, (0, ())), ((), ())) = some (0, ((0, ((l.length : Int), ())), ((), ())))) :=
  srch (f := P_tree_Remove_L0 (l, (p, ()))) l (fun i => ((0, (i, ())), ((), ()))) (fun _ x => gone p x) (fun i x => (1, (((i : Int), ((i : Int), ())), ((), ())))) (0, ((0, ((l.length : Int), ())), ((), ()))) (by have := hl.1; omega) (fun i x hx hi ha => by
      unfold P_tree_Remove_L0
      dsimp only
      rw [ltI_len_true hi, sel_true, within_true (by omega) (by unfold len; omega), sel_true, idx_some' hx, obind_some, under_val _ _ (by have := (hl.at hx).1; omega) hp, obind_some, eqS_iff, ha]
      unfold gone
      cases decide (x.1 = p) <;> cases underL (parts x.1) (parts p) <;> rfl) (by unfold P_tree_Remove_L0; dsimp only; rw [ltI_len_end, sel_false])

theorem rem_loop2 (l : List Nd) (p : List UInt8) (hl : SmL l) (hp : p.length ≤ 4096) (i : Nat) (x : Nd) (hx : l[i]? = some x) (hg : gone p x = true) (hb : ∀ (j : Nat) y, j < i → l[j]? = some y → gone p y = false) :
    ∃ (w : Nat) (L : List Nd), Loop (P_tree_Remove_L2 (l, (p, ()))) (((i : Int), (iadd IntKind.i64 (i : Int) 1, ((), ()))), ((), (l, ()))) = some (((w : Int), ((l.length : Int), ((), ()))), ((), (L, ()))) ∧ L.length = l.length ∧ w ≤ l.length ∧ L.take w = restF l p := by
  have hi := getElem?_lt hx
  have h4 := hl.1
  obtain ⟨w, L, h1, h2, h3, h5⟩ := del_loop (f := P_tree_Remove_L2 (l, (p, ()))) l (gone p) (fun w j L => ((w, (j, ((), ()))), ((), (L, ())))) (fun w L => ((w, ((L.length : Int), ((), ()))), ((), (L, ())))) (by omega) (fun w j L x hx hxL hw hj ha hb => by
      unfold P_tree_Remove_L2
      dsimp only
      have hwL : w < L.length := by omega
      obtain ⟨z, hz⟩ : ∃ z, L[w]? = some z := ⟨_, List.getElem?_eq_getElem hwL⟩
      have hgv : sel (nt (eqS x.1 p)) (obind (P_paths_Under (x.1, (p, ()))) (fun (y : Bool × Unit) => some y.1)) (some true) = some (gone p x) := by
        rw [under_val _ _ (by have := (hl.at hx).1; omega) hp, obind_some, eqS_iff]
        unfold gone
        cases decide (x.1 = p) <;> rfl
      rw [ltI_len_true hj, sel_true, within_true (by omega) (by unfold len; omega), sel_true, idx_some' hxL, obind_some, hgv, obind_some, hb]
      cases gone p x with
      | true => rfl
      | false =>
        rw [nt_false, sel_true, within_true (by omega) (by unfold len; omega), sel_true, idx_some' hz, obind_some, obind_some, obind_some, obind_some, ha, lset_nat]
        rfl) (fun w L => by
      unfold P_tree_Remove_L2
      dsimp only
      rw [ltI_len_end, sel_false]
      rfl) l.length i (i + 1) l (by omega) (by omega) (by omega) rfl (gone_take hx hg hb) rfl
  refine ⟨w, L, ?_, h2, h3, h5⟩
  rw [iadd_one (by omega), h1, h2]

theorem remove_val (l : List Nd) (p : List UInt8) (hl : SmL l) (hp : p.length ≤ 4096) (hv : Valid l) : P_tree_Remove (l, (p, ())) = some (restF l p, ()) := by
  obtain ⟨e, c1, c2⟩ := check_val' l hl
  obtain rfl := c2.2 hv
  unfold P_tree_Remove
  dsimp only
  rw [c1, obind_some]
  dsimp only
  rw [show nt (eqI 0 0) = false by rfl, sel_false, fits_len (by have := hl.1; omega), sel_true]
  rcases rem_loop0 l p hl hp with ⟨i, x, hx, hg, hb, h⟩ | ⟨hb, h⟩
  · obtain ⟨w, L, w1, w2, w3, w4⟩ := rem_loop2 l p hl hp i x hx hg hb
    rw [h, obind_some]
    dsimp only
    rw [eqN_one, sel_false, show eqI (i : Int) (-1) = false by unfold eqI; exact decide_eq_false (by omega), sel_false, w1, obind_some]
    dsimp only
    rw [inside_true (by omega) (by unfold len; omega) (Int.le_refl _), sel_true, len_over L w (by omega), inside_true (Int.le_refl _) (by omega) (by omega), sel_true, sub_over L w (by omega), w4]
  · have hr : restF l p = l := List.filter_eq_self.2 fun x hx => by
      obtain ⟨j, hj⟩ := mem_at.1 hx
      rw [hb j x hj]; rfl
    rw [h, obind_some, hr]
    dsimp only
    rw [eqN_zero, sel_true, show eqI (-1) (-1) = true by rfl, sel_true]

/-! ### What lies under -/
def undF (p : List UInt8) (x : Nd) : Bool := underL (parts x.1) (parts p)

theorem emp_loop0 (l : List Nd) (p : List UInt8) (hl : SmL l) (hp : p.length ≤ 4096) : (∃ i x, l[i]? = some x ∧ undF p x = true ∧ (∀ (j : Nat) y, j < i → l[j]? = some y → undF p y = false) ∧ Loop (P_tree_Empty_L0 (l, (p, ()))) ((0, (0, ())), ((), ())) = some (1, (((i : Int), ((i : Int), ())), ((), ())))) ∨
    ((∀ (i : Nat) x, l[i]? = some x → undF p x = false) ∧ Loop (P_tree_Empty_L0 (l, (p, ()))) ((0, (0, ())), ((), ())) = some (0, ((0, ((l.length : Int), ())), ((), ())))) :=
  srch (f := P_tree_Empty_L0 (l, (p, ()))) l (fun i => ((0, (i, ())), ((), ()))) (fun _ x => undF p x) (fun i x => (1, (((i : Int), ((i : Int), ())), ((), ())))) (0, ((0, ((l.length : Int), ())), ((), ()))) (by have := hl.1; omega) (fun i x hx hi ha => by
      unfold P_tree_Empty_L0
      dsimp only
      rw [ltI_len_true hi, sel_true, within_true (by omega) (by unfold len; omega), sel_true, idx_some' hx, obind_some, under_val _ _ (by have := (hl.at hx).1; omega) hp, obind_some, ha]
      unfold undF
      cases underL (parts x.1) (parts p) <;> rfl) (by unfold P_tree_Empty_L0; dsimp only; rw [ltI_len_end, sel_false])

theorem emp_loop2 (l : List Nd) (p : List UInt8) (hl : SmL l) (hp : p.length ≤ 4096) (i : Nat) (x : Nd) (hx : l[i]? = some x) (hg : undF p x = true) (hb : ∀ (j : Nat) y, j < i → l[j]? = some y → undF p y = false) :
    ∃ (w : Nat) (L : List Nd), Loop (P_tree_Empty_L2 (l, (p, ()))) (((i : Int), (iadd IntKind.i64 (i : Int) 1, ((), ()))), ((), (l, ()))) = some (((w : Int), ((l.length : Int), ((), ()))), ((), (L, ()))) ∧ L.length = l.length ∧ w ≤ l.length ∧ L.take w = l.filter (fun x => !undF p x) := by
  have hi := getElem?_lt hx
  have h4 := hl.1
  obtain ⟨w, L, h1, h2, h3, h5⟩ := del_loop (f := P_tree_Empty_L2 (l, (p, ()))) l (undF p) (fun w j L => ((w, (j, ((), ()))), ((), (L, ())))) (fun w L => ((w, ((L.length : Int), ((), ()))), ((), (L, ())))) (by omega) (fun w j L x hx hxL hw hj ha hb => by
      unfold P_tree_Empty_L2
      dsimp only
      have hwL : w < L.length := by omega
      obtain ⟨z, hz⟩ : ∃ z, L[w]? = some z := ⟨_, List.getElem?_eq_getElem hwL⟩
      rw [ltI_len_true hj, sel_true, within_true (by omega) (by unfold len; omega), sel_true, idx_some' hxL, obind_some, under_val _ _ (by have := (hl.at hx).1; omega) hp, obind_some, hb]
      unfold undF
      cases underL (parts x.1) (parts p) with
      | true => rfl
      | false =>
        rw [nt_false, sel_true, within_true (by omega) (by unfold len; omega), sel_true, idx_some' hz, obind_some, obind_some, obind_some, obind_some, ha, lset_nat]
        rfl) (fun w L => by
      unfold P_tree_Empty_L2
      dsimp only
      rw [ltI_len_end, sel_false]
      rfl) l.length i (i + 1) l (by omega) (by omega) (by omega) rfl (gone_take hx hg hb) rfl
  refine ⟨w, L, ?_, h2, h3, h5⟩
  rw [iadd_one (by omega), h1, h2]

theorem withoutF_false (l : List Nd) (p : List UInt8) : withoutF l p false = l.filter (fun x => !undF p x) := by
  unfold withoutF undF
  congr 1
  funext x
  cases underL (parts x.1) (parts p) <;> rfl

theorem empty_val (l : List Nd) (p : List UInt8) (hl : SmL l) (hp : p.length ≤ 4096) (hv : Valid l) : P_tree_Empty (l, (p, ())) = some (withoutF l p false, ()) := by
  obtain ⟨e, c1, c2⟩ := check_val' l hl
  obtain rfl := c2.2 hv
  rw [withoutF_false]
  unfold P_tree_Empty
  dsimp only
  rw [c1, obind_some]
  dsimp only
  rw [show nt (eqI 0 0) = false by rfl, sel_false, fits_len (by have := hl.1; omega), sel_true]
  rcases emp_loop0 l p hl hp with ⟨i, x, hx, hg, hb, h⟩ | ⟨hb, h⟩
  · obtain ⟨w, L, w1, w2, w3, w4⟩ := emp_loop2 l p hl hp i x hx hg hb
    rw [h, obind_some]
    dsimp only
    rw [eqN_one, sel_false, show eqI (i : Int) (-1) = false by unfold eqI; exact decide_eq_false (by omega), sel_false, w1, obind_some]
    dsimp only
    rw [inside_true (by omega) (by unfold len; omega) (Int.le_refl _), sel_true, len_over L w (by omega), inside_true (Int.le_refl _) (by omega) (by omega), sel_true, sub_over L w (by omega), w4]
  · have hr : l.filter (fun x => !undF p x) = l := List.filter_eq_self.2 fun x hx => by
      obtain ⟨j, hj⟩ := mem_at.1 hx
      rw [hb j x hj]; rfl
    rw [h, obind_some, hr]
    dsimp only
    rw [eqN_zero, sel_true, show eqI (-1) (-1) = true by rfl, sel_true]

/-! ### The reference's text -/
theorem fits_txt {a b : List UInt8} (h : a.length + b.length ≤ 4294967296) : fits (plus (len a) (len b)) = true := fits_len2 h

theorem refText_loop (l : List Nd) (hl : SmL l) (hm : ∀ x ∈ l, mayF x = true) : Loop (P_ref14_Text_L0 (l, ())) ((([] : List UInt8), ((0 : Int), ())), ()) = some ((textF l, ((l.length : Int), ())), ()) := by
  have hb := hl.1
  refine fold_app (f := P_ref14_Text_L0 (l, ())) l (fun a i => ((a, (i, ())), ())) lineF _ (by omega) (fun i x hx hi ha => ?_) (by
      unfold P_ref14_Text_L0
      dsimp only
      rw [ltI_len_end, sel_false]
      rfl)
  have hs := hl.at hx
  have hmx := mayF_parts (hm x (List.mem_of_getElem? hx))
  have hlen : ((l.take i).flatMap lineF).length ≤ 900 * 4096 := by
    have := textF_len (hl.take i).2
    have := (hl.take i).1
    unfold textF at *
    omega
  generalize (l.take i).flatMap lineF = acc at hlen ⊢
  have hm4 : (octF x.2.2.1.toNat 4).length = 4 := length_octF _ _
  have hh := length_hexF x.1
  have hs1 := hs.1
  have hk : idx ([([] : List UInt8), [102], [100], [108]] : List (List UInt8)) x.2.1 = some [headC x] := by
    unfold headC
    rcases kind_cases (hm x (List.mem_of_getElem? hx)) with k | k | k <;> rw [k] <;> rfl
  unfold P_ref14_Text_L0
  dsimp only
  rw [ltI_len_true hi, sel_true, idx_some' hx, obind_some, refOctal4 hmx.2.1 hmx.2.2.1, obind_some, obind_some, hk, obind_some, ha]
  dsimp only
  have f1 : fits (plus (len acc) (len [headC x])) = true := fits_txt (by simp; omega)
  have f2 : fits (plus (len (app acc [headC x])) (len ([32] : List UInt8))) = true := fits_txt (by simp [app_eq]; omega)
  have f3 : fits (plus (len (app (app acc [headC x]) [32])) (len (octF x.2.2.1.toNat 4))) = true := fits_txt (by simp [app_eq, hm4]; omega)
  have f4 : fits (plus (len (app (app (app acc [headC x]) [32]) (octF x.2.2.1.toNat 4))) (len ([32] : List UInt8))) = true := fits_txt (by simp [app_eq, hm4]; omega)
  have f5 : fits (plus (len (app (app (app (app acc [headC x]) [32]) (octF x.2.2.1.toNat 4)) [32])) (len (hexF x.1))) = true := fits_txt (by simp [app_eq, hm4, hh]; omega)
  rw [f1, f2, f3, f4, sel_true, sel_true, sel_true, sel_true, obind_some, refHex_val _ (by omega), obind_some]
  dsimp only
  rw [f5, sel_true, obind_some]
  have hbase : app (app (app (app (app acc [headC x]) [32]) (octF x.2.2.1.toNat 4)) [32]) (hexF x.1) = acc ++ headC x :: 32 :: (modeF x ++ 32 :: hexF x.1) := by
    unfold modeF
    simp [app_eq]
  rw [hbase]
  have hbl : (acc ++ headC x :: 32 :: (modeF x ++ 32 :: hexF x.1)).length ≤ 900 * 4096 + 500 := by
    unfold modeF
    simp [hm4, hh]; omega
  generalize hB : acc ++ headC x :: 32 :: (modeF x ++ 32 :: hexF x.1) = B at hbl ⊢
  have hend : ∀ t, tailF x = t → B ++ t ++ [10] = acc ++ lineF x := fun t ht => by
    rw [← hB, ← ht]
    unfold lineF
    simp
  have g1 : fits (plus (len B) (len ([32] : List UInt8))) = true := fits_txt (by simp; omega)
  rcases kind_cases (hm x (List.mem_of_getElem? hx)) with k | k | k
  · have hd := length_dgst x.2.2.2.1
    have ht : tailF x = 32 :: dgst x.2.2.2.1 := by unfold tailF; rw [if_pos k]
    have g2 : fits (plus (len (app B [32])) (len (dgst x.2.2.2.1))) = true := fits_txt (by simp [app_eq, hd]; omega)
    have g3 : fits (plus (len (app (app B [32]) (dgst x.2.2.2.1))) (len ([10] : List UInt8))) = true := fits_txt (by simp [app_eq, hd]; omega)
    rw [eqI_true k, sel_true, g1, sel_true, obind_some, refOf_val _ (by have := hs.2.2; omega), obind_some]
    dsimp only
    rw [g2, sel_true, obind_some]
    dsimp only
    rw [g3, sel_true]
    have := hend _ ht
    simp only [app_eq, way1, Option.map_some]
    rw [← this]
    simp
  · have ht : tailF x = [] := by unfold tailF; rw [if_neg (by omega), if_pos k]
    have g3 : fits (plus (len B) (len ([10] : List UInt8))) = true := fits_txt (by simp; omega)
    rw [show eqI x.2.1 1 = false by simp [eqI, k], sel_false, show eqI x.2.1 3 = false by simp [eqI, k], sel_false, obind_some, obind_some]
    dsimp only
    rw [g3, sel_true]
    have := hend _ ht
    simp only [app_eq, way1, Option.map_some]
    rw [← this]
    simp
  · have hl2 := hs.2.1
    have hd := length_hexF x.2.2.2.2.1
    have ht : tailF x = 32 :: hexF x.2.2.2.2.1 := by unfold tailF; rw [if_neg (by omega), if_neg (by omega)]
    have g2 : fits (plus (len (app B [32])) (len (hexF x.2.2.2.2.1))) = true := fits_txt (by simp [app_eq, hd]; omega)
    have g3 : fits (plus (len (app (app B [32]) (hexF x.2.2.2.2.1))) (len ([10] : List UInt8))) = true := fits_txt (by simp [app_eq, hd]; omega)
    rw [show eqI x.2.1 1 = false by simp [eqI, k], sel_false, eqI_true k, sel_true, g1, sel_true, obind_some, refHex_val _ (by omega), obind_some]
    dsimp only
    rw [g2, sel_true, obind_some, obind_some]
    dsimp only
    rw [g3, sel_true]
    have := hend _ ht
    simp only [app_eq, way1, Option.map_some]
    rw [← this]
    simp

theorem refText_val (l : List Nd) (hl : SmL l) (hv : Valid l) : P_ref14_Text (l, ()) = some (textF l, ()) := by
  obtain ⟨e, c1, c2⟩ := isTree_val l hl
  obtain rfl := c2.2 hv
  unfold P_ref14_Text
  dsimp only
  rw [c1, obind_some]
  dsimp only
  rw [nt_true, sel_false, refText_loop l hl hv.may, obind_some]

/-! ### The reference's nodes and lists -/
theorem refFind_val (l : List Nd) (p : List UInt8) (hl : SmL l) (hv : Valid l) : P_ref14_Find (l, (p, ())) = some (findF l p) := by
  obtain ⟨e, c1, c2⟩ := isTree_val l hl
  obtain rfl := c2.2 hv
  unfold P_ref14_Find
  dsimp only
  rcases find_val l p hl with ⟨i, x, hx, hxp, h⟩ | ⟨hno, h⟩
  · rw [h, obind_some, c1, obind_some]
    dsimp only
    rw [ltI_false (by omega), idx_some' hx, find_some' hv.ord (List.mem_of_getElem? hx) hxp]
    rfl
  · rw [h, obind_some, c1, obind_some, find_none' hno]
    rfl

theorem refList_loop (l : List Nd) (d : List UInt8) (hl : SmL l) : Loop (P_ref14_List_L0 (l, (d, ()))) (((), ((0 : Int), ())), (([] : List (List UInt8)), ())) = some (((), ((l.length : Int), ())), (listF l d, ())) := by
  have hb := hl.1
  have hfm : ∀ m : List Nd, m.flatMap (fun x => if (splitF x.1).1 = d then [(splitF x.1).2] else []) = listF m d := by
    intro m
    unfold listF
    induction m with
    | nil => rfl
    | cons a r ih =>
      rw [List.flatMap_cons, ih, List.filter_cons]
      by_cases h : (splitF a.1).1 = d <;> simp [h]
  refine fold_app (f := P_ref14_List_L0 (l, (d, ()))) l (fun a i => (((), (i, ())), (a, ()))) (fun x => if (splitF x.1).1 = d then [(splitF x.1).2] else []) _ (by omega) (fun i x hx hi ha => ?_) (by
      unfold P_ref14_List_L0
      dsimp only
      rw [ltI_len_end, sel_false, hfm]
      rfl)
  have hlen : (listF (l.take i) d).length ≤ 4096 := by
    unfold listF
    rw [List.length_map]
    have := List.length_filter_le (fun x : Nd => decide ((splitF x.1).1 = d)) (l.take i)
    have : (l.take i).length ≤ l.length := by rw [List.length_take]; omega
    omega
  rw [hfm]
  unfold P_ref14_List_L0
  dsimp only
  rw [ltI_len_true hi, sel_true, idx_some' hx, obind_some, refSplit_val _ (by have := (hl.at hx).1; omega), obind_some, ha, eqS_iff, fits_len2 (by simp only [List.length_singleton]; omega)]
  dsimp only
  by_cases h : (splitF x.1).1 = d
  · rw [decide_eq_true h, sel_true, sel_true, obind_some, if_pos h]; rfl
  · rw [decide_eq_false h, sel_false, obind_some, if_neg h, List.append_nil]; rfl

theorem lists_val (l : List Nd) (d : List UInt8) (hl : SmL l) (hd : d.length ≤ 4096) (hv : Valid l) : ∃ (r : List (List UInt8)) (e : Int), r.length ≤ 4096 ∧ P_tree_List (l, (d, ())) = some (r, (e, ())) ∧ P_ref14_List (l, (d, ())) = some (r, (e, ())) := by
  obtain ⟨c, c1, c2⟩ := check_val' l hl
  obtain rfl := c2.2 hv
  obtain ⟨b, b1, b2⟩ := isTree_val l hl
  obtain rfl := b2.2 hv
  obtain ⟨e, d1, d2⟩ := dir_val l d hl hd
  obtain ⟨f, f1, f2, f3⟩ := refDir_val l d hl
  have hlen : (listF l d).length ≤ 4096 := by
    unfold listF
    rw [List.length_map]
    exact Nat.le_trans (List.length_filter_le _ _) hl.1
  have ht : P_tree_List (l, (d, ())) = some (if e = 0 then (listF l d, (0, ())) else ([], (e, ()))) := by
    unfold P_tree_List
    dsimp only
    rw [c1, obind_some]
    dsimp only
    rw [show nt (eqI 0 0) = false by rfl, sel_false, d1, obind_some]
    dsimp only
    by_cases h : e = 0
    · rw [eqI_true h, nt_true, sel_false, list_loop _ _ hl, obind_some, if_pos h]
    · rw [show eqI e 0 = false by simp [eqI, h], nt_false, sel_true, if_neg h]
  have hr : P_ref14_List (l, (d, ())) = obind (sel (nt (eqS d [])) (obind (P_ref14_find (l, (d, ()))) (fun (y : Int × Unit) => some (ltI y.1 0))) (some false)) (fun (y2 : Bool) => sel y2 (some (([] : List (List UInt8)), ((3 : Int), ()))) (sel (nt f) (some ([], (12, ()))) (some (listF l d, (0, ()))))) := by
    unfold P_ref14_List
    dsimp only
    rw [b1, obind_some]
    dsimp only
    rw [nt_true, sel_false, f1]
    simp only [obind_some]
    rw [refList_loop _ _ hl]
    rfl
  rw [ht, hr]
  rcases d2 hv.ord with ⟨h0, he⟩ | ⟨h0, ⟨hno, he⟩ | ⟨x, hx, hx1, ⟨hx2, he⟩ | ⟨hx2, he⟩⟩⟩
  · subst he h0
    have : f = true := by
      cases f with
      | true => rfl
      | false => exact absurd rfl (f3 hv.ord rfl).1
    subst this
    exact ⟨listF l [], 0, hlen, rfl, rfl⟩
  · subst he
    rcases find_val l d hl with ⟨i, x, hx, hxp, h⟩ | ⟨_, h⟩
    · exact absurd hxp (hno x (List.mem_of_getElem? hx))
    · rw [h, eqS_false h0]
      exact ⟨[], 3, by simp, rfl, rfl⟩
  · subst he
    have : f = true := by
      cases f with
      | true => rfl
      | false => exact absurd hx2 ((f3 hv.ord rfl).2 x hx hx1)
    subst this
    rcases find_val l d hl with ⟨i, y, hy, hyp, h⟩ | ⟨hno, h⟩
    · refine ⟨listF l d, 0, hlen, rfl, ?_⟩
      rw [h, eqS_false h0, nt_false, sel_true, obind_some, ltI_false (by omega)]
      rfl
    · exact absurd hx1 (hno x hx)
  · subst he
    have : f = false := by
      cases f with
      | false => rfl
      | true =>
        rcases f2 rfl with h | ⟨y, hy, hy1, hy2⟩
        · exact absurd h h0
        · have := hv.ord.uniq hx hy (by rw [hx1, hy1])
          subst this
          exact absurd hy2 hx2
    subst this
    rcases find_val l d hl with ⟨i, y, hy, hyp, h⟩ | ⟨hno, h⟩
    · refine ⟨[], 12, by simp, rfl, ?_⟩
      rw [h, eqS_false h0, nt_false, sel_true, obind_some, ltI_false (by omega)]
      rfl
    · exact absurd hx1 (hno x hx)

theorem eqB_self' (b : Bool) : eqB b b = true := by cases b <;> rfl

theorem treeIs_val (l : List Nd) (p : List UInt8) : P_law14_TreeIs (l, (p, ())) = some (true, ()) := by
  unfold P_law14_TreeIs
  dsimp only
  obtain ⟨b1, f1, g1⟩ := few14_val l 70 70 rfl (by omega)
  rw [f1, obind_some]
  refine ifawake14 fun h => ?_
  have hb : b1 = true := by
    cases b1 with
    | true => rfl
    | false => cases h
  subst hb
  have hp : p.length ≤ 256 := long_false h
  have hl := (g1 rfl).2
  have hl1 := hl.1
  obtain ⟨c, c1, c2⟩ := check_val' l hl
  obtain ⟨b, b1, b2⟩ := isTree_val l hl
  by_cases hv : Valid l
  · obtain rfl := c2.2 hv
    obtain rfl := b2.2 hv
    obtain ⟨r, e, r1, r2, r3⟩ := lists_val l p hl (by omega) hv
    have hf : ∀ q : Bool, (l.filter fun x => !undF p x).length ≤ 4294967296 := fun _ => Nat.le_trans (List.length_filter_le _ _) (by omega)
    have hr1 : P_ref14_Remove (l, (p, ())) = some (restF l p, ()) := by
      unfold P_ref14_Remove
      dsimp only
      rw [b1, obind_some]
      dsimp only
      rw [nt_true, sel_false, without_val l p true hl (by omega), obind_some, withoutF_true]
    have hr2 : P_ref14_Empty (l, (p, ())) = some (withoutF l p false, ()) := by
      unfold P_ref14_Empty
      dsimp only
      rw [b1, obind_some]
      dsimp only
      rw [nt_true, sel_false, without_val l p false hl (by omega), obind_some]
    rw [tfind_val l p hl (by omega) hv, obind_some, refFind_val l p hl hv, obind_some, r2, obind_some, r3, obind_some, c1, obind_some, b1, obind_some, remove_val l p hl (by omega) hv, hr1, empty_val l p hl (by omega) hv, hr2, ttext_val l hl hv, refText_val l hl hv]
    simp only [obind_some]
    rw [same_self (restF l p) (Nat.le_trans (List.length_filter_le _ _) (by omega)), same_self (withoutF l p false) (Nat.le_trans (List.length_filter_le _ _) (by omega)), sameTexts_val r r (by omega) (by omega), awake14]
    simp only [obind_some, eqS_self, eqI_self, eqB_self', decide_true, an, Bool.and_true, sel_true]
  · have hc : eqI c 0 = false := by unfold eqI; exact decide_eq_false fun h => hv (c2.1 h)
    have hb : b = false := by
      cases b with
      | false => rfl
      | true => exact absurd (b2.1 rfl) hv
    subst hb
    have e1 : P_tree_Find (l, (p, ())) = some (zeroN, (false, ())) := by
      unfold P_tree_Find; dsimp only; rw [c1, obind_some]; dsimp only; rw [hc, nt_false, sel_true]; rfl
    have e2 : P_ref14_Find (l, (p, ())) = some (zeroN, (false, ())) := by
      unfold P_ref14_Find
      dsimp only
      rcases find_val l p hl with ⟨i, x, hx, hxp, h⟩ | ⟨hno, h⟩ <;> rw [h, obind_some, b1, obind_some] <;> rfl
    have e3 : P_tree_List (l, (p, ())) = some ([], (1, ())) := by
      unfold P_tree_List; dsimp only; rw [c1, obind_some]; dsimp only; rw [hc, nt_false, sel_true]
    have e4 : P_ref14_List (l, (p, ())) = some ([], (1, ())) := by
      unfold P_ref14_List; dsimp only; rw [b1, obind_some]; rfl
    have e5 : P_tree_Remove (l, (p, ())) = some ([], ()) := by
      unfold P_tree_Remove; dsimp only; rw [c1, obind_some]; dsimp only; rw [hc, nt_false, sel_true]
    have e6 : P_ref14_Remove (l, (p, ())) = some ([], ()) := by
      unfold P_ref14_Remove; dsimp only; rw [b1, obind_some]; rfl
    have e7 : P_tree_Empty (l, (p, ())) = some ([], ()) := by
      unfold P_tree_Empty; dsimp only; rw [c1, obind_some]; dsimp only; rw [hc, nt_false, sel_true]
    have e8 : P_ref14_Empty (l, (p, ())) = some ([], ()) := by
      unfold P_ref14_Empty; dsimp only; rw [b1, obind_some]; rfl
    have e9 : P_tree_Text (l, ()) = some ([], ()) := by
      unfold P_tree_Text; dsimp only; rw [c1, obind_some]; dsimp only; rw [hc, nt_false, sel_true]
    have e10 : P_ref14_Text (l, ()) = some ([], ()) := by
      unfold P_ref14_Text; dsimp only; rw [b1, obind_some]; rfl
    rw [e1, obind_some, e2, obind_some, e3, obind_some, e4, obind_some, c1, obind_some, b1, obind_some, e5, e6, e7, e8, e9, e10]
    simp only [obind_some]
    rw [same_self [] (by simp), sameTexts_val [] [] (by simp) (by simp), awake14, hc]
    rfl
end Go.Ge
