/- Plain laws of what the functions compute: part 4. -/
import Derived.Test.YtpcimoekpbilgaaGreatDoorPlC
/- Diffs laid on trees: what is put: in plain words. -/
namespace Go.Ge
set_option linter.unusedVariables false
set_option linter.unusedSimpArgs false

theorem putF_valid {t : List Nd} {n : Nd} (h : (t14_putF t n).2 = 0) : Valid (t14_putF t n).1 := by
  rcases putF_cases t n with ⟨_, h2⟩ | ⟨h1, h2, h3, r, h4, h5, h6⟩
  · exact absurd h h2
  · rw [h6]; exact put_valid h1 h2 h3 h4 h5

noncomputable def dirsF : List (List UInt8) → List UInt8 → List Nd → List Nd × Int
  | [], _, t => (t, 0)
  | nm :: r, at', t =>
    if (findF t (joinP at' nm)).2.1 = true ∧ (findF t (joinP at' nm)).1.2.1 = 2 then dirsF r (joinP at' nm) t
    else if (t14_putF t (dirM 493 (joinP at' nm))).2 = 0 then dirsF r (joinP at' nm) (t14_putF t (dirM 493 (joinP at' nm))).1
    else ([], (t14_putF t (dirM 493 (joinP at' nm))).2)

theorem dirsF_valid : ∀ (r : List (List UInt8)) (a : List UInt8) (t : List Nd), Valid t → (dirsF r a t).2 = 0 → Valid (dirsF r a t).1 := by
  intro r
  induction r with
  | nil => intro a t h _; exact h
  | cons nm r ih =>
    intro a t h h2
    unfold dirsF at h2 ⊢
    split at h2
    · rename_i hc; rw [if_pos hc]; exact ih _ _ h h2
    · rename_i hc
      rw [if_neg hc]
      split at h2
      · rename_i hp; rw [if_pos hp]; exact ih _ _ (putF_valid hp) h2
      · rename_i hp; exact absurd h2 hp

abbrev DS := ((List Nd × (List Nd × (Int × (List UInt8 × (Int × Unit))))) × Unit)

theorem dirs_run {f : DS → Option (DS ⊕ (Nat × DS))} (ns : List (List UInt8)) (h : ShN ns) (n : Nat) (hn : n ≤ ns.length)
    (hstep : ∀ (i : Nat) (x : List UInt8) (t : List Nd), i < n → ns[i]? = some x → Valid t →
      f ((t, ([], ((0 : Int), (joinS (ns.take i), ((i : Int), ()))))), ()) =
        some (if (findF t (preP ns i)).2.1 = true ∧ (findF t (preP ns i)).1.2.1 = 2 then .inl ((t, ([], ((0 : Int), (preP ns i, (((i + 1 : Nat) : Int), ()))))), ())
          else if (t14_putF t (dirM 493 (preP ns i))).2 = 0 then .inl (((t14_putF t (dirM 493 (preP ns i))).1, ([], ((0 : Int), (preP ns i, (((i + 1 : Nat) : Int), ()))))), ())
          else .inr (1, ((t, ([], ((t14_putF t (dirM 493 (preP ns i))).2, (preP ns i, ((i : Int), ()))))), ()))))
    (hend : ∀ (t : List Nd) (a : List UInt8), f ((t, ([], ((0 : Int), (a, ((n : Int), ()))))), ()) = some (.inr (0, ((t, ([], ((0 : Int), (a, ((n : Int), ()))))), ())))) :
    ∀ (d i : Nat) (t : List Nd), i + d = n → Valid t → ∃ z, Loop f ((t, ([], ((0 : Int), (joinS (ns.take i), ((i : Int), ()))))), ()) = some z ∧
      (((dirsF ((ns.take n).drop i) (joinS (ns.take i)) t).2 = 0 ∧ z.1 = 0 ∧ z.2.1.1 = (dirsF ((ns.take n).drop i) (joinS (ns.take i)) t).1) ∨
       ((dirsF ((ns.take n).drop i) (joinS (ns.take i)) t).2 ≠ 0 ∧ z.1 = 1 ∧ z.2.1.2.1 = [] ∧ z.2.1.2.2.1 = (dirsF ((ns.take n).drop i) (joinS (ns.take i)) t).2)) := by
  intro d
  induction d with
  | zero =>
    intro i t hi hv
    obtain rfl : i = n := by omega
    refine ⟨_, by rw [Loop_eq, hend]; rfl, .inl ?_⟩
    rw [List.drop_of_length_le (by rw [List.length_take]; omega)]
    exact ⟨rfl, rfl, rfl⟩
  | succ d ih =>
    intro i t hi hv
    have hx : ns[i]? = some ns[i] := List.getElem?_eq_getElem (by omega)
    have hs := hstep i ns[i] t (by omega) hx hv
    have hdrop : (ns.take n).drop i = ns[i] :: (ns.take n).drop (i + 1) := by
      rw [List.drop_eq_getElem_cons (by rw [List.length_take]; omega), List.getElem_take]
    have hj := joinP_take h.1 hx
    rw [hdrop]
    unfold dirsF
    rw [hj]
    have hn1 : preP ns i = joinS (ns.take (i + 1)) := rfl
    split
    · rename_i hc
      rw [if_pos hc] at hs
      obtain ⟨z, z1, z2⟩ := ih (i + 1) t (by omega) hv
      refine ⟨z, ?_, by rw [hn1]; exact z2⟩
      rw [Loop_eq, hs]
      exact z1
    · rename_i hc
      rw [if_neg hc] at hs
      split
      · rename_i hp
        rw [if_pos hp] at hs
        obtain ⟨z, z1, z2⟩ := ih (i + 1) _ (by omega) (putF_valid hp)
        refine ⟨z, ?_, by rw [hn1]; exact z2⟩
        rw [Loop_eq, hs]
        exact z1
      · rename_i hp
        rw [if_neg hp] at hs
        refine ⟨_, by rw [Loop_eq, hs]; rfl, .inr ⟨hp, rfl, rfl, rfl⟩⟩

theorem dir_sm (m : Int) {ns : List (List UInt8)} (h : ShN ns) (i : Nat) : Sm (dirM m (preP ns i)) := ⟨h.pre_len (i + 1), by simp [dirM], by simp [dirM]⟩

noncomputable def nodeF (ns : List (List UInt8)) (t : List Nd) (n : Nd) : List Nd × Int := if (dirsF ns.dropLast [] t).2 = 0 then t14_putF (dirsF ns.dropLast [] t).1 n else ([], (dirsF ns.dropLast [] t).2)

theorem nodePuts_val {ns : List (List UInt8)} (h : ShN ns) {n : Nd} (hn : n.1 = joinS ns) (hs : Sm n) {t : List Nd} (hv : Valid t) : P_overlay_node_puts ((n, ()), (t, ())) = some ((nodeF ns t n).1, ((nodeF ns t n).2, ())) := by
  have hd : ShN ns.dropLast := drop_sh h
  unfold P_overlay_node_puts
  dsimp only
  rw [hn, psplit_val _ (by have := h.2.2; omega), obind_some, split_clean h.1]
  dsimp only
  rw [parts_val _ (by have := hd.2.2; omega), obind_some, parts_joinS _ hd.1]
  obtain ⟨z, z1, z2⟩ := dirs_run (f := P_overlay_node_puts_L0 (ns.dropLast, ())) ns.dropLast hd ns.dropLast.length (Nat.le_refl _) (fun i x u hi hx hu => by
      have hus := valid_sm hu
      have hxl := hd.mem_len (List.mem_of_getElem? hx)
      have hpl := hd.pre_len i
      have hpl1 := hd.pre_len (i + 1)
      have h16 := hd.2.1
      unfold P_overlay_node_puts_L0
      dsimp only
      rw [ltI_len_true hi, sel_true, idx_some' hx, obind_some, pjoin_val _ _ (by omega) (by omega), obind_some, joinP_take hd.1 hx]
      dsimp only
      rw [tfind_val u _ hus (by unfold preP; omega) hu, obind_some, iadd_one (by omega)]
      have hp := t14_put_val u (dirM 493 (preP ns.dropLast i)) hus (dir_sm 493 hd i)
      rw [show P_tree_Put (u, ((preP ns.dropLast i, ((2 : Int), ((493 : Int), (([] : List UInt8), (([] : List UInt8), ()))))), ())) = _ from hp, obind_some]
      dsimp only
      by_cases hf : (findF u (preP ns.dropLast i)).2.1 = true
      · by_cases hk : (findF u (preP ns.dropLast i)).1.2.1 = 2
        · rw [hf, eqI_true hk, if_pos ⟨rfl, hk⟩]; rfl
        · rw [hf, eqI_false hk, if_neg (fun q => hk q.2)]
          by_cases he : (t14_putF u (dirM 493 (preP ns.dropLast i))).2 = 0
          · rw [eqI_true he, if_pos he]; rfl
          · rw [eqI_false he, if_neg he]; rfl
      · rw [show (findF u (preP ns.dropLast i)).2.1 = false by simpa using hf, if_neg (fun q => by cases q.1)]
        by_cases he : (t14_putF u (dirM 493 (preP ns.dropLast i))).2 = 0
        · rw [eqI_true he, if_pos he]; rfl
        · rw [eqI_false he, if_neg he]; rfl) (fun u a => by
      unfold P_overlay_node_puts_L0
      dsimp only
      rw [ltI_len_end, sel_false]) ns.dropLast.length 0 t (by omega) hv
  rw [List.take_length, List.drop_zero] at z2
  rw [show Loop (P_overlay_node_puts_L0 (ns.dropLast, ())) ((t, (([] : List Nd), ((0 : Int), (([] : List UInt8), ((0 : Int), ()))))), ()) = _ from z1, obind_some]
  have ht0 : joinS (ns.dropLast.take 0) = [] := by simp [joinS]
  rw [ht0] at z2
  unfold nodeF
  rcases z2 with ⟨a1, a2, a3⟩ | ⟨a1, a2, a3, a4⟩
  · have hv2 := dirsF_valid _ _ _ hv a1
    rw [a2, show eqN 0 0 = true from rfl, sel_true, a3, if_pos a1, t14_put_val _ n (valid_sm hv2) hs, obind_some]
  · rw [a2, show eqN 1 0 = false from rfl, sel_false, a3, a4, if_neg a1]

theorem refDirs_val {ns : List (List UInt8)} (h : ShN ns) {t : List Nd} (hv : Valid t) : P_ref15_dirs (t, (joinS ns, ())) = some ((if (dirsF ns.dropLast [] t).2 = 0 then (dirsF ns.dropLast [] t).1 else []), ((dirsF ns.dropLast [] t).2, ())) := by
  unfold P_ref15_dirs
  dsimp only
  rw [refParts_val _ (by have := h.2.2; omega), obind_some, parts_joinS _ h.1]
  have hlt : ns.take (ns.length - 1) = ns.dropLast := List.dropLast_eq_take.symm
  obtain ⟨z, z1, z2⟩ := dirs_run (f := P_ref15_dirs_L0 (ns, ())) ns h (ns.length - 1) (by omega) (fun i x u hi hx hu => by
      have hus := valid_sm hu
      have hxl := h.mem_len (List.mem_of_getElem? hx)
      have hpl := h.pre_len i
      have hpl1 := h.pre_len (i + 1)
      have h16 := h.2.1
      unfold P_ref15_dirs_L0
      dsimp only
      rw [iadd_one (by omega), ltI_len_true (show i + 1 < ns.length by omega), sel_true, idx_some' hx, obind_some, refpjoin_val _ _ (by omega) (by omega), obind_some, joinP_take h.1 hx]
      dsimp only
      rw [refFind_val u _ hus hu, obind_some]
      have hp := t14_refPut_val u (dirM 493 (preP ns i)) hus (dir_sm 493 h i)
      rw [show P_ref14_Put (u, ((preP ns i, ((2 : Int), ((493 : Int), (([] : List UInt8), (([] : List UInt8), ()))))), ())) = _ from hp, obind_some]
      dsimp only
      by_cases hf : (findF u (preP ns i)).2.1 = true
      · by_cases hk : (findF u (preP ns i)).1.2.1 = 2
        · rw [hf, eqI_true hk, if_pos ⟨rfl, hk⟩]; rfl
        · rw [hf, eqI_false hk, if_neg (fun q => hk q.2)]
          by_cases he : (t14_putF u (dirM 493 (preP ns i))).2 = 0
          · rw [eqI_true he, if_pos he]; rfl
          · rw [eqI_false he, if_neg he]; rfl
      · rw [show (findF u (preP ns i)).2.1 = false by simpa using hf, if_neg (fun q => by cases q.1)]
        by_cases he : (t14_putF u (dirM 493 (preP ns i))).2 = 0
        · rw [eqI_true he, if_pos he]; rfl
        · rw [eqI_false he, if_neg he]; rfl) (fun u a => by
      unfold P_ref15_dirs_L0
      dsimp only
      have h16 := h.2.1
      rw [iadd_one (by omega), show ltI ((ns.length - 1 + 1 : Nat) : Int) (len ns) = false from ltI_false (by unfold len; omega), sel_false]) (ns.length - 1) 0 t (by omega) hv
  rw [List.drop_zero, hlt] at z2
  rw [show Loop (P_ref15_dirs_L0 (ns, ())) ((t, (([] : List Nd), ((0 : Int), (([] : List UInt8), ((0 : Int), ()))))), ()) = _ from z1, obind_some]
  have ht0 : joinS (ns.take 0) = [] := by simp [joinS]
  rw [ht0] at z2
  rcases z2 with ⟨a1, a2, a3⟩ | ⟨a1, a2, a3, a4⟩
  · rw [a2, show eqN 0 0 = true from rfl, sel_true, a3, if_pos a1, a1]
  · rw [a2, show eqN 1 0 = false from rfl, sel_false, a3, a4, if_neg a1]
end Go.Ge

/- Diffs laid on trees: what comes of entries laid on nodes: in plain words. -/
namespace Go.Ge
set_option linter.unusedVariables false
set_option linter.unusedSimpArgs false

theorem whatN_mark (p : Pt) : (whatN p).1 = 0 ∨ (whatN p).1 = 1 ∨ (whatN p).1 = 2 := by
  unfold whatN
  split
  · dsimp only
    split
    · exact .inr (.inl rfl)
    · split
      · exact .inr (.inr rfl)
      · split
        · exact .inl rfl
        · exact .inl rfl
  · exact .inl rfl

noncomputable def putsF (t : List Nd) (p : Pt) : List Nd × Int := if (whatN p).1 = 0 ∧ (whatN p).2.1 ≠ [] then nodeF (whatN p).2.1 t (nodeOf p (joinS (whatN p).2.1)) else (t, 0)
noncomputable def runF : List Pt → List Nd → List Nd × Int
  | [], t => (t, 0)
  | p :: r, t => if (putsF t p).2 = 0 then runF r (putsF t p).1 else ([], (putsF t p).2)

theorem nodeF_valid {ns : List (List UInt8)} {t : List Nd} {n : Nd} (h : (nodeF ns t n).2 = 0) : Valid (nodeF ns t n).1 := by
  unfold nodeF at h ⊢
  split at h
  · rename_i hd; rw [if_pos hd]; exact putF_valid h
  · rename_i hd; exact absurd h hd
theorem putsF_valid {t : List Nd} {p : Pt} (hv : Valid t) (h : (putsF t p).2 = 0) : Valid (putsF t p).1 := by
  unfold putsF at h ⊢
  split at h
  · rename_i hc; rw [if_pos hc]; exact nodeF_valid h
  · rename_i hc; rw [if_neg hc]; exact hv
theorem runF_valid : ∀ (l : List Pt) (t : List Nd), Valid t → (((runF l t).2 = 0 ∧ Valid (runF l t).1) ∨ ((runF l t).2 ≠ 0 ∧ (runF l t).1 = [])) := by
  intro l
  induction l with
  | nil => intro t h; exact .inl ⟨rfl, h⟩
  | cons p r ih =>
    intro t h
    unfold runF
    split
    · rename_i hp; exact ih _ (putsF_valid h hp)
    · rename_i hp; exact .inr ⟨hp, rfl⟩

theorem node_sm {p : Pt} (hp : SmP p) {ns : List (List UInt8)} (h : ShN ns) : Sm (nodeOf p (joinS ns)) := ⟨h.2.2, hp.2.1, hp.2.2⟩

theorem invPuts_val {t : List Nd} (h : Valid t) (p : Pt) (hp : SmP p) : P_inv_puts (stepN p, (t, ())) = some ((putsF t p).1, ((putsF t p).2, ())) := by
  have hsh := whatN_sh p
  unfold P_inv_puts stepN stepW putsF
  dsimp only
  rcases whatN_mark p with h0 | h0 | h0
  · rw [if_neg (by rw [h0]; decide), if_neg (by rw [h0]; decide)]
    by_cases h3 : (whatN p).2.1 = []
    · rw [if_pos h3, if_neg (fun q => q.2 h3)]; rfl
    · rw [if_neg h3, if_pos ⟨h0, h3⟩]
      exact nodePuts_val hsh rfl (node_sm hp hsh) h
  · rw [if_pos h0, if_neg (fun q => by rw [h0] at q; exact absurd q.1 (by decide))]; rfl
  · rw [if_neg (by rw [h0]; decide), if_pos h0, if_neg (fun q => by rw [h0] at q; exact absurd q.1 (by decide))]; rfl

theorem runs {S R : Type} {f : S → Option (S ⊕ R)} (l : List Pt) (mk : List Nd → Nat → S) (fin : List Nd → R) (err : Int → List Nd → Nat → R)
    (hstep : ∀ (i : Nat) (x : Pt) (t : List Nd), l[i]? = some x → Valid t → f (mk t i) = some (if (putsF t x).2 = 0 then .inl (mk (putsF t x).1 (i + 1)) else .inr (err (putsF t x).2 t i)))
    (hend : ∀ t, f (mk t l.length) = some (.inr (fin t))) :
    ∀ (d i : Nat) (t : List Nd), i + d = l.length → Valid t → ∃ z, Loop f (mk t i) = some z ∧
      (((runF (l.drop i) t).2 = 0 ∧ z = fin (runF (l.drop i) t).1) ∨ ((runF (l.drop i) t).2 ≠ 0 ∧ ∃ t' i', z = err (runF (l.drop i) t).2 t' i')) := by
  intro d
  induction d with
  | zero =>
    intro i t hi hv
    obtain rfl : i = l.length := by omega
    refine ⟨_, by rw [Loop_eq, hend]; rfl, .inl ?_⟩
    rw [List.drop_length]
    exact ⟨rfl, rfl⟩
  | succ d ih =>
    intro i t hi hv
    have hx : l[i]? = some l[i] := List.getElem?_eq_getElem (by omega)
    have hs := hstep i l[i] t hx hv
    rw [List.drop_eq_getElem_cons (by omega)]
    unfold runF
    split
    · rename_i hp
      rw [if_pos hp] at hs
      obtain ⟨z, z1, z2⟩ := ih (i + 1) _ (by omega) (putsF_valid hv hp)
      exact ⟨z, by rw [Loop_eq, hs]; exact z1, z2⟩
    · rename_i hp
      rw [if_neg hp] at hs
      exact ⟨_, by rw [Loop_eq, hs]; rfl, .inr ⟨hp, t, i, rfl⟩⟩

open Classical in
noncomputable def layF (l : List Nd) (ps : List Pt) : List Nd × Int := if Valid l then (if allOk ps = true then runF ps (ps.foldl clrT l) else ([], 10)) else ([], 1)

theorem folds_valid (ps : List Pt) : ∀ (l : List Nd), Valid l → Valid (ps.foldl clrT l) := by
  induction ps with
  | nil => intro l h; exact h
  | cons p r ih => intro l h; exact ih _ (clrT_valid h p)

theorem lay_val (l : List Nd) (ps : List Pt) (hl : SmL l) (hp : SmPs ps) : P_overlay_Lay (l, (ps, ())) = some ((layF l ps).1, ((layF l ps).2, ())) := by
  obtain ⟨e, c1, c2⟩ := check_val' l hl
  have h1 := hl.1
  have h2 := hp.1
  unfold P_overlay_Lay layF
  dsimp only
  rw [c1, obind_some]
  dsimp only
  by_cases hv : Valid l
  · rw [c2.2 hv, show nt (eqI 0 0) = false from rfl, sel_false, if_pos hv, steps_val ps hp, obind_some]
    by_cases ha : allOk ps = true
    · rw [if_pos ha, if_pos ha]
      dsimp only
      rw [nt_true, sel_false, fits_len2 (by simp only [List.length_nil]; omega), sel_true, show app ([] : List Nd) l = l from rfl]
      obtain ⟨k1, k2⟩ := clears_val ps true l hv (by omega)
      rw [k1, obind_some]
      dsimp only
      obtain ⟨z, z1, z2⟩ := runs (f := P_overlay_Lay_L1 (ps.map stepN, (true, ()))) ps (fun t i => (([], ((0 : Int), (t, ((i : Int), ())))), ())) (fun t => (0, (([], ((0 : Int), (t, ((ps.length : Int), ())))), ()))) (fun e t i => (1, (([], (e, (t, ((i : Int), ())))), ()))) (fun i x t hx hu => by
          have hi := getElem?_lt hx
          have hy : (ps.map stepN)[i]? = some (stepN x) := by rw [List.getElem?_map, hx]; rfl
          unfold P_overlay_Lay_L1
          dsimp only
          rw [ltI_len_true (show i < (ps.map stepN).length by rw [List.length_map]; exact hi), sel_true, idx_some' hy, obind_some, iadd_one (by omega)]
          rw [show P_inv_puts (stepN x, (t, ())) = _ from invPuts_val hu x (hp.2 x (List.mem_of_getElem? hx)), obind_some]
          dsimp only
          by_cases he : (putsF t x).2 = 0
          · rw [eqI_true he, if_pos he]; rfl
          · rw [eqI_false he, if_neg he]; rfl) (fun t => by
          unfold P_overlay_Lay_L1
          dsimp only
          rw [show ltI (ps.length : Int) (len (ps.map stepN)) = false by rw [← List.length_map (f := stepN)]; exact ltI_len_end, sel_false]) ps.length 0 (ps.foldl clrT l) (by omega) k2
      rw [List.drop_zero] at z2
      rw [show Loop (P_overlay_Lay_L1 (ps.map stepN, (true, ()))) (([], ((0 : Int), (ps.foldl clrT l, ((0 : Int), ())))), ()) = _ from z1, obind_some]
      rcases z2 with ⟨a1, a2⟩ | ⟨a1, t', i', a2⟩
      · rw [a2, a1]; rfl
      · rw [a2]
        rcases runF_valid ps _ k2 with ⟨b1, _⟩ | ⟨_, b2⟩
        · exact absurd b1 a1
        · rw [b2]; rfl
    · rw [if_neg ha, if_neg ha]; rfl
  · have : e ≠ 0 := fun q => hv (c2.1 q)
    rw [eqI_false this, nt_false, sel_true, if_neg hv]

theorem refLay_val (l : List Nd) (ps : List Pt) (hl : SmL l) (hp : SmPs ps) : P_ref15_Lay (l, (ps, ())) = some ((layF l ps).1, ((layF l ps).2, ())) := by
  obtain ⟨e, c1, c2⟩ := isTree_val l hl
  have h1 := hl.1
  have h2 := hp.1
  unfold P_ref15_Lay layF
  dsimp only
  rw [c1, obind_some]
  dsimp only
  by_cases hv : Valid l
  · rw [c2.2 hv, nt_true, sel_false, if_pos hv, refClean15_val ps hp, obind_some]
    dsimp only
    by_cases ha : allOk ps = true
    · rw [if_pos ha, ha, nt_true, sel_false]
      have k1 := refClears_val l ps hp hv
      have k2 := folds_valid ps l hv
      rw [k1, obind_some]
      dsimp only
      obtain ⟨z, z1, z2⟩ := runs (f := P_ref15_Lay_L1 (l, (ps, ()))) ps (fun t i => ((t, ([], ((0 : Int), ((i : Int), ())))), ())) (fun t => (0, ((t, ([], ((0 : Int), ((ps.length : Int), ())))), ()))) (fun e t i => (1, ((t, ([], (e, ((i : Int), ())))), ()))) (fun i x t hx hu => by
          have hi := getElem?_lt hx
          have hpx := hp.2 x (List.mem_of_getElem? hx)
          have hsh := whatN_sh x
          unfold P_ref15_Lay_L1
          dsimp only
          rw [ltI_len_true hi, sel_true, idx_some' hx, obind_some, refWhat_val x hpx, obind_some, iadd_one (by omega)]
          dsimp only
          rw [refDirs_val hsh hu, obind_some, obind_some]
          unfold P_ref15_node
          dsimp only
          rw [obind_some]
          dsimp only
          by_cases h0 : (whatN x).1 = 0
          · have hj := joinS_nil hsh.1
            by_cases hn : (whatN x).2.1 = []
            · have hpf : putsF t x = (t, 0) := by unfold putsF; rw [if_neg (fun q => q.2 hn)]
              rw [hpf, eqI_true h0, eqS_true (hj.2 hn)]; rfl
            · have hpf : putsF t x = nodeF (whatN x).2.1 t (nodeOf x (joinS (whatN x).2.1)) := by unfold putsF; rw [if_pos ⟨h0, hn⟩]
              rw [hpf, eqI_true h0, eqS_false (fun q => hn (hj.1 q))]
              rw [show ∀ (A B : Option ((((List Nd) × (List Nd) × Int × Int × Unit) × Unit) ⊕ (Nat × ((List Nd) × (List Nd) × Int × Int × Unit) × Unit))), sel (sel (nt (nt true)) false true) A B = B from fun A B => rfl]
              by_cases hd : (dirsF (whatN x).2.1.dropLast [] t).2 = 0
              · have hnf : nodeF (whatN x).2.1 t (nodeOf x (joinS (whatN x).2.1)) = t14_putF (dirsF (whatN x).2.1.dropLast [] t).1 (nodeOf x (joinS (whatN x).2.1)) := by unfold nodeF; rw [if_pos hd]
                have hv2 := dirsF_valid _ _ _ hu hd
                have hput := t14_refPut_val (dirsF (whatN x).2.1.dropLast [] t).1 (nodeOf x (joinS (whatN x).2.1)) (valid_sm hv2) (node_sm hpx hsh)
                rw [hnf, eqI_true hd, if_pos hd, nt_true, sel_false]
                rw [show P_ref14_Put ((dirsF (whatN x).2.1.dropLast [] t).1, ((joinS (whatN x).2.1, (x.1.2.1, (x.1.2.2.1, (x.2.1, (x.1.2.2.2.2.2.2.2.1, ()))))), ())) = _ from hput, obind_some]
                dsimp only
                by_cases he : (t14_putF (dirsF (whatN x).2.1.dropLast [] t).1 (nodeOf x (joinS (whatN x).2.1))).2 = 0
                · rw [eqI_true he, if_pos he]; rfl
                · rw [eqI_false he, if_neg he]; rfl
              · have hnf : nodeF (whatN x).2.1 t (nodeOf x (joinS (whatN x).2.1)) = ([], (dirsF (whatN x).2.1.dropLast [] t).2) := by unfold nodeF; rw [if_neg hd]
                rw [hnf, eqI_false hd, if_neg hd, if_neg hd]
                rfl
          · have hpf : putsF t x = (t, 0) := by unfold putsF; rw [if_neg (fun q => h0 q.1)]
            rw [hpf, eqI_false h0]; rfl) (fun t => by
          unfold P_ref15_Lay_L1
          dsimp only
          rw [ltI_len_end, sel_false]) ps.length 0 (ps.foldl clrT l) (by omega) k2
      rw [List.drop_zero] at z2
      rw [show Loop (P_ref15_Lay_L1 (l, (ps, ()))) ((ps.foldl clrT l, ([], ((0 : Int), ((0 : Int), ())))), ()) = _ from z1, obind_some]
      rcases z2 with ⟨a1, a2⟩ | ⟨a1, t', i', a2⟩
      · rw [a2, a1]; rfl
      · rw [a2]
        rcases runF_valid ps _ k2 with ⟨b1, _⟩ | ⟨_, b2⟩
        · exact absurd b1 a1
        · rw [b2]; rfl
    · rw [if_neg ha, show allOk ps = false by simpa using ha]; rfl
  · have : e = false := by
      cases e with
      | false => rfl
      | true => exact absurd (c2.1 rfl) hv
    rw [this, if_neg hv]; rfl

theorem lay_few (l : List Nd) (ps : List Pt) : (layF l ps).1.length ≤ 64 := by
  unfold layF
  split
  · rename_i hv
    split
    · rcases runF_valid ps _ (folds_valid ps l hv) with ⟨_, h⟩ | ⟨_, h⟩
      · exact h.few
      · rw [h]; simp
    · simp
  · simp

end Go.Ge

/- A reader that nobody made reads nothing. -/
namespace Go.Ge
set_option linter.unusedVariables false
set_option linter.unusedSimpArgs false

def rd0 : Rd := (false, ([], (0, (false, (false, ())))))

abbrev Ns := (Bool × Int × Unit) × (Unit × Unit × Unit) × Rd × Unit
def ns (k : Int) : Ns := ((false, (k, ())), (((), ((), ())), (rd0, ())))

end Go.Ge

/- What must come in layer 15, whatever the arguments are: in plain words. -/
namespace Go.Ge
set_option linter.unusedVariables false

def putB' (l : List Nd) (n : Nd) : List Nd × Int := if mayF n = true then t14_putB l n else ([], 1)
theorem putB_eq {l : List Nd} (h : Valid l) (n : Nd) : t14_putF l n = putB' l n := by
  unfold putB'
  by_cases hm : mayF n = true
  · rw [if_pos hm, putF_eq h hm]
  · rw [if_neg hm]
    unfold t14_putF
    rw [if_pos (.inr (by simpa using hm))]
def dirsB : List (List UInt8) → List UInt8 → List Nd → List Nd × Int
  | [], _, t => (t, 0)
  | nm :: r, a, t =>
    if (findF t (joinP a nm)).2.1 = true ∧ (findF t (joinP a nm)).1.2.1 = 2 then dirsB r (joinP a nm) t
    else if (putB' t (dirM 493 (joinP a nm))).2 = 0 then dirsB r (joinP a nm) (putB' t (dirM 493 (joinP a nm))).1
    else ([], (putB' t (dirM 493 (joinP a nm))).2)
theorem dirsB_eq : ∀ (r : List (List UInt8)) (a : List UInt8) (t : List Nd), Valid t → dirsF r a t = dirsB r a t := by
  intro r
  induction r with
  | nil => intro a t _; rfl
  | cons nm r ih =>
    intro a t h
    unfold dirsF dirsB
    rw [← putB_eq h]
    split
    · exact ih _ _ h
    · split
      · rename_i hp; exact ih _ _ (putF_valid hp)
      · rfl
def nodeB (ns : List (List UInt8)) (t : List Nd) (n : Nd) : List Nd × Int := if (dirsB ns.dropLast [] t).2 = 0 then putB' (dirsB ns.dropLast [] t).1 n else ([], (dirsB ns.dropLast [] t).2)
theorem nodeB_eq (ns : List (List UInt8)) {t : List Nd} (h : Valid t) (n : Nd) : nodeF ns t n = nodeB ns t n := by
  unfold nodeF nodeB
  rw [← dirsB_eq _ _ _ h]
  split
  · rename_i hd; exact putB_eq (dirsF_valid _ _ _ h hd) n
  · rfl
def putsB (t : List Nd) (p : Pt) : List Nd × Int := if (whatN p).1 = 0 ∧ (whatN p).2.1 ≠ [] then nodeB (whatN p).2.1 t (nodeOf p (joinS (whatN p).2.1)) else (t, 0)
theorem putsB_eq {t : List Nd} (h : Valid t) (p : Pt) : putsF t p = putsB t p := by
  unfold putsF putsB
  split
  · exact nodeB_eq _ h _
  · rfl
def runB : List Pt → List Nd → List Nd × Int
  | [], t => (t, 0)
  | p :: r, t => if (putsB t p).2 = 0 then runB r (putsB t p).1 else ([], (putsB t p).2)
theorem runB_eq : ∀ (l : List Pt) (t : List Nd), Valid t → runF l t = runB l t := by
  intro l
  induction l with
  | nil => intro t _; rfl
  | cons p r ih =>
    intro t h
    unfold runF runB
    rw [← putsB_eq h]
    split
    · rename_i hp; exact ih _ (putsF_valid h hp)
    · rfl
theorem lay_run {l : List Nd} {ps : List Pt} {r : List Nd × Int} (h : validB l = true) (hp : SmPs ps) (hr : (if allOk ps = true then runB ps (ps.foldl clrT l) else ([], 10)) = r) : P_overlay_Lay (l, (ps, ())) = some (r.1, (r.2, ())) := by
  have hv := validB_valid h
  rw [lay_val l ps (valid_sm hv) hp]
  unfold layF
  rw [if_pos hv, runB_eq _ _ (folds_valid ps l hv), hr]

def aF (path data : List UInt8) : Pt := ((path, (1, (420, (0, (0, (len data, (0, ([], ())))))))), (data, ()))
def aT1 : List Nd := [([98], (1, (420, ([121], ([], ()))))), ([100], (2, (493, ([], ([], ()))))), ([100, 47, 97], (1, (420, ([120], ([], ())))))]
def aT2 : List Nd := [([100], (2, (493, ([], ([], ()))))), ([100, 47, 97], (1, (420, ([122], ([], ())))))]
theorem aF_sm {p d : List UInt8} (hp : p.length ≤ 300) (hd : d.length ≤ 300) : SmP (aF p d) := ⟨hp, by simp [aF], by show d.length ≤ 8192; omega⟩
theorem aL1 : P_overlay_Lay ([], ([aF [46, 47, 100, 47, 97] [120], aF [98] [121]], ())) = some (aT1, (0, ())) := lay_run (r := (aT1, 0)) (by decide +kernel) ⟨by simp, fun p hp => by
  simp only [List.mem_cons, List.not_mem_nil, or_false] at hp
  rcases hp with rfl | rfl <;> exact aF_sm (by simp) (by simp)⟩ (by kernel_rfl)
theorem aL2 : P_overlay_Lay (aT1, ([aF [100, 47, 46, 119, 104, 46, 97] [], aF [46, 119, 104, 46, 98] [], aF [100, 47, 97] [122]], ())) = some (aT2, (0, ())) := lay_run (r := (aT2, 0)) (by decide +kernel) ⟨by simp, fun p hp => by
  simp only [List.mem_cons, List.not_mem_nil, or_false] at hp
  rcases hp with rfl | rfl | rfl <;> exact aF_sm (by simp) (by simp)⟩ (by kernel_rfl)
theorem aL3 : P_overlay_Lay (aT2, ([aF [46, 46, 47, 120] []], ())) = some ([], (10, ())) := lay_run (r := ([], 10)) (by decide +kernel) ⟨by simp, fun p hp => by
  simp only [List.mem_cons, List.not_mem_nil, or_false] at hp
  rcases hp with rfl; exact aF_sm (by simp) (by simp)⟩ (by kernel_rfl)
theorem check_bad {s : List UInt8} (h : P_tar_Read (s, ()) = some ([], (10, ()))) : P_overlay_Check (s, ()) = some (10, ()) := by
  unfold P_overlay_Check
  dsimp only
  rw [h, obind_some]
  dsimp only
  rw [steps_val [] ⟨by simp, fun p hp => by cases hp⟩, obind_some]
  rfl
theorem read_x : P_tar_Read ([120], ()) = some ([], (10, ())) := by
  unfold P_tar_Read
  have h1 : P_tar_Reader_Next ((), ((true, (([120] : List UInt8), ((0 : Int), (ltI (8192 : Int) (@len UInt8 [120]), (ltI (8192 : Int) (@len UInt8 [120]), ()))))), ())) = some ((zeroPt, (false, ())), ((true, ([], ((0 : Int), (true, (true, ()))))), ())) := by kernel_rfl
  dsimp only
  rw [h1, obind_some]
  dsimp only
  rw [Loop_eq, step_last]
  rfl
theorem aC1 : P_overlay_Check ([120], ()) = some (10, ()) := check_bad read_x
theorem zeros_nul : intsBytes (lrep (1024 : Int) (0 : Int)) = nul 1024 := by
  unfold lrep intsBytes nul
  rw [List.map_replicate]
  rfl
theorem read_zeros : P_tar_Read (nul 1024, ()) = some ([], (0, ())) := by
  have hz : ∀ x ∈ nul 1024, x = 0 := nul_all _
  have hl : (nul 1024).length = 1024 := length_nul _
  unfold P_tar_Read
  dsimp only
  rw [ltI_false (show len (nul 1024) ≤ 8192 by unfold len; omega)]
  rw [show P_tar_Reader_Next ((), ((true, (nul 1024, ((0 : Int), (false, (false, ()))))), ())) = _ from next_zero (nul 1024) 0 (by omega) (by omega) (fun x hx => hz x (List.mem_of_mem_take hx)), decide_eq_true ⟨by omega, by omega, hz⟩, obind_some]
  dsimp only
  rw [Loop_eq, step_last]
  rfl
theorem aC2 : P_overlay_Check (intsBytes (lrep (1024 : Int) (0 : Int)), ()) = some (0, ()) := by
  unfold P_overlay_Check
  dsimp only
  rw [zeros_nul, read_zeros, obind_some]
  dsimp only
  rw [steps_val [] ⟨by simp, fun p hp => by cases hp⟩, obind_some]
  rfl

theorem awake15 : P_law15_awake () = some (true, ()) := by
  unfold P_law15_awake P_law15_file
  have l1 := aL1
  have l2 := aL2
  have l3 := aL3
  unfold aF at l1 l2 l3
  unfold aT1 at l1 l2
  unfold aT2 at l2 l3
  simp only [obind_some]
  rw [l1, obind_some]
  dsimp only
  rw [l2, obind_some]
  dsimp only
  rw [l3, obind_some]
  dsimp only
  rw [aC1, obind_some]
  dsimp only
  rw [aC2]
  rfl
end Go.Ge

/- The law OverlayLays: any entries laid on any nodes, or why they are not: in plain words. -/
namespace Go.Ge
set_option linter.unusedVariables false
set_option linter.unusedSimpArgs false

theorem ifawake15 {c : Bool} {x : Option (Bool × Unit)} (h : c = false → x = some (true, ())) : sel c (obind (P_law15_awake ()) fun y => some (y.1, ())) x = some (true, ()) := by
  cases c with
  | true => rw [sel_true, awake15]; rfl
  | false => rw [sel_false]; exact h rfl

theorem few_smps {ps : List Pt} {n : Nat} (hn : n ≤ 1000) (h : FewP ps n) : SmPs ps := ⟨by have := h.many; omega, fun p hp => ⟨h.path p hp, h.link p hp, h.data p hp⟩⟩

theorem overlayLays_val (l : List Nd) (ps : List Pt) : P_law15_OverlayLays (l, (ps, ())) = some (true, ()) := by
  obtain ⟨f1, e1, g1⟩ := few14_val l 66 66 rfl (by omega)
  obtain ⟨f2, e2, g2⟩ := few_val ps 20 (by omega)
  unfold P_law15_OverlayLays
  dsimp only
  rw [e1, obind_some, show P_ref13_Few (ps, ((20 : Int), ())) = _ from e2, obind_some]
  dsimp only
  rw [show (sel (nt (nt f1)) (some (nt f2)) (some true) : Option Bool) = some (!(f1 && f2)) by cases f1 <;> cases f2 <;> rfl, obind_some]
  refine ifawake15 fun hc => ?_
  have hf : f1 = true ∧ f2 = true := by cases f1 <;> cases f2 <;> first | exact ⟨rfl, rfl⟩ | cases hc
  obtain ⟨la, ha⟩ := g1 hf.1
  have hps := few_smps (n := 20) (by omega) (g2 hf.2)
  have h64 := lay_few l ps
  rw [lay_val l ps ha hps, obind_some, refLay_val l ps ha hps, obind_some]
  dsimp only
  rw [t14_same_self _ (by omega), obind_some, awake15, obind_some, eqI_true rfl]
  rfl
end Go.Ge
