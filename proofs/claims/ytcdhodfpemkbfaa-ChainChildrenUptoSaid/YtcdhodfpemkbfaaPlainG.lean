/- Layer 19 in plain words: the second law. -/
import Derived.Test.YtcdhodfpemkbfaaPlainF
namespace Go.Proofs.Ytcdhodfpemkbfaa
open Go Go.Ge
set_option linter.unusedVariables false
set_option linter.unusedSimpArgs false

theorem eB_at (l : List Ly) (hl : l.length ≤ 2097152) (i : Nat) (h : i < l.length) : eB (some (true, ())) l ((false, (i : Int), ()), ()) = sel (eqS l[i].1 []) (some (Sum.inr (1, ((true, (i : Int), ()), ())))) (some (Sum.inl ((false, ((i + 1 : Nat) : Int), ()), ()))) := by
  unfold eB
  have h1 : ltI (i : Int) (len l) = true := by simp only [len, ltI_nat, h, decide_true]
  dsimp only
  rw [h1, sel_true, idx_lt h, obind_some, obind_some, iadd_one (by omega)]

theorem eB_loop (l : List Ly) (hl : l.length ≤ 2097152) : (∃ k : Nat, Ge.Loop (eB (some (true, ())) l) ((false, 0, ()), ()) = some (1, ((true, (k : Int), ()), ()))) ∨
    (Ge.Loop (eB (some (true, ())) l) ((false, 0, ()), ()) = some (0, ((false, (l.length : Int), ()), ())) ∧ ∀ x ∈ l, x.1 ≠ []) := by
  cases hf : l.findIdx? (fun x => eqS x.1 []) with
  | none =>
    rw [List.findIdx?_eq_none_iff] at hf
    refine .inr ⟨loop_seq (f := eB (some (true, ())) l) l.length (fun i => ((false, (i : Int), ()), ())) (fun i hi => by rw [eB_at l hl i hi, hf _ (List.getElem_mem hi), sel_false]) ?_, fun x hx => eqS_false (hf x hx)⟩
    unfold eB
    have h1 : ltI (l.length : Int) (len l) = false := by simp only [len, ltI_nat, Nat.lt_irrefl, decide_false]
    dsimp only
    rw [h1, sel_false]
  | some k =>
    rw [List.findIdx?_eq_some_iff_getElem] at hf
    obtain ⟨hk, h1, h2⟩ := hf
    exact .inl ⟨k, loop_seq (f := eB (some (true, ())) l) k (fun i => ((false, (i : Int), ()), ())) (fun i hi => by rw [eB_at l hl i (by omega), show eqS (l[i]'(by omega)).1 [] = false by have := h2 i hi; simpa using this, sel_false])
      (by rw [eB_at l hl k hk, h1, sel_true])⟩

theorem isB_loop (c : List Str) (hc : c.length ≤ 2097152) (id : Str) : Ge.Loop (isB c id) ((false, 0, ()), ()) = some ((c.any (fun y => eqS y id), (c.length : Int), ()), ()) := by
  have := loop_seq (f := isB c id) (r := ((c.any (fun y => eqS y id), (c.length : Int), ()), ())) c.length (fun i => (((c.take i).any (fun y => eqS y id), (i : Int), ()), ())) (fun i hi => ?_) ?_
  · exact this
  · unfold isB
    have h1 : ltI (i : Int) (len c) = true := by simp only [len, ltI_nat, hi, decide_true]
    dsimp only
    rw [h1, sel_true, idx_lt hi, obind_some, iadd_one (by omega), List.take_add_one, List.getElem?_eq_getElem hi, List.any_append]
    cases (c.take i).any (fun y => eqS y id) <;> simp [nt, sel, obind, way1]
  · unfold isB
    have h1 : ltI (c.length : Int) (len c) = false := by simp only [len, ltI_nat, Nat.lt_irrefl, decide_false]
    dsimp only
    rw [h1, sel_false, List.take_length]
    rfl

theorem place (u : Int) (n : Nat) (h0 : 0 ≤ u) (h1 : u ≤ 255) (hn : 0 < n) : ∃ k : Nat, k < n ∧ irem (icv .i64 u) (n : Int) = (k : Int) := by
  obtain ⟨v, rfl⟩ := Int.eq_ofNat_of_zero_le h0
  refine ⟨v % n, Nat.mod_lt _ hn, ?_⟩
  have e : icv .i64 (v : Int) = (v : Int) := by
    unfold icv
    simp [IntKind.wrap, IntKind.min, IntKind.max, IntKind.signed, IntKind.bits]
    omega
  rw [e]
  unfold irem
  rw [Int.tmod_eq_emod_of_nonneg (by omega)]
  simp

theorem isub_one (n : Nat) (h : n ≤ 100) : isub .i64 ((n + 1 : Nat) : Int) 1 = (n : Int) := by
  unfold isub
  simp [IntKind.wrap, IntKind.min, IntKind.max, IntKind.signed, IntKind.bits]
  omega

theorem roots_of (l : List Ly) (hne : l ≠ []) (hc : chkP l = 0) : rootsP l ≠ [] := by
  obtain ⟨x, l', rfl⟩ : ∃ x l', l = x :: l' := by
    cases l with
    | nil => exact absurd rfl hne
    | cons x l' => exact ⟨x, l', rfl⟩
  generalize hL : x :: l' = l at *
  have hx : x ∈ l := by rw [← hL]; exact List.mem_cons_self ..
  unfold chkP at hc
  cases hf : l.findIdx? (badP l) with
  | some k => rw [hf] at hc; exact absurd (show (2 : Int) = 0 from hc) (by decide)
  | none =>
    rw [List.findIdx?_eq_none_iff] at hf
    have hb := hf x hx
    unfold badP at hb
    have h0 : (chainP l 16 x.1 []).2 = 0 := by
      simpa [nt, eqI] using hb
    obtain ⟨y, y1, _, y3⟩ := chain_last l 16 x.1 (chainP l 16 x.1 []).1 (by rw [← h0])
    intro hr
    have : y.1 ∈ rootsP l := List.mem_map.2 ⟨y, List.mem_filter.2 ⟨y1, by simp [rootP, eqS, y3]⟩, rfl⟩
    rw [hr] at this
    cases this

theorem ends_shape {l : List Ly} (hl : Small l) {u : Int} (h0 : 0 ≤ u) (h1 : u ≤ 255) {F : Option (Bool × Unit)} {C : List Ly × Str × Unit → Option (List Ly × Int × Unit)} {K : List Ly × Str × Unit → Option (List Str × Unit)} {SL : List Ly × List Ly × Unit → Option (Bool × Unit)} {b : Bool}
    (hF : F = some (b, ())) (hC : ∀ id, C (l, id, ()) = some ((chainP l 16 id []).1, (chainP l 16 id []).2, ())) (hK : ∀ id, K (l, id, ()) = some (kidsP l id, ()))
    (hSL : ∀ a : List Ly, a.length ≤ 2097152 → (∀ x ∈ a, x ∈ l) → SL (a, a, ()) = some (true, ())) :
    endsT l u F (some (true, ())) (some (chkP l, ())) (some (rootsP l, ())) C K SL = some (true, ()) := by
  subst hF
  unfold endsT
  simp only [obind_some]
  have hn : ∀ b : Bool, nt (nt b) = b := fun b => by cases b <;> rfl
  rw [hn]
  by_cases hempty : l.length = 0
  · have e : eqI (len l) 0 = true := by simp [eqI, len, hempty]
    rw [e]
    cases b <;> rfl
  have hpos : 0 < l.length := Nat.pos_of_ne_zero hempty
  have e0 : eqI (len l) 0 = false := by unfold eqI len; exact decide_eq_false (by omega)
  rw [e0]
  cases b with
  | false => rfl
  | true =>
  rw [sel_true, sel_false]
  rcases eB_loop l hl.1 with ⟨k, hk⟩ | ⟨hk, hids⟩
  · rw [hk]; rfl
  rw [hk, obind_some]
  rw [show eqN ((0, ((false, (l.length : Int), ()), ())) : Nat × S1).1 0 = true from rfl, sel_true]
  -- no layers without a root
  have hv : sel (eqI (chkP l) 0) (some (eqI (len (rootsP l)) 0)) (some false) = some false := by
    by_cases hc : chkP l = 0
    · have hr := roots_of l (fun h => by rw [h] at hpos; exact absurd hpos (by decide)) hc
      have : eqI (len (rootsP l)) 0 = false := by
        unfold eqI len
        refine decide_eq_false fun h => hr (List.length_eq_zero_iff.1 ?_)
        omega
      rw [this]
      cases eqI (chkP l) 0 <;> rfl
    · have : eqI (chkP l) 0 = false := by unfold eqI; exact decide_eq_false hc
      rw [this]; rfl
  rw [hv, obind_some, sel_false, sel_false]
  obtain ⟨k0, hk0, hpl⟩ := place u l.length h0 h1 hpos
  have hpl' : irem (icv .i64 u) (len l) = (k0 : Int) := hpl
  rw [hpl', idx_lt hk0, obind_some, hC, obind_some]
  generalize hid : l[k0].1 = id
  have hidne : id ≠ [] := by rw [← hid]; exact hids _ (List.getElem_mem hk0)
  dsimp only
  by_cases he : (chainP l 16 id []).2 = 0
  case neg =>
    have e1 : eqI (chainP l 16 id []).2 0 = false := by unfold eqI; exact decide_eq_false he
    rw [e1, nt_false, sel_true, chain_none l 16 id [] he]
    rfl
  case pos =>
    have e1 : eqI (chainP l 16 id []).2 0 = true := by unfold eqI; exact decide_eq_true he
    rw [e1, nt_true, sel_false]
    have hm : chainP l (15 + 1) id [] = ((chainP l 16 id []).1, 0) := by rw [← he]
    obtain ⟨k, x, r, a1, a2, a3, a4⟩ := chain_head l 15 id _ hm
    obtain ⟨ylast, y1, y2, y3⟩ := chain_last l 16 id _ hm
    have hsm := (chain_small l 16 id []).1
    have hmem := (chain_small l 16 id []).2
    rw [a3] at y2 hsm hmem ⊢
    have hlen : r.length + 1 ≤ 16 := by simpa using hsm
    obtain ⟨hkl, b1, _⟩ := atP_some a1
    have hx : l[k] = x := by rw [List.getElem?_eq_getElem hkl] at a2; exact Option.some.inj a2
    rw [hx] at b1
    have hx1 : x.1 = id := eqS_true b1
    have l1 : len (x :: r) = ((r.length + 1 : Nat) : Int) := by simp [len]
    have c1 : eqI (len (x :: r)) 0 = false := by rw [l1]; unfold eqI; exact decide_eq_false (by omega)
    have c2 : ltI 16 (len (x :: r)) = false := by rw [l1]; unfold ltI; exact decide_eq_false (by omega)
    have i0 : idx (x :: r) 0 = some x := rfl
    rw [c1, c2, nt_false, sel_true, nt_false, sel_true, i0, obind_some, hx1, eqS_self, nt_true, obind_some, nt_false, sel_true]
    have ilast : idx (x :: r) (isub IntKind.i64 (len (x :: r)) 1) = some ylast := by
      rw [l1, isub_one _ (by omega), idx_nat, ← y2, List.getLast?_eq_getElem?]
      simp
    rw [ilast, obind_some, y3, eqS_self, nt_true, obind_some, sel_false]
    rcases a4 with ⟨a4, rfl⟩ | ⟨a4, a5⟩
    · rfl
    · have hsh : chainP l 15 x.2.1 ([] ++ []) = (r, 0) := a5
      obtain ⟨r', s1, s2⟩ := chain_shift l 15 x.2.1 [] [] r hsh
      have s2 := s2 1
      rw [List.nil_append] at s1
      subst s1
      obtain ⟨k2, z, r2, t1, t2, t3, _⟩ := chain_head l 14 x.2.1 r a5
      obtain ⟨hk2, v1, _⟩ := atP_some t1
      have hz : l[k2] = z := by rw [List.getElem?_eq_getElem hk2] at t2; exact Option.some.inj t2
      rw [hz] at v1
      have hz1 : z.1 = x.2.1 := eqS_true v1
      have c3 : eqI (len (x :: r)) 1 = false := by rw [l1, t3]; unfold eqI; exact decide_eq_false (by simp; omega)
      have i1 : idx (x :: r) 1 = some z := by rw [t3]; rfl
      have hs2 : chainP l 16 x.2.1 [] = (r, 0) := s2
      rw [c3, sel_false, obind_some, hC, hs2, obind_some, i1, obind_some, hK, obind_some]
      dsimp only
      have hkl2 : (kidsP l z.1).length ≤ 2097152 := Nat.le_trans (picked_len l _) hl.1
      rw [isB_loop _ hkl2, obind_some]
      have hany : (kidsP l z.1).any (fun y => eqS y id) = true := by
        rw [List.any_eq_true]
        refine ⟨id, List.mem_map.2 ⟨x, List.mem_filter.2 ⟨by rw [← hx]; exact List.getElem_mem hkl, ?_⟩, hx1⟩, eqS_self id⟩
        unfold kidP
        rw [hz1]
        have : eqS x.2.1 [] = false := by
          cases hq : eqS x.2.1 [] with
          | false => rfl
          | true => exact absurd (eqS_true hq) a4
        rw [this, eqS_self]; rfl
      have hin : inside 1 (len (x :: r)) (len (x :: r)) = true := by
        rw [l1]; unfold inside; simp; omega
      have hsub : sub (x :: r) 1 (minus (len (x :: r)) 1) = r := by
        rw [l1]; unfold sub minus; simp
      have hr : ∀ y ∈ r, y ∈ l := fun y hy => by
        rcases hmem y (List.mem_cons_of_mem _ hy) with h | h
        · exact h
        · cases h
      rw [hany, eqI_self, sel_true, hin, sel_true, hsub, hSL r (by omega) hr]
      rfl

theorem ends_val {l : List Ly} (hl : Small l) {u : Int} (h0 : 0 ≤ u) (h1 : u ≤ 255) : sem cx4 9 plans 4 (A2 LS (.int .u8)) (A1 .bool) (l, u, ()) = some (true, ()) := by
  refine (ends_eq l u).trans ?_
  obtain ⟨b, hb⟩ := few_ends l hl.1
  rw [awake_val, check_val hl, roots_val l hl.1]
  exact ends_shape hl h0 h1 hb (chain_val hl) (fun id => kids_val l id hl.1) (fun a ha hm => sameL_self a ha fun x hx => hl.2 x (hm x hx))
end Go.Proofs.Ytcdhodfpemkbfaa
