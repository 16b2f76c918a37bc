/- Layer 19 in plain words: both chains are one. -/
import Derived.Test.YtcdhodfpemkbfaaPlainB
namespace Go.Proofs.Ytcdhodfpemkbfaa
open Go Go.Ge
set_option linter.unusedVariables false
set_option linter.unusedSimpArgs false

abbrev S8i := (List Ly × Int × Unit × Str × Int × Unit) × List Ly × Unit
abbrev S8 := (List Ly × Int × Unit × Str × Unit) × List Ly × Unit
abbrev S9 := (Str × List Ly × Int × Unit × Int × Unit) × List Ly × Unit

noncomputable def inB (l : List Ly) (x : S8i) : Option (S8i ⊕ (Nat × S8i)) :=
  sel (ltI x.1.2.2.2.2.1 (len l))
    (obind (idx l x.1.2.2.2.2.1) fun x_1 =>
      sel (nt (eqS x_1.1 x.1.2.2.2.1)) (some (Sum.inl ((x.1.1, x.1.2.1, (), x.1.2.2.2.1, iadd IntKind.i64 x.1.2.2.2.2.1 1, ()), x.2.1, ())))
        (sel (eqI (len x.2.1) 16) (some (Sum.inr (1, ([], 5, (), x.1.2.2.2.1, x.1.2.2.2.2.1, ()), x.2.1, ())))
          (obind (cClone.spec (x_1.2.2.1, ())) fun x_2 =>
            sel (fits (plus (len x.2.1) (len [((x_1.1, x_1.2.1, x_2.1, x_1.2.2.2) : Ly)])))
              (sel (eqS x_1.2.1 []) (some (Sum.inr (2, (x.1.1, x.1.2.1, (), x.1.2.2.2.1, x.1.2.2.2.2.1, ()), app x.2.1 [(x_1.1, x_1.2.1, x_2.1, x_1.2.2.2)], ())))
                (some (Sum.inr (3, (x.1.1, x.1.2.1, (), x_1.2.1, x.1.2.2.2.2.1, ()), app x.2.1 [(x_1.1, x_1.2.1, x_2.1, x_1.2.2.2)], ()))))
              none)))
    (some (Sum.inr (0, (x.1.1, x.1.2.1, (), x.1.2.2.2.1, x.1.2.2.2.2.1, ()), x.2.1, ())))

noncomputable def outB (l : List Ly) (x : S8) : Option (S8 ⊕ (Nat × S8)) :=
  obind (Ge.Loop (inB l) ((x.1.1, x.1.2.1, (), x.1.2.2.2.1, 0, ()), x.2.1, ())) fun x =>
    sel (eqN x.1 0) (some (Sum.inr (0, ([], 3, (), x.2.1.2.2.2.1, ()), x.2.2.1, ())))
      (sel (eqN (x.1 - 1) 0) (some (Sum.inr (0, (x.2.1.1, x.2.1.2.1, (), x.2.1.2.2.2.1, ()), x.2.2.1, ())))
        (sel (eqN (x.1 - 1 - 1) 0) (some (Sum.inr (1, (x.2.1.1, x.2.1.2.1, (), x.2.1.2.2.2.1, ()), x.2.2.1, ())))
          (some (Sum.inl ((x.2.1.1, x.2.1.2.1, (), x.2.1.2.2.2.1, ()), x.2.2.1, ())))))

theorem chain_eq (l : List Ly) (id : Str) : cChain.spec (l, id, ()) = obind (Ge.Loop (outB l) (([], 0, (), id, ()), [], ())) fun x => sel (eqN x.1 0) (some (x.2.1.1, x.2.1.2.1, ())) (some (x.2.2.1, 0, ())) := by kernel_rfl

def fB (l : List Ly) (id : Str) (x : SI) : Option (SI ⊕ (Nat × SI)) :=
  sel (ltI x.1.2.1 (len l))
    (obind (idx l x.1.2.1) fun x_1 => sel (eqS x_1.1 id) (some (Sum.inr (1, (x.1.2.1, x.1.2.1, ()), ()))) (some (Sum.inl ((x.1.1, iadd IntKind.i64 x.1.2.1 1, ()), ()))))
    (some (Sum.inr (0, (x.1.1, x.1.2.1, ()), ())))
theorem find_eq (l : List Ly) (id : Str) : cFind.spec (l, id, ()) = obind (Ge.Loop (fB l id) ((0, 0, ()), ())) fun x => sel (eqN x.1 0) (some (-1, ())) (some (x.2.1.1, ())) := by kernel_rfl

noncomputable def rB (l : List Ly) (x : S9) : Option (S9 ⊕ (Nat × S9)) :=
  sel (leI x.1.2.2.2.2.1 16)
    (obind (cFind.spec (l, x.1.1, ())) fun x_1 =>
      sel (ltI x_1.1 0) (some (Sum.inr (1, (x.1.1, [], 3, (), x.1.2.2.2.2.1, ()), x.2.1, ())))
        (sel (eqI x.1.2.2.2.2.1 16) (some (Sum.inr (1, (x.1.1, [], 5, (), x.1.2.2.2.2.1, ()), x.2.1, ())))
          (obind (idx l x_1.1) fun x_2 =>
            sel (fits (plus (len x.2.1) (len [x_2])))
              (obind (idx l x_1.1) fun x_3 =>
                sel (eqS x_3.2.1 []) (some (Sum.inr (1, (x.1.1, app x.2.1 [x_2], 0, (), x.1.2.2.2.2.1, ()), app x.2.1 [x_2], ())))
                  (obind (idx l x_1.1) fun x_4 => some (Sum.inl ((x_4.2.1, x.1.2.1, x.1.2.2.1, (), iadd IntKind.i64 x.1.2.2.2.2.1 1, ()), app x.2.1 [x_2], ()))))
              none)))
    (some (Sum.inr (0, (x.1.1, x.1.2.1, x.1.2.2.1, (), x.1.2.2.2.2.1, ()), x.2.1, ())))
theorem rchain_eq (l : List Ly) (id : Str) : cRChain.spec (l, id, ()) = obind (Ge.Loop (rB l) ((id, [], 0, (), 0, ()), [], ())) fun x => sel (eqN x.1 0) (some ([], 5, ())) (some (x.2.1.2.1, x.2.1.2.2.1, ())) := by kernel_rfl

/-! ### Who has a name -/
def atP (l : List Ly) (id : Str) : Option Nat := l.findIdx? (fun x => eqS x.1 id)

theorem atP_some {l : List Ly} {id : Str} {k : Nat} (h : atP l id = some k) : ∃ hk : k < l.length, eqS l[k].1 id = true ∧ ∀ j (hj : j < k), eqS (l[j]'(by omega)).1 id = false := by
  unfold atP at h
  rw [List.findIdx?_eq_some_iff_getElem] at h
  obtain ⟨hk, h1, h2⟩ := h
  exact ⟨hk, h1, fun j hj => by have := h2 j hj; simpa using this⟩

theorem atP_none {l : List Ly} {id : Str} (h : atP l id = none) : ∀ j (hj : j < l.length), eqS l[j].1 id = false := by
  unfold atP at h
  rw [List.findIdx?_eq_none_iff] at h
  intro j hj
  exact h _ (List.getElem_mem hj)

def atI (l : List Ly) (id : Str) : Int := match atP l id with | some k => (k : Int) | none => -1

theorem fB_at (l : List Ly) (id : Str) (i : Nat) (h : i < l.length) (hl : l.length ≤ 2097152) : fB l id ((0, (i : Int), ()), ()) = sel (eqS l[i].1 id) (some (Sum.inr (1, ((i : Int), (i : Int), ()), ()))) (some (Sum.inl ((0, ((i + 1 : Nat) : Int), ()), ()))) := by
  unfold fB
  simp only [len, ltI_nat, h, decide_true, sel_true, idx_lt h, obind_some]
  rw [iadd_one (by omega)]

theorem find_val (l : List Ly) (id : Str) (hl : l.length ≤ 2097152) : cFind.spec (l, id, ()) = some (atI l id, ()) := by
  rw [find_eq]
  unfold atI
  cases ha : atP l id with
  | none =>
    have hn := atP_none ha
    have hL : Ge.Loop (fB l id) ((0, 0, ()), ()) = some (0, ((0, (l.length : Int), ()), ())) := loop_seq (f := fB l id) l.length (fun i => ((0, (i : Int), ()), ()))
      (fun i hi => by rw [fB_at l id i hi hl, hn i hi, sel_false])
      (by unfold fB; simp only [len, ltI_nat, Nat.lt_irrefl, decide_false, sel_false])
    rw [hL]; rfl
  | some k =>
    obtain ⟨hk, h1, h2⟩ := atP_some ha
    have hL : Ge.Loop (fB l id) ((0, 0, ()), ()) = some (1, (((k : Int), (k : Int), ()), ())) := loop_seq (f := fB l id) k (fun i => ((0, (i : Int), ()), ()))
      (fun i hi => by rw [fB_at l id i (by omega) hl, h2 i hi, sel_false])
      (by rw [fB_at l id k hk hl, h1, sel_true])
    rw [hL]; rfl

/-! ### The chain, told plainly -/
def chainP (l : List Ly) : Nat → Str → List Ly → List Ly × Int
  | 0, next, out => match atP l next with
    | none => ([], 3)
    | some _ => ([], 5)
  | n + 1, next, out => match atP l next with
    | none => ([], 3)
    | some k => match l[k]? with
      | none => ([], 3)
      | some x => bif eqS x.2.1 [] then (out ++ [x], 0) else chainP l n x.2.1 (out ++ [x])

def Small (l : List Ly) : Prop := l.length ≤ 2097152 ∧ ∀ x ∈ l, x.2.2.1.length ≤ 2097152

theorem clone_val {s : List Str} (h : s.length ≤ 2097152) : cClone.spec (s, ()) = some (s, ()) := by
  have hf : fits (len s) = true := fits_nat' (by omega)
  show (bif fits (len s) then some ((s, ()) : List Str × Unit) else none) = some (s, ())
  rw [hf]; rfl

theorem inB_at (l : List Ly) (hl : Small l) (a4 : List Ly) (a5 : Int) (next : Str) (out : List Ly) (i : Nat) (h : i < l.length) (ho : out.length ≤ 16) :
    inB l ((a4, a5, (), next, (i : Int), ()), out, ()) = sel (nt (eqS l[i].1 next)) (some (Sum.inl ((a4, a5, (), next, ((i + 1 : Nat) : Int), ()), out, ())))
      (sel (eqI (len out) 16) (some (Sum.inr (1, ([], 5, (), next, (i : Int), ()), out, ())))
        (sel (eqS l[i].2.1 []) (some (Sum.inr (2, (a4, a5, (), next, (i : Int), ()), out ++ [l[i]], ()))) (some (Sum.inr (3, (a4, a5, (), l[i].2.1, (i : Int), ()), out ++ [l[i]], ()))))) := by
  unfold inB
  have hc := clone_val (hl.2 _ (List.getElem_mem h))
  have h1 : ltI (i : Int) (len l) = true := by simp only [len, ltI_nat, h, decide_true]
  have hf := fits_more out l[i] (by omega)
  have := hl.1
  rw [h1, sel_true, idx_lt h, obind_some, hc, iadd_one (by omega)]
  have e : obind (some ((l[i].2.2.1, ()) : List Str × Unit)) (fun x_2 => sel (fits (plus (len out) (len [((l[i].1, l[i].2.1, x_2.1, l[i].2.2.2) : Ly)])))
              (sel (eqS l[i].2.1 []) (some (Sum.inr (2, (a4, a5, (), next, (i : Int), ()), app out [((l[i].1, l[i].2.1, x_2.1, l[i].2.2.2) : Ly)], ())))
                (some (Sum.inr (3, (a4, a5, (), l[i].2.1, (i : Int), ()), app out [((l[i].1, l[i].2.1, x_2.1, l[i].2.2.2) : Ly)], ()))))
              (none : Option (S8i ⊕ (Nat × S8i)))) = sel (eqS l[i].2.1 []) (some (Sum.inr (2, (a4, a5, (), next, (i : Int), ()), out ++ [l[i]], ()))) (some (Sum.inr (3, (a4, a5, (), l[i].2.1, (i : Int), ()), out ++ [l[i]], ()))) := by
    rw [obind_some, show ((l[i].1, l[i].2.1, l[i].2.2.1, l[i].2.2.2) : Ly) = l[i] from rfl, hf, sel_true]
    rfl
  exact congrArg (fun t => sel (nt (eqS l[i].1 next)) (some (Sum.inl ((a4, a5, (), next, ((i + 1 : Nat) : Int), ()), out, ()))) (sel (eqI (len out) 16) (some (Sum.inr (1, ([], 5, (), next, (i : Int), ()), out, ()))) t)) e

/-- What an inner round comes to. -/
theorem in_none {l : List Ly} (hl : Small l) {a4 : List Ly} {a5 : Int} {next : Str} {out : List Ly} (ho : out.length ≤ 16) (ha : atP l next = none) :
    Ge.Loop (inB l) ((a4, a5, (), next, 0, ()), out, ()) = some (0, ((a4, a5, (), next, (l.length : Int), ()), out, ())) := by
  have hn := atP_none ha
  exact loop_seq (f := inB l) l.length (fun i => ((a4, a5, (), next, (i : Int), ()), out, ())) (fun i hi => by rw [inB_at l hl a4 a5 next out i hi ho, hn i hi]; rfl) (by
    unfold inB
    have h1 : ltI (l.length : Int) (len l) = false := by simp only [len, ltI_nat, Nat.lt_irrefl, decide_false]
    rw [h1, sel_false])

theorem in_some {l : List Ly} (hl : Small l) {a4 : List Ly} {a5 : Int} {next : Str} {out : List Ly} {k : Nat} (ho : out.length ≤ 16) (ha : atP l next = some k) (hk : k < l.length) :
    Ge.Loop (inB l) ((a4, a5, (), next, 0, ()), out, ()) = sel (eqI (len out) 16) (some (1, (([], 5, (), next, (k : Int), ()), out, ())))
      (sel (eqS l[k].2.1 []) (some (2, ((a4, a5, (), next, (k : Int), ()), out ++ [l[k]], ()))) (some (3, ((a4, a5, (), l[k].2.1, (k : Int), ()), out ++ [l[k]], ())))) := by
  obtain ⟨_, h1, h2⟩ := atP_some ha
  have hstep : ∀ i, i < k → inB l ((a4, a5, (), next, (i : Int), ()), out, ()) = some (Sum.inl ((a4, a5, (), next, ((i + 1 : Nat) : Int), ()), out, ())) := fun i hi => by
    rw [inB_at l hl a4 a5 next out i (by omega) ho, h2 i hi]; rfl
  have hlast := inB_at l hl a4 a5 next out k hk ho
  rw [h1, nt_true, sel_false] at hlast
  have go : ∀ r, inB l ((a4, a5, (), next, (k : Int), ()), out, ()) = some (Sum.inr r) → Ge.Loop (inB l) ((a4, a5, (), next, 0, ()), out, ()) = some r := fun r hr =>
    loop_seq (f := inB l) k (fun i => ((a4, a5, (), next, (i : Int), ()), out, ())) hstep hr
  cases hq : eqI (len out) 16 with
  | true => rw [hq, sel_true] at hlast; exact go _ hlast
  | false =>
    rw [hq, sel_false] at hlast
    cases hp : eqS l[k].2.1 [] with
    | true => rw [hp, sel_true] at hlast; exact go _ hlast
    | false => rw [hp, sel_false] at hlast; exact go _ hlast
end Go.Proofs.Ytcdhodfpemkbfaa
