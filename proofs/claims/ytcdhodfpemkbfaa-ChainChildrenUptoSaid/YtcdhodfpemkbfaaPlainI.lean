/- Layer 19 in plain words: the third law. -/
import Derived.Test.YtcdhodfpemkbfaaPlainH
namespace Go.Proofs.Ytcdhodfpemkbfaa
open Go Go.Ge
set_option linter.unusedVariables false
set_option linter.unusedSimpArgs false

abbrev S3 := (Bool × Int × Int × Unit) × Unit

def iB (A : Option (Bool × Unit)) (l : List Ly) (n : Int) (x_1 : S1) : Option (S1 ⊕ (Nat × S1)) :=
  sel (ltI x_1.1.2.1 n)
    (obind (idx l x_1.1.2.1) fun x_2 => obind (idx l n) fun x =>
      sel (eqS x_2.1 x.1) (obind A fun x => some (Sum.inr (1, (x.1, x_1.1.2.1, ()), ()))) (some (Sum.inl ((x_1.1.1, iadd IntKind.i64 x_1.1.2.1 1, ()), ()))))
    (some (Sum.inr (0, (x_1.1.1, x_1.1.2.1, ()), ())))

noncomputable def dB (A : Option (Bool × Unit)) (l : List Ly) (x : S1) : Option (S1 ⊕ (Nat × S1)) :=
  sel (ltI x.1.2.1 (len l))
    (obind (Ge.Loop (iB A l x.1.2.1) ((x.1.1, 0, ()), ())) fun x_1 =>
      sel (eqN x_1.1 0)
        (obind (idx l x.1.2.1) fun x_2 => sel (eqS x_2.1 []) (obind A fun x_3 => some (Sum.inr (1, (x_3.1, x.1.2.1, ()), ()))) (some (Sum.inl ((x_1.2.1.1, iadd IntKind.i64 x.1.2.1 1, ()), ()))))
        (some (Sum.inr (1, (x_1.2.1.1, x.1.2.1, ()), ()))))
    (some (Sum.inr (0, (x.1.1, x.1.2.1, ()), ())))

def gB (C : List Ly × Str × Unit → Option (List Ly × Int × Unit)) (l : List Ly) (n : Int) (c : List Str) (x_4 : S1) : Option (S1 ⊕ (Nat × S1)) :=
  sel (ltI x_4.1.2.1 (len c))
    (obind (idx c x_4.1.2.1) fun x_5 => obind (C (l, x_5, ())) fun x_6 =>
      sel (nt (eqI x_6.2.1 0)) (some (Sum.inr (1, (false, x_4.1.2.1, ()), ())))
        (sel (ltI (len x_6.1) 2) (some (Sum.inr (1, (false, x_4.1.2.1, ()), ())))
          (obind (idx x_6.1 1) fun x_7 => obind (idx l n) fun x =>
            sel (nt (eqS x_7.1 x.1)) (some (Sum.inr (1, (false, x_4.1.2.1, ()), ()))) (some (Sum.inl ((x_4.1.1, iadd IntKind.i64 x_4.1.2.1 1, ()), ()))))))
    (some (Sum.inr (0, (x_4.1.1, x_4.1.2.1, ()), ())))

noncomputable def cB (C : List Ly × Str × Unit → Option (List Ly × Int × Unit)) (K : List Ly × Str × Unit → Option (List Str × Unit)) (l : List Ly) (x : S3) : Option (S3 ⊕ (Nat × S3)) :=
  sel (ltI x.1.2.2.1 (len l))
    (obind (idx l x.1.2.2.1) fun x_2 => obind (K (l, x_2.1, ())) fun x_3 =>
      obind (Ge.Loop (gB C l x.1.2.2.1 x_3.1) ((x.1.1, 0, ()), ())) fun x_4 =>
        sel (eqN x_4.1 0) (some (Sum.inl ((x_4.2.1.1, iadd IntKind.i64 x.1.2.1 (len x_3.1), iadd IntKind.i64 x.1.2.2.1 1, ()), ())))
          (some (Sum.inr (1, (x_4.2.1.1, iadd IntKind.i64 x.1.2.1 (len x_3.1), x.1.2.2.1, ()), ()))))
    (some (Sum.inr (0, (x.1.1, x.1.2.1, x.1.2.2.1, ()), ())))

noncomputable def kidT (l : List Ly) (F A : Option (Bool × Unit)) (CK : Option (Int × Unit)) (RO : Option (List Str × Unit)) (C : List Ly × Str × Unit → Option (List Ly × Int × Unit)) (K : List Ly × Str × Unit → Option (List Str × Unit)) : Option (Bool × Unit) :=
  obind F fun x =>
    obind (sel (nt (nt x.1)) (obind CK fun x => some (nt (eqI x.1 0))) (some true)) fun x =>
      sel x (obind A fun x => some (x.1, ()))
        (obind (Ge.Loop (dB A l) ((false, 0, ()), ())) fun x =>
          sel (eqN x.1 0)
            (obind RO fun x_1 => obind (Ge.Loop (cB C K l) ((x.2.1.1, len x_1.1, 0, ()), ())) fun x =>
              sel (eqN x.1 0) (obind (sel (eqI x.2.1.2.1 (len l)) (obind A fun x => some x.1) (some false)) fun x => some (x, ())) (some (x.2.1.1, ())))
            (some (x.2.1.1, ())))

theorem kid_eq (l : List Ly) : sem cx4 9 plans 5 (A1 LS) (A1 .bool) (l, ()) = kidT l (cFew.spec (l, ())) (cAwake.spec ()) (cCheck.spec (l, ())) (cRoots.spec (l, ())) cChain.spec cKids.spec := by kernel_rfl

theorem iadd_nat {a b : Nat} (h : a + b < 4611686018427387904) : iadd .i64 (a : Int) (b : Int) = ((a + b : Nat) : Int) := by
  unfold iadd
  simp [IntKind.wrap, IntKind.min, IntKind.max, IntKind.signed, IntKind.bits]
  omega

theorem ltI_t {i n : Nat} (h : i < n) : ltI (i : Int) (n : Int) = true := by rw [ltI_nat]; simp [h]
theorem ltI_f (n : Nat) : ltI (n : Int) (n : Int) = false := by rw [ltI_nat]; simp

/-- Is a layer's id one that stood before, or none? -/
def badI (l : List Ly) (i : Nat) : Prop := ∃ h : i < l.length, (∃ j, ∃ hj : j < i, (l[j]'(by omega)).1 = l[i].1) ∨ l[i].1 = []

theorem iB_loop (l : List Ly) (hl : l.length ≤ 2097152) (i : Nat) (h : i < l.length) : (∃ (j : Nat) (hj : j < i), (l[j]'(by omega)).1 = l[i].1 ∧ Ge.Loop (iB (some (true, ())) l (i : Int)) ((false, 0, ()), ()) = some (1, ((true, (j : Int), ()), ()))) ∨
    ((∀ (j : Nat) (hj : j < i), (l[j]'(by omega)).1 ≠ l[i].1) ∧ Ge.Loop (iB (some (true, ())) l (i : Int)) ((false, 0, ()), ()) = some (0, ((false, (i : Int), ()), ()))) := by
  have hat : ∀ (j : Nat) (hj : j < i), iB (some (true, ())) l (i : Int) ((false, (j : Int), ()), ()) = sel (eqS (l[j]'(by omega)).1 l[i].1) (some (Sum.inr (1, ((true, (j : Int), ()), ())))) (some (Sum.inl ((false, ((j + 1 : Nat) : Int), ()), ()))) := by
    intro j hj
    unfold iB
    dsimp only
    rw [ltI_t hj, sel_true, idx_lt (by omega : j < l.length), obind_some, idx_lt h, obind_some, obind_some, iadd_one (by omega)]
  by_cases hex : ∃ j, ∃ hj : j < i, (l[j]'(by omega)).1 = l[i].1
  · obtain ⟨k, ⟨hk, hkk⟩, hmin⟩ := least_exists hex
    refine .inl ⟨k, hk, hkk, loop_seq (f := iB (some (true, ())) l (i : Int)) k (fun j => ((false, (j : Int), ()), ())) (fun j hj => ?_) ?_⟩
    · have hne : eqS (l[j]'(by omega)).1 l[i].1 = false := by
        cases hq : eqS (l[j]'(by omega)).1 l[i].1 with
        | false => rfl
        | true => exact absurd (hmin j ⟨by omega, eqS_true hq⟩) (by omega)
      rw [hat j (by omega), hne, sel_false]
    · rw [hat k hk, hkk, eqS_self, sel_true]
  · refine .inr ⟨fun j hj e => hex ⟨j, hj, e⟩, loop_seq (f := iB (some (true, ())) l (i : Int)) i (fun j => ((false, (j : Int), ()), ())) (fun j hj => ?_) ?_⟩
    · have hne : eqS (l[j]'(by omega)).1 l[i].1 = false := by
        cases hq : eqS (l[j]'(by omega)).1 l[i].1 with
        | false => rfl
        | true => exact absurd ⟨j, hj, eqS_true hq⟩ hex
      rw [hat j hj, hne, sel_false]
    · unfold iB
      dsimp only
      rw [ltI_f, sel_false]

theorem dB_loop (l : List Ly) (hl : l.length ≤ 2097152) : (∃ k : Nat, Ge.Loop (dB (some (true, ())) l) ((false, 0, ()), ()) = some (1, ((true, (k : Int), ()), ()))) ∨
    (Ge.Loop (dB (some (true, ())) l) ((false, 0, ()), ()) = some (0, ((false, (l.length : Int), ()), ())) ∧ ∀ i, ¬ badI l i) := by
  have good : ∀ i (h : i < l.length), ¬ badI l i → dB (some (true, ())) l ((false, (i : Int), ()), ()) = some (Sum.inl ((false, ((i + 1 : Nat) : Int), ()), ())) := by
    intro i h hb
    unfold dB
    dsimp only
    rw [show ltI (i : Int) (len l) = true from ltI_t h, sel_true]
    rcases iB_loop l hl i h with ⟨j, hj, e, _⟩ | ⟨_, hL⟩
    · exact absurd ⟨h, .inl ⟨j, hj, e⟩⟩ hb
    · have hne : eqS l[i].1 [] = false := by
        cases hq : eqS l[i].1 [] with
        | false => rfl
        | true => exact absurd ⟨h, .inr (eqS_true hq)⟩ hb
      rw [hL, obind_some, show eqN ((0, ((false, (i : Int), ()), ())) : Nat × S1).1 0 = true from rfl, sel_true, idx_lt h, obind_some, hne, sel_false, iadd_one (by omega)]
  have bad : ∀ i, badI l i → dB (some (true, ())) l ((false, (i : Int), ()), ()) = some (Sum.inr (1, ((true, (i : Int), ()), ()))) := by
    intro i hb
    obtain ⟨h, hb⟩ := hb
    unfold dB
    dsimp only
    rw [show ltI (i : Int) (len l) = true from ltI_t h, sel_true]
    rcases iB_loop l hl i h with ⟨j, hj, e, hL⟩ | ⟨hno, hL⟩
    · rw [hL, obind_some]; rfl
    · have he : l[i].1 = [] := by
        rcases hb with ⟨j, hj, e⟩ | e
        · exact absurd e (hno j hj)
        · exact e
      rw [hL, obind_some, show eqN ((0, ((false, (i : Int), ()), ())) : Nat × S1).1 0 = true from rfl, sel_true, idx_lt h, obind_some, he, eqS_self, sel_true, obind_some]
  by_cases hex : ∃ i, badI l i
  · obtain ⟨k, hk, hmin⟩ := least_exists hex
    have hkl : k < l.length := hk.1
    exact .inl ⟨k, loop_seq (f := dB (some (true, ())) l) k (fun i => ((false, (i : Int), ()), ())) (fun i hi => good i (by omega) fun hb => absurd (hmin i hb) (by omega)) (bad k hk)⟩
  · refine .inr ⟨loop_seq (f := dB (some (true, ())) l) l.length (fun i => ((false, (i : Int), ()), ())) (fun i hi => good i hi fun hb => hex ⟨i, hb⟩) ?_, fun i hb => hex ⟨i, hb⟩⟩
    unfold dB
    dsimp only
    rw [show ltI (l.length : Int) (len l) = false from ltI_f _, sel_false]

theorem sumL_take {α : Type} (f : α → Nat) : ∀ (l : List α) (i : Nat), sumL f (l.take i) ≤ sumL f l := by
  intro l
  induction l with
  | nil => intro i; simp [sumL]
  | cons x r ih =>
    intro i
    cases i with
    | zero => exact Nat.zero_le _
    | succ i => simp only [List.take_succ_cons, sumL]; have := ih i; omega

theorem sumL_snoc {α : Type} (f : α → Nat) : ∀ (l : List α) (x : α), sumL f (l ++ [x]) = sumL f l + f x := by
  intro l
  induction l with
  | nil => intro x; simp [sumL]
  | cons y r ih => intro x; simp only [List.cons_append, sumL, ih]; omega

theorem kid_shape {l : List Ly} (hl : Small l) {F : Option (Bool × Unit)} {C : List Ly × Str × Unit → Option (List Ly × Int × Unit)} {K : List Ly × Str × Unit → Option (List Str × Unit)} {b : Bool}
    (hF : F = some (b, ())) (hC : ∀ id, C (l, id, ()) = some ((chainP l 16 id []).1, (chainP l 16 id []).2, ())) (hK : ∀ id, K (l, id, ()) = some (kidsP l id, ())) :
    kidT l F (some (true, ())) (some (chkP l, ())) (some (rootsP l, ())) C K = some (true, ()) := by
  subst hF
  unfold kidT
  simp only [obind_some]
  by_cases hchk : chkP l = 0
  case neg =>
    have : eqI (chkP l) 0 = false := by unfold eqI; exact decide_eq_false hchk
    rw [this]
    cases b <;> rfl
  have hck : eqI (chkP l) 0 = true := by unfold eqI; exact decide_eq_true hchk
  rw [hck]
  cases b with
  | false => rfl
  | true =>
  rw [nt_true, nt_false, sel_true, obind_some, sel_false]
  rcases dB_loop l hl.1 with ⟨k, hk⟩ | ⟨hk, hgood⟩
  · rw [hk]; rfl
  rw [hk, obind_some, show eqN ((0, ((false, (l.length : Int), ()), ())) : Nat × S1).1 0 = true from rfl, sel_true]
  have hne : ∀ x ∈ l, x.1 ≠ [] := fun x hx e => by
    obtain ⟨i, hi, rfl⟩ := List.getElem_of_mem hx
    exact hgood i ⟨hi, .inr e⟩
  have hnd : l.Pairwise (fun x y => x.1 ≠ y.1) := by
    rw [List.pairwise_iff_getElem]
    intro i j hi hj hij e
    exact hgood j ⟨hj, .inl ⟨i, hij, e⟩⟩
  have hall : ∀ x ∈ l, (chainP l 16 x.1 []).2 = 0 := by
    unfold chkP at hchk
    cases hf : l.findIdx? (badP l) with
    | some k => rw [hf] at hchk; exact absurd (show (2 : Int) = 0 from hchk) (by decide)
    | none =>
      rw [List.findIdx?_eq_none_iff] at hf
      intro x hx
      have := hf x hx
      unfold badP at this
      simpa [nt, eqI] using this
  have hcount := count_all l hne hnd fun y hy => by
    obtain ⟨r, _, h⟩ := parent_there l y hy hnd (hall y hy)
    rcases h with h | ⟨z, r2, _, hz, e⟩
    · exact .inl h
    · exact .inr ⟨z, hz, e⟩
  -- who lies on a layer
  have hg : ∀ (i : Nat) (h : i < l.length), Ge.Loop (gB C l (i : Int) (kidsP l l[i].1)) ((false, 0, ()), ()) = some (0, ((false, ((kidsP l l[i].1).length : Int), ()), ())) := by
    intro i h
    have hkl : (kidsP l l[i].1).length ≤ 2097152 := Nat.le_trans (picked_len l _) hl.1
    refine loop_seq (f := gB C l (i : Int) (kidsP l l[i].1)) (kidsP l l[i].1).length (fun j => ((false, (j : Int), ()), ())) (fun j hj => ?_) ?_
    · have hm : (kidsP l l[i].1)[j] ∈ kidsP l l[i].1 := List.getElem_mem hj
      obtain ⟨y, hy, hy1⟩ := List.mem_map.1 hm
      obtain ⟨hyl, hyk⟩ := List.mem_filter.1 hy
      rw [kidP_eq (hne _ (List.getElem_mem h))] at hyk
      have hyp : y.2.1 = l[i].1 := of_decide_eq_true hyk
      obtain ⟨r, hr, hor⟩ := parent_there l y hyl hnd (hall y hyl)
      have hyne : y.2.1 ≠ [] := by rw [hyp]; exact hne _ (List.getElem_mem h)
      obtain ⟨z, r2, rfl, hz, hz1⟩ := hor.resolve_left hyne
      unfold gB
      dsimp only
      have l2 : ltI (len (y :: z :: r2)) 2 = false := by unfold ltI len; exact decide_eq_false (by simp; omega)
      rw [show ltI (j : Int) (len (kidsP l l[i].1)) = true from ltI_t hj, sel_true, idx_lt hj, obind_some, ← hy1, hC, obind_some]
      dsimp only
      rw [hall y hyl, eqI_self, nt_true, sel_false, hr, l2, sel_false, show idx (y :: z :: r2) 1 = some z from rfl, obind_some, idx_lt h, obind_some, hz1, hyp, eqS_self, nt_true, sel_false, iadd_one (by omega)]
    · unfold gB
      dsimp only
      rw [show ltI ((kidsP l l[i].1).length : Int) (len (kidsP l l[i].1)) = false from ltI_f _, sel_false]
  have hL : Ge.Loop (cB C K l) ((false, len (rootsP l), 0, ()), ()) = some (0, ((false, (((rootsP l).length + sumL (fun x : Ly => (kidsP l x.1).length) l : Nat) : Int), (l.length : Int), ()), ())) := by
    have := loop_seq (f := cB C K l) (r := (0, ((false, (((rootsP l).length + sumL (fun x : Ly => (kidsP l x.1).length) l : Nat) : Int), (l.length : Int), ()), ()))) l.length
      (fun i => ((false, (((rootsP l).length + sumL (fun x : Ly => (kidsP l x.1).length) (l.take i) : Nat) : Int), (i : Int), ()), ())) (fun i hi => ?_) ?_
    · exact this
    · have hlen := hl.1
      have hsum := sumL_take (fun x : Ly => (kidsP l x.1).length) l (i + 1)
      have htake : l.take (i + 1) = l.take i ++ [l[i]] := by rw [List.take_add_one, List.getElem?_eq_getElem hi]; rfl
      rw [htake, sumL_snoc] at hsum
      unfold cB
      dsimp only
      rw [show ltI (i : Int) (len l) = true from ltI_t hi, sel_true, idx_lt hi, obind_some, hK, obind_some]
      dsimp only
      rw [hg i hi, obind_some, show eqN ((0, ((false, ((kidsP l l[i].1).length : Int), ()), ())) : Nat × S1).1 0 = true from rfl, sel_true, iadd_one (by omega)]
      have hadd : iadd IntKind.i64 (((rootsP l).length + sumL (fun x : Ly => (kidsP l x.1).length) (l.take i) : Nat) : Int) (len (kidsP l l[i].1)) = (((rootsP l).length + sumL (fun x : Ly => (kidsP l x.1).length) (l.take (i + 1)) : Nat) : Int) := by
        rw [htake, sumL_snoc]
        have := iadd_nat (a := (rootsP l).length + sumL (fun x : Ly => (kidsP l x.1).length) (l.take i)) (b := (kidsP l l[i].1).length) (by omega)
        rw [show len (kidsP l l[i].1) = (((kidsP l l[i].1).length : Nat) : Int) from rfl, this, Nat.add_assoc]
      rw [hadd]
    · unfold cB
      dsimp only
      rw [show ltI (l.length : Int) (len l) = false from ltI_f _, sel_false, List.take_length]
  dsimp only
  rw [hL, obind_some, hcount]
  show (obind (sel (eqI (l.length : Int) (len l)) (some true) (some false)) fun x => some (x, ())) = some (true, ())
  rw [show eqI (l.length : Int) (len l) = true from eqI_self _]
  rfl

theorem kid_val {l : List Ly} (hl : Small l) : sem cx4 9 plans 5 (A1 LS) (A1 .bool) (l, ()) = some (true, ()) := by
  refine (kid_eq l).trans ?_
  obtain ⟨b, hb⟩ := few_ends l hl.1
  rw [awake_val, check_val hl, roots_val l hl.1]
  exact kid_shape hl hb (chain_val hl) (fun id => kids_val l id hl.1)
end Go.Proofs.Ytcdhodfpemkbfaa
