/- Layer 19 in plain words: children, roots, chains. -/
import Derived.Test.YtcdhodfpemkbfaaPlainA
namespace Go.Proofs.Ytcdhodfpemkbfaa
open Go Go.Ge
set_option linter.unusedVariables false
set_option linter.unusedSimpArgs false

theorem len_one {α : Type} (x : α) : len [x] = 1 := rfl

theorem obind_congr {α β : Type} {o : Option α} {f g : α → Option β} (h : ∀ y, o = some y → f y = g y) : obind o f = obind o g := by
  cases o with
  | none => rfl
  | some y => exact h y rfl

theorem fits_more {α : Type} (out : List α) (x : α) (h : out.length ≤ 2097152) : fits (plus (len out) (len [x])) = true := by
  have : plus (len out) (len [x]) = ((out.length + 1 : Nat) : Int) := by simp [plus, len]
  rw [this]
  exact fits_nat' (by omega)

/-! ### Loops that pick -/
theorem pick_loop {l : List Ly} (p : Ly → Bool) {f : SC → Option (SC ⊕ SC)}
    (hstep : ∀ (i : Nat) (h : i < l.length) (out : List Str), out.length ≤ i → f (((), (i : Int), ()), out, ()) = some (.inl (((), ((i + 1 : Nat) : Int), ()), (bif p l[i] then out ++ [l[i].1] else out), ())))
    (hend : ∀ out, f (((), (l.length : Int), ()), out, ()) = some (.inr (((), (l.length : Int), ()), out, ()))) :
    Ge.Loop f (((), 0, ()), [], ()) = some (((), (l.length : Int), ()), (l.filter p).map (·.1), ()) := by
  have hlen : ∀ i, ((((l.take i).filter p).map (·.1)) : List Str).length ≤ i := fun i => by
    rw [List.length_map]
    exact Nat.le_trans (List.length_filter_le _ _) (by rw [List.length_take]; omega)
  refine loop_seq (f := f) l.length (fun i => (((), (i : Int), ()), ((l.take i).filter p).map (·.1), ())) ?_ ?_
  · intro i hi
    rw [hstep i hi _ (hlen i)]
    rw [List.take_add_one, List.getElem?_eq_getElem hi, List.filter_append, List.map_append]
    cases hp : p l[i] <;> simp [hp]
  · rw [List.take_length]
    exact hend _

def kidsB (l : List Ly) (id : Str) (x : SC) : Option (SC ⊕ SC) :=
  way1 (sel (ltI x.1.2.1 (len l))
    (obind (idx l x.1.2.1) fun x_1 => obind (sel (sel (nt (eqS id [])) (eqS x_1.2.1 id) false) (sel (fits (plus (len x.2.1) (len [x_1.1]))) (some (((), ()), app x.2.1 [x_1.1], ())) none) (some (((), ()), x.2.1, ()))) fun x_2 =>
      some (Sum.inl (((), iadd IntKind.i64 x.1.2.1 1, ()), x_2.2.1, ())))
    (some (Sum.inr (0, ((), x.1.2.1, ()), x.2.1, ()))))
theorem kids_eq (l : List Ly) (id : Str) : cKids.spec (l, id, ()) = obind (Ge.Loop (kidsB l id) (((), 0, ()), [], ())) fun x => some (x.2.1, ()) := by kernel_rfl

def rkidsB (l : List Ly) (id : Str) (x : SC) : Option (SC ⊕ SC) :=
  way1 (sel (ltI x.1.2.1 (len l))
    (obind (idx l x.1.2.1) fun x_1 => obind (sel (sel (eqS x_1.2.1 id) (nt (eqS id [])) false) (obind (idx l x.1.2.1) fun x_2 => sel (fits (plus (len x.2.1) (len [x_2.1]))) (some (((), ()), app x.2.1 [x_2.1], ())) none) (some (((), ()), x.2.1, ()))) fun x_2 =>
      some (Sum.inl (((), iadd IntKind.i64 x.1.2.1 1, ()), x_2.2.1, ())))
    (some (Sum.inr (0, ((), x.1.2.1, ()), x.2.1, ()))))
theorem rkids_eq (l : List Ly) (id : Str) : cRKids.spec (l, id, ()) = obind (Ge.Loop (rkidsB l id) (((), 0, ()), [], ())) fun x => some (x.2.1, ()) := by kernel_rfl

def rootsB (l : List Ly) (x : SC) : Option (SC ⊕ SC) :=
  way1 (sel (ltI x.1.2.1 (len l))
    (obind (idx l x.1.2.1) fun x_1 => obind (sel (eqS x_1.2.1 []) (sel (fits (plus (len x.2.1) (len [x_1.1]))) (some (((), ()), app x.2.1 [x_1.1], ())) none) (some (((), ()), x.2.1, ()))) fun x_2 =>
      some (Sum.inl (((), iadd IntKind.i64 x.1.2.1 1, ()), x_2.2.1, ())))
    (some (Sum.inr (0, ((), x.1.2.1, ()), x.2.1, ()))))
theorem roots_eq (l : List Ly) : cRoots.spec (l, ()) = obind (Ge.Loop (rootsB l) (((), 0, ()), [], ())) fun x => some (x.2.1, ()) := by kernel_rfl

def rrootsB (l : List Ly) (x : SC) : Option (SC ⊕ SC) :=
  way1 (sel (ltI x.1.2.1 (len l))
    (obind (idx l x.1.2.1) fun x_1 => obind (sel (eqS x_1.2.1 []) (obind (idx l x.1.2.1) fun x_2 => sel (fits (plus (len x.2.1) (len [x_2.1]))) (some (((), ()), app x.2.1 [x_2.1], ())) none) (some (((), ()), x.2.1, ()))) fun x_2 =>
      some (Sum.inl (((), iadd IntKind.i64 x.1.2.1 1, ()), x_2.2.1, ())))
    (some (Sum.inr (0, ((), x.1.2.1, ()), x.2.1, ()))))
theorem rroots_eq (l : List Ly) : cRRoots.spec (l, ()) = obind (Ge.Loop (rrootsB l) (((), 0, ()), [], ())) fun x => some (x.2.1, ()) := by kernel_rfl

def kidP (id : Str) (x : Ly) : Bool := sel (nt (eqS id [])) (eqS x.2.1 id) false
def rootP (x : Ly) : Bool := eqS x.2.1 []
def kidsP (l : List Ly) (id : Str) : List Str := (l.filter (kidP id)).map (·.1)
def rootsP (l : List Ly) : List Str := (l.filter rootP).map (·.1)

theorem kids_val (l : List Ly) (id : Str) (hl : l.length ≤ 2097152) : cKids.spec (l, id, ()) = some (kidsP l id, ()) := by
  rw [kids_eq, pick_loop (l := l) (kidP id) (f := kidsB l id)]
  · rfl
  · intro i h out ho
    unfold kidsB kidP
    simp only [len, ltI_nat, h, decide_true, sel_true, idx_lt h, obind_some]
    have hf := fits_more out l[i].1 (by omega)
    simp only [len] at hf
    rw [iadd_one (by omega)]
    cases hp : sel (nt (eqS id [])) (eqS l[i].2.1 id) false with
    | true => simp only [sel_true, hf]; rfl
    | false => rfl
  · intro out
    unfold kidsB
    simp only [len, ltI_nat, Nat.lt_irrefl, decide_false, sel_false]
    rfl

theorem rkidsB_eq (l : List Ly) (id : Str) : rkidsB l id = kidsB l id := by
  funext x
  unfold rkidsB kidsB
  refine congrArg (fun t => way1 (sel (ltI x.1.2.1 (len l)) t (some (Sum.inr (0, ((), x.1.2.1, ()), x.2.1, ()))))) (obind_congr fun y hy => ?_)
  have hsw : sel (eqS y.2.1 id) (nt (eqS id [])) false = sel (nt (eqS id [])) (eqS y.2.1 id) false := by
    cases eqS y.2.1 id <;> cases nt (eqS id []) <;> rfl
  rw [hsw, hy, obind_some]

theorem rkids_val (l : List Ly) (id : Str) (hl : l.length ≤ 2097152) : cRKids.spec (l, id, ()) = some (kidsP l id, ()) := by
  rw [rkids_eq, rkidsB_eq]
  exact (kids_eq l id).symm.trans (kids_val l id hl)

theorem roots_val (l : List Ly) (hl : l.length ≤ 2097152) : cRoots.spec (l, ()) = some (rootsP l, ()) := by
  rw [roots_eq, pick_loop (l := l) rootP (f := rootsB l)]
  · rfl
  · intro i h out ho
    unfold rootsB rootP
    simp only [len, ltI_nat, h, decide_true, sel_true, idx_lt h, obind_some]
    have hf := fits_more out l[i].1 (by omega)
    simp only [len] at hf
    rw [iadd_one (by omega)]
    cases hp : eqS l[i].2.1 [] with
    | true => simp only [sel_true, hf]; rfl
    | false => rfl
  · intro out
    unfold rootsB
    simp only [len, ltI_nat, Nat.lt_irrefl, decide_false, sel_false]
    rfl

theorem rrootsB_eq (l : List Ly) : rrootsB l = rootsB l := by
  funext x
  unfold rrootsB rootsB
  refine congrArg (fun t => way1 (sel (ltI x.1.2.1 (len l)) t (some (Sum.inr (0, ((), x.1.2.1, ()), x.2.1, ()))))) (obind_congr fun y hy => ?_)
  rw [hy, obind_some]

theorem rroots_val (l : List Ly) (hl : l.length ≤ 2097152) : cRRoots.spec (l, ()) = some (rootsP l, ()) := by
  rw [rroots_eq, rrootsB_eq]
  exact (roots_eq l).symm.trans (roots_val l hl)
end Go.Proofs.Ytcdhodfpemkbfaa
