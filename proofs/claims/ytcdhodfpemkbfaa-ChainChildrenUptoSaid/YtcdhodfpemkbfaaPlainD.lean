/- Layer 19 in plain words: what chains and checks come to. -/
import Derived.Test.YtcdhodfpemkbfaaPlainC
namespace Go.Proofs.Ytcdhodfpemkbfaa
open Go Go.Ge
set_option linter.unusedVariables false
set_option linter.unusedSimpArgs false

def endC (x : Nat × S8) : Option (List Ly × Int × Unit) := sel (eqN x.1 0) (some (x.2.1.1, x.2.1.2.1, ())) (some (x.2.2.1, 0, ()))

theorem chain_loop {l : List Ly} (hl : Small l) : ∀ (fuel : Nat) (next : Str) (out : List Ly), out.length + fuel = 16 →
    ∃ r, Ge.Loop (outB l) (([], 0, (), next, ()), out, ()) = some r ∧ endC r = some ((chainP l fuel next out).1, (chainP l fuel next out).2, ()) := by
  intro fuel
  induction fuel with
  | zero =>
    intro next out ho
    have h16 : eqI (len out) 16 = true := by unfold eqI len; exact decide_eq_true (by omega)
    rw [Loop_eq]
    unfold outB chainP
    dsimp only
    cases ha : atP l next with
    | none =>
      rw [in_none hl (by omega) ha, obind_some]
      exact ⟨_, rfl, rfl⟩
    | some k =>
      obtain ⟨hk, _⟩ := atP_some ha
      rw [in_some hl (by omega) ha hk, h16, sel_true, obind_some]
      exact ⟨_, rfl, rfl⟩
  | succ n ih =>
    intro next out ho
    have h16 : eqI (len out) 16 = false := by unfold eqI len; exact decide_eq_false (by omega)
    rw [Loop_eq]
    unfold outB chainP
    dsimp only
    cases ha : atP l next with
    | none =>
      rw [in_none hl (by omega) ha, obind_some]
      exact ⟨_, rfl, rfl⟩
    | some k =>
      obtain ⟨hk, _⟩ := atP_some ha
      rw [in_some hl (by omega) ha hk, h16, sel_false]
      dsimp only
      rw [List.getElem?_eq_getElem hk]
      dsimp only
      cases hp : eqS l[k].2.1 [] with
      | true =>
        rw [sel_true, obind_some]
        exact ⟨_, rfl, rfl⟩
      | false =>
        rw [sel_false, obind_some]
        have := ih l[k].2.1 (out ++ [l[k]]) (by simp; omega)
        exact this

theorem chain_val {l : List Ly} (hl : Small l) (id : Str) : cChain.spec (l, id, ()) = some ((chainP l 16 id []).1, (chainP l 16 id []).2, ()) := by
  rw [chain_eq]
  obtain ⟨r, h1, h2⟩ := chain_loop hl 16 id [] rfl
  rw [h1, obind_some]
  exact h2

def endR (x : Nat × S9) : Option (List Ly × Int × Unit) := sel (eqN x.1 0) (some ([], 5, ())) (some (x.2.1.2.1, x.2.1.2.2.1, ()))

theorem rB_at {l : List Ly} (hl : Small l) (id : Str) (out : List Ly) (ho : out.length ≤ 16) : rB l ((id, [], 0, (), (out.length : Int), ()), out, ()) = (match atP l id with
    | none => some (Sum.inr (1, (id, [], 3, (), (out.length : Int), ()), out, ()))
    | some k => sel (eqI (out.length : Int) 16) (some (Sum.inr (1, (id, [], 5, (), (out.length : Int), ()), out, ()))) (match l[k]? with
      | none => none
      | some x => sel (eqS x.2.1 []) (some (Sum.inr (1, (id, out ++ [x], 0, (), (out.length : Int), ()), out ++ [x], ()))) (some (Sum.inl ((x.2.1, [], 0, (), ((out.length + 1 : Nat) : Int), ()), out ++ [x], ()))))) := by
  have hneg : ltI (-1) 0 = true := by decide
  have hpos : ∀ k : Nat, ltI (k : Int) 0 = false := fun k => by simp [ltI]
  have hle : leI (out.length : Int) 16 = true := by unfold leI; exact decide_eq_true (by omega)
  unfold rB
  dsimp only
  rw [hle, sel_true, find_val l id hl.1]
  refine (obind_some (α := Int × Unit) (atI l id, ()) _).trans ?_
  unfold atI
  cases ha : atP l id with
  | none =>
    dsimp only
    rw [hneg, sel_true]
  | some k =>
    obtain ⟨hk, _⟩ := atP_some ha
    dsimp only
    rw [hpos, sel_false, idx_lt hk, obind_some, fits_more out l[k] (by omega), sel_true, obind_some, obind_some, List.getElem?_eq_getElem hk, iadd_one (by omega)]
    rfl

theorem rchain_loop {l : List Ly} (hl : Small l) : ∀ (fuel : Nat) (id : Str) (out : List Ly), out.length + fuel = 16 →
    ∃ r, Ge.Loop (rB l) ((id, [], 0, (), (out.length : Int), ()), out, ()) = some r ∧ endR r = some ((chainP l fuel id out).1, (chainP l fuel id out).2, ()) := by
  intro fuel
  induction fuel with
  | zero =>
    intro id out ho
    have h16 : eqI (out.length : Int) 16 = true := by unfold eqI; exact decide_eq_true (by omega)
    rw [Loop_eq, rB_at hl id out (by omega)]
    unfold chainP
    cases ha : atP l id with
    | none => exact ⟨_, rfl, rfl⟩
    | some k =>
      dsimp only
      rw [h16, sel_true]
      exact ⟨_, rfl, rfl⟩
  | succ n ih =>
    intro id out ho
    have h16 : eqI (out.length : Int) 16 = false := by unfold eqI; exact decide_eq_false (by omega)
    rw [Loop_eq, rB_at hl id out (by omega)]
    unfold chainP
    cases ha : atP l id with
    | none => exact ⟨_, rfl, rfl⟩
    | some k =>
      obtain ⟨hk, _⟩ := atP_some ha
      dsimp only
      rw [h16, sel_false, List.getElem?_eq_getElem hk]
      dsimp only
      cases hp : eqS l[k].2.1 [] with
      | true =>
        rw [sel_true]
        exact ⟨_, rfl, rfl⟩
      | false =>
        rw [sel_false]
        have := ih l[k].2.1 (out ++ [l[k]]) (by simp; omega)
        rw [List.length_append] at this
        exact this

theorem rchain_val {l : List Ly} (hl : Small l) (id : Str) : cRChain.spec (l, id, ()) = some ((chainP l 16 id []).1, (chainP l 16 id []).2, ()) := by
  rw [rchain_eq]
  obtain ⟨r, h1, h2⟩ := rchain_loop hl 16 id [] rfl
  have h1' : Ge.Loop (rB l) ((id, [], 0, (), 0, ()), [], ()) = some r := h1
  rw [h1', obind_some]
  exact h2

/-! ### Checks -/
noncomputable def chkB (sp : List Ly × Str × Unit → Option (List Ly × Int × Unit)) (l : List Ly) (x : SI) : Option (SI ⊕ (Nat × SI)) :=
  sel (ltI x.1.2.1 (len l))
    (obind (idx l x.1.2.1) fun x_1 => obind (sp (l, x_1.1, ())) fun x_2 => sel (nt (eqI x_2.2.1 0)) (some (Sum.inr (1, (2, x.1.2.1, ()), ()))) (some (Sum.inl ((x.1.1, iadd IntKind.i64 x.1.2.1 1, ()), ()))))
    (some (Sum.inr (0, (x.1.1, x.1.2.1, ()), ())))
theorem check_eq (l : List Ly) : cCheck.spec (l, ()) = obind (Ge.Loop (chkB cChain.spec l) ((0, 0, ()), ())) fun x => sel (eqN x.1 0) (some (0, ())) (some (x.2.1.1, ())) := by kernel_rfl
theorem rcheck_eq (l : List Ly) : cRCheck.spec (l, ()) = obind (Ge.Loop (chkB cRChain.spec l) ((0, 0, ()), ())) fun x => sel (eqN x.1 0) (some (0, ())) (some (x.2.1.1, ())) := by kernel_rfl

def badP (l : List Ly) (x : Ly) : Bool := nt (eqI (chainP l 16 x.1 []).2 0)
def chkP (l : List Ly) : Int := match l.findIdx? (badP l) with | none => 0 | some _ => 2

theorem chk_loop {l : List Ly} (hl : Small l) (sp : List Ly × Str × Unit → Option (List Ly × Int × Unit)) (hsp : ∀ id, sp (l, id, ()) = some ((chainP l 16 id []).1, (chainP l 16 id []).2, ())) :
    (obind (Ge.Loop (chkB sp l) ((0, 0, ()), ())) fun x => sel (eqN x.1 0) (some (0, ())) (some (x.2.1.1, ())) : Option (Int × Unit)) = some (chkP l, ()) := by
  have hat : ∀ (i : Nat) (h : i < l.length), chkB sp l ((0, (i : Int), ()), ()) = sel (badP l l[i]) (some (Sum.inr (1, (2, (i : Int), ()), ()))) (some (Sum.inl ((0, ((i + 1 : Nat) : Int), ()), ()))) := by
    intro i h
    have := hl.1
    unfold chkB badP
    have h1 : ltI (i : Int) (len l) = true := by simp only [len, ltI_nat, h, decide_true]
    dsimp only
    rw [h1, sel_true, idx_lt h, obind_some, hsp, obind_some, iadd_one (by omega)]
  unfold chkP
  cases hf : l.findIdx? (badP l) with
  | none =>
    rw [List.findIdx?_eq_none_iff] at hf
    have hL : Ge.Loop (chkB sp l) ((0, 0, ()), ()) = some (0, ((0, (l.length : Int), ()), ())) := loop_seq (f := chkB sp l) l.length (fun i => ((0, (i : Int), ()), ()))
      (fun i hi => by rw [hat i hi, hf _ (List.getElem_mem hi), sel_false])
      (by unfold chkB; simp only [len, ltI_nat, Nat.lt_irrefl, decide_false, sel_false])
    rw [hL]; rfl
  | some k =>
    rw [List.findIdx?_eq_some_iff_getElem] at hf
    obtain ⟨hk, h1, h2⟩ := hf
    have hL : Ge.Loop (chkB sp l) ((0, 0, ()), ()) = some (1, ((2, (k : Int), ()), ())) := loop_seq (f := chkB sp l) k (fun i => ((0, (i : Int), ()), ()))
      (fun i hi => by rw [hat i (by omega), show badP l (l[i]'(by omega)) = false by have := h2 i hi; simpa using this, sel_false])
      (by rw [hat k hk, h1, sel_true])
    rw [hL]; rfl

theorem check_val {l : List Ly} (hl : Small l) : cCheck.spec (l, ()) = some (chkP l, ()) := (check_eq l).trans (chk_loop hl cChain.spec (chain_val hl))
theorem rcheck_val {l : List Ly} (hl : Small l) : cRCheck.spec (l, ()) = some (chkP l, ()) := (rcheck_eq l).trans (chk_loop hl cRChain.spec (rchain_val hl))

theorem chain_small (l : List Ly) : ∀ (fuel : Nat) (next : Str) (out : List Ly), (chainP l fuel next out).1.length ≤ out.length + fuel ∧ ∀ x ∈ (chainP l fuel next out).1, x ∈ l ∨ x ∈ out := by
  intro fuel
  induction fuel with
  | zero =>
    intro next out
    unfold chainP
    cases atP l next <;> exact ⟨Nat.zero_le _, fun x h => by cases h⟩
  | succ n ih =>
    intro next out
    unfold chainP
    cases atP l next with
    | none => exact ⟨Nat.zero_le _, fun x h => by cases h⟩
    | some k =>
      dsimp only
      cases hq : l[k]? with
      | none => exact ⟨Nat.zero_le _, fun x h => by cases h⟩
      | some x =>
        have hx : x ∈ l := List.mem_of_getElem? hq
        dsimp only
        cases eqS x.2.1 [] with
        | true =>
          refine ⟨by simp, fun y hy => ?_⟩
          rcases List.mem_append.1 hy with hy | hy
          · exact .inr hy
          · obtain rfl : y = x := by simpa using hy
            exact .inl hx
        | false =>
          obtain ⟨h1, h2⟩ := ih x.2.1 (out ++ [x])
          refine ⟨by simp only [List.length_append, List.length_cons, List.length_nil] at h1; show (chainP l n x.2.1 (out ++ [x])).1.length ≤ _; omega, fun y hy => ?_⟩
          rcases h2 y hy with h | h
          · exact .inl h
          · rcases List.mem_append.1 h with h | h
            · exact .inr h
            · obtain rfl : y = x := by simpa using h
              exact .inl hx
end Go.Proofs.Ytcdhodfpemkbfaa
