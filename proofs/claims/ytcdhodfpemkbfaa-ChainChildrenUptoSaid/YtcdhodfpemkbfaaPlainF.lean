/- Layer 19 in plain words: a chain ends at a root. -/
import Derived.Test.YtcdhodfpemkbfaaPlainE
namespace Go.Proofs.Ytcdhodfpemkbfaa
open Go Go.Ge
set_option linter.unusedVariables false
set_option linter.unusedSimpArgs false

/-! ### Chains -/

theorem no3 {m : List Ly} (h : (([], 3) : List Ly × Int) = (m, 0)) : False := absurd (Prod.mk.inj h).2 (by decide)
theorem no5 {m : List Ly} (h : (([], 5) : List Ly × Int) = (m, 0)) : False := absurd (Prod.mk.inj h).2 (by decide)

theorem eqS_true {a b : Str} (h : eqS a b = true) : a = b := by simpa [eqS] using h
theorem eqS_false {a b : Str} (h : eqS a b = false) : a ≠ b := by simpa [eqS] using h

/-- What stands ahead stays ahead; more may be asked. -/
theorem chain_shift (l : List Ly) : ∀ (n : Nat) (next : Str) (pre out : List Ly) (m : List Ly), chainP l n next (pre ++ out) = (m, 0) → ∃ r, m = pre ++ r ∧ ∀ d, chainP l (n + d) next out = (r, 0) := by
  intro n
  induction n with
  | zero =>
    intro next pre out m h
    unfold chainP at h
    cases ha : atP l next with
    | none => rw [ha] at h; exact (no3 h).elim
    | some k => rw [ha] at h; exact (no5 h).elim
  | succ n ih =>
    intro next pre out m h
    unfold chainP at h
    cases ha : atP l next with
    | none => rw [ha] at h; exact (no3 h).elim
    | some k =>
      rw [ha] at h
      dsimp only at h
      cases hq : l[k]? with
      | none => rw [hq] at h; exact (no3 h).elim
      | some x =>
        rw [hq] at h
        dsimp only at h
        cases hp : eqS x.2.1 [] with
        | true =>
          rw [hp] at h
          have hm : pre ++ out ++ [x] = m := congrArg Prod.fst h
          refine ⟨out ++ [x], by rw [← hm, List.append_assoc], fun d => ?_⟩
          rw [show n + 1 + d = (n + d) + 1 by omega]
          unfold chainP
          rw [ha]; dsimp only; rw [hq]; dsimp only; rw [hp]; rfl
        | false =>
          rw [hp] at h
          simp only [cond_false] at h
          rw [List.append_assoc] at h
          obtain ⟨r, h1, h2⟩ := ih x.2.1 pre (out ++ [x]) m h
          refine ⟨r, h1, fun d => ?_⟩
          rw [show n + 1 + d = (n + d) + 1 by omega]
          unfold chainP
          rw [ha]; dsimp only; rw [hq]; dsimp only; rw [hp]
          exact h2 d

/-- A chain begins with who is asked for, goes on as the chain of its parent, and ends at a root. -/
theorem chain_head (l : List Ly) (n : Nat) (id : Str) (m : List Ly) (h : chainP l (n + 1) id [] = (m, 0)) : ∃ k x r, atP l id = some k ∧ l[k]? = some x ∧ m = x :: r ∧ ((x.2.1 = [] ∧ r = []) ∨ (x.2.1 ≠ [] ∧ chainP l n x.2.1 [] = (r, 0))) := by
  unfold chainP at h
  cases ha : atP l id with
  | none => rw [ha] at h; exact (no3 h).elim
  | some k =>
    rw [ha] at h
    dsimp only at h
    cases hq : l[k]? with
    | none => rw [hq] at h; exact (no3 h).elim
    | some x =>
      rw [hq] at h
      dsimp only at h
      cases hp : eqS x.2.1 [] with
      | true =>
        rw [hp] at h
        exact ⟨k, x, [], rfl, hq, (congrArg Prod.fst h).symm, .inl ⟨eqS_true hp, rfl⟩⟩
      | false =>
        rw [hp] at h
        have h' : chainP l n x.2.1 ([x] ++ []) = (m, 0) := h
        obtain ⟨r, h1, h2⟩ := chain_shift l n x.2.1 [x] [] m h'
        exact ⟨k, x, r, rfl, hq, h1, .inr ⟨eqS_false hp, h2 0⟩⟩

theorem chain_last (l : List Ly) : ∀ (n : Nat) (id : Str) (m : List Ly), chainP l n id [] = (m, 0) → ∃ y, y ∈ l ∧ m.getLast? = some y ∧ y.2.1 = [] := by
  intro n
  induction n with
  | zero =>
    intro id m h
    unfold chainP at h
    cases ha : atP l id with
    | none => rw [ha] at h; exact (no3 h).elim
    | some k => rw [ha] at h; exact (no5 h).elim
  | succ n ih =>
    intro id m h
    obtain ⟨k, x, r, h1, h2, rfl, h3⟩ := chain_head l n id m h
    rcases h3 with ⟨h3, rfl⟩ | ⟨h3, h4⟩
    · exact ⟨x, List.mem_of_getElem? h2, rfl, h3⟩
    · obtain ⟨y, y1, y2, y3⟩ := ih _ _ h4
      refine ⟨y, y1, ?_, y3⟩
      cases r with
      | nil => cases y2
      | cons z r => simpa using y2

theorem chain_none (l : List Ly) : ∀ (n : Nat) (id : Str) (out : List Ly), (chainP l n id out).2 ≠ 0 → (chainP l n id out).1 = [] := by
  intro n
  induction n with
  | zero => intro id out h; unfold chainP at h ⊢; cases atP l id <;> rfl
  | succ n ih =>
    intro id out h
    unfold chainP at h ⊢
    cases ha : atP l id with
    | none => rfl
    | some k =>
      rw [ha] at h
      dsimp only at h ⊢
      cases hq : l[k]? with
      | none => rfl
      | some x =>
        rw [hq] at h
        dsimp only at h ⊢
        cases hp : eqS x.2.1 [] with
        | true => rw [hp] at h; exact absurd rfl h
        | false => rw [hp] at h; exact ih _ _ h

/-! ### The law -/

def eB (aw : Option (Bool × Unit)) (l : List Ly) (x : S1) : Option (S1 ⊕ (Nat × S1)) :=
  sel (ltI x.1.2.1 (len l))
    (obind (idx l x.1.2.1) fun x_1 => sel (eqS x_1.1 []) (obind aw fun x_2 => some (Sum.inr (1, (x_2.1, x.1.2.1, ()), ()))) (some (Sum.inl ((x.1.1, iadd IntKind.i64 x.1.2.1 1, ()), ()))))
    (some (Sum.inr (0, (x.1.1, x.1.2.1, ()), ())))

def isB (c : List Str) (id : Str) (x_8 : S1) : Option (S1 ⊕ S1) :=
  way1 (sel (ltI x_8.1.2.1 (len c))
    (obind (sel (nt x_8.1.1) (obind (idx c x_8.1.2.1) fun x_9 => some (eqS x_9 id)) (some true)) fun x => some (Sum.inl ((x, iadd IntKind.i64 x_8.1.2.1 1, ()), ())))
    (some (Sum.inr (0, (x_8.1.1, x_8.1.2.1, ()), ()))))

/-- The law's text, over what it calls. -/
noncomputable def endsT (l : List Ly) (u : Int) (F A : Option (Bool × Unit)) (CK : Option (Int × Unit)) (RO : Option (List Str × Unit)) (C : List Ly × Str × Unit → Option (List Ly × Int × Unit)) (K : List Ly × Str × Unit → Option (List Str × Unit))
    (SL : List Ly × List Ly × Unit → Option (Bool × Unit)) : Option (Bool × Unit) :=
  obind F fun x =>
    sel (sel (nt (nt x.1)) (eqI (len l) 0) true) (obind A fun x => some (x.1, ()))
      (obind (Ge.Loop (eB A l) ((false, 0, ()), ())) fun x =>
        sel (eqN x.1 0)
          (obind CK fun x =>
            obind (sel (eqI x.1 0) (obind RO fun x => some (eqI (len x.1) 0)) (some false)) fun x =>
              sel x (some (false, ()))
                (sel (eqI (len l) 0) none
                  (obind (idx l (irem (icv IntKind.i64 u) (len l))) fun x =>
                    obind (C (l, x.1, ())) fun x_1 =>
                      sel (nt (eqI x_1.2.1 0)) (obind (sel (eqI (len x_1.1) 0) (obind A fun x => some x.1) (some false)) fun x => some (x, ()))
                        (obind (sel (nt (sel (nt (eqI (len x_1.1) 0)) (ltI 16 (len x_1.1)) true)) (obind (idx x_1.1 0) fun x_2 => some (nt (eqS x_2.1 x.1))) (some true)) fun x_2 =>
                          obind (sel (nt x_2) (obind (idx x_1.1 (isub IntKind.i64 (len x_1.1) 1)) fun x => some (nt (eqS x.2.1 []))) (some true)) fun x_3 =>
                            sel x_3 (some (false, ()))
                              (sel (eqI (len x_1.1) 1) (obind A fun x => some (x.1, ()))
                                (obind (idx x_1.1 0) fun x_4 => obind (C (l, x_4.2.1, ())) fun x_5 => obind (idx x_1.1 1) fun x_6 => obind (K (l, x_6.1, ())) fun x_7 =>
                                  obind (Ge.Loop (isB x_7.1 x.1) ((false, 0, ()), ())) fun x =>
                                    obind (sel (eqI x_5.2.1 0) (sel (inside 1 (len x_1.1) (len x_1.1)) (obind (SL (x_5.1, sub x_1.1 1 (minus (len x_1.1) 1), ())) fun x => some x.1) none) (some false)) fun x_8 =>
                                      obind (sel (sel x_8 x.1.1 false) (obind A fun x => some x.1) (some false)) fun x => some (x, ())))))))
          (some (x.2.1.1, ())))

theorem ends_eq (l : List Ly) (u : Int) : sem cx4 9 plans 4 (A2 LS (.int .u8)) (A1 .bool) (l, u, ()) = endsT l u (cFew.spec (l, ())) (cAwake.spec ()) (cCheck.spec (l, ())) (cRoots.spec (l, ())) cChain.spec cKids.spec cSameL.spec := by kernel_rfl
end Go.Proofs.Ytcdhodfpemkbfaa
