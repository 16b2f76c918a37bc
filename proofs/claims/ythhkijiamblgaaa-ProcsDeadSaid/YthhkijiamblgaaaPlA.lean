/- Plain laws of what the functions compute: part 1. -/
import Derived.Test.YthhkijiamblgaaaGeK
import Derived.Lib.Repeat
/- What some functions of the library compute, as plain programs. -/
namespace Go.Ge
abbrev Sb := List UInt8
set_option linter.unusedSectionVars false
variable [Lp]

end Go.Ge

/- Maps of numbers, as lists in the order of their keys. -/
namespace Go.Ge

abbrev MapT := List (Int × Int × Unit)
def mget (l : MapT) (k : Int) : Int := match l.find? (fun p => decide (p.1 = k)) with | some p => p.2.1 | none => 0
def mdel (l : MapT) (k : Int) : MapT := l.filter fun p => !decide (p.1 = k)
def mins (p : Int × Int × Unit) : MapT → MapT
  | [] => [p]
  | y :: r => if p.1 < y.1 then p :: y :: r else y :: mins p r
def mput (l : MapT) (k v : Int) : MapT := mins (k, (v, ())) (mdel l k)

/-- procs.Table: its map, and the last birth. -/
abbrev TabT := MapT × Int × Unit
abbrev TabU := TabT × Unit
def tBirth (x : (Int × Unit) × TabU) : Option ((Int × Int × Unit) × TabU) :=
  some ((bif eqI (mget x.2.1.1 x.1.1) 0 then (0, (3, ())) else (mget x.2.1.1 x.1.1, (0, ()))), x.2)
def tAlive (x : (Int × Int × Unit) × TabU) : Option ((Bool × Unit) × TabU) :=
  some ((bif eqI (mget x.2.1.1 x.1.1) 0 then false else eqI (mget x.2.1.1 x.1.1) x.1.2.1, ()), x.2)
def tKill (x : (Int × Unit) × TabU) : Option ((Int × Unit) × TabU) :=
  some (bif eqI (mget x.2.1.1 x.1.1) 0 then ((3, ()), x.2) else ((0, ()), ((mdel x.2.1.1 x.1.1, (x.2.1.2.1, ())), ())))
def tKillAll (x : Unit × TabU) : Option (Unit × TabU) := some ((), (([], (x.2.1.2.1, ())), ()))
def tSpawn (x : (Int × Unit) × TabU) : Option ((Int × Int × Unit) × TabU) :=
  bif leI 0 x.2.1.2.1 && ltI x.2.1.2.1 1000000 && leI (len x.2.1.1) 1000 then
    some (bif ltI x.1.1 1 || ltI 2147483648 x.1.1 then ((0, (1, ())), x.2)
      else bif !eqI (mget x.2.1.1 x.1.1) 0 then ((0, (4, ())), x.2)
      else bif leI 8 (len x.2.1.1) then ((0, (5, ())), x.2)
      else ((iadd .i64 x.2.1.2.1 1, (0, ())), ((mput x.2.1.1 x.1.1 (iadd .i64 x.2.1.2.1 1), (iadd .i64 x.2.1.2.1 1, ())), ())))
  else none
noncomputable def P_law11_awake (_ : Unit) : Option (Bool × Unit) := some (true, ())

end Go.Ge

/- What the functions of layer 11.d compute, as plain programs (written by a program from what the ghost interpreter comes to). -/
namespace Go.Ge
set_option linter.unusedVariables false
set_option linter.unusedSectionVars false
variable [Lp]
set_option maxRecDepth 100000

abbrev S2x0 := (List (Int × Int × Unit))
abbrev S2x1 := (Nat × (Bool × Unit × Unit × Unit × Int × Unit) × (List (Bool)) × (List (Int)) × (List (Int)) × (Unit × Int × Unit) × S2x0 × Unit)
abbrev S2x2 := ((Bool × Unit × Unit × Unit × Int × Unit) × (List (Bool)) × (List (Int)) × (List (Int)) × (Unit × Int × Unit) × S2x0 × Unit)
abbrev S2x3 := (Bool × Int × Unit)
abbrev S2x4 := (Nat × (Bool × Int × Unit × Unit) × (List (Bool)) × (Unit × Int × Unit) × S2x0 × Unit)
abbrev S2x5 := ((Bool × Int × Unit × Unit) × (List (Bool)) × (Unit × Int × Unit) × S2x0 × Unit)
abbrev S2x6 := ((S2x0 × (Int × Unit)) × Unit)
abbrev S2x7 := (Int × Int × Int × Unit)
abbrev S2x8 := (S2x0 × Int × Unit)
abbrev S2x9 := (Nat × S2x3 × Unit)
noncomputable def P_ref09_SameInts_L0 (x : (List (Int)) × (List (Int)) × Unit) (y1 : S2x3 × Unit) : Option ((S2x3 × Unit) ⊕ S2x9) :=
  sel (sel (ltI y1.1.2.1 (@len Int x.1))
  (ltI y1.1.2.1 (@len Int x.2.1))
  false)
  (obind (@idx Int x.1 y1.1.2.1) (fun (y2 : Int) => obind (@idx Int x.2.1 y1.1.2.1) (fun (y3 : Int) => sel (nt (eqI y2 y3))
  (some (Sum.inr ((1 : Nat), ((false, (y1.1.2.1, ())), ())) : ((S2x3 × Unit)) ⊕ (S2x9)))
  (some (Sum.inl ((y1.1.1, (iadd IntKind.i64 y1.1.2.1 (1 : Int), ())), ()) : ((S2x3 × Unit)) ⊕ (S2x9))))))
  (some (Sum.inr ((0 : Nat), ((y1.1.1, (y1.1.2.1, ())), ())) : ((S2x3 × Unit)) ⊕ (S2x9)))

noncomputable def P_ref09_SameInts (x : (List (Int)) × (List (Int)) × Unit) : Option (Bool × Unit) :=
  sel (nt (eqI (@len Int x.1) (@len Int x.2.1)))
  (some (false, ()))
  (obind (Loop (P_ref09_SameInts_L0 x) ((false, ((0 : Int), ())), ())) (fun (y1 : Nat × S2x3 × Unit) => sel (eqN y1.1 (0 : Nat))
  (some (true, ()))
  (some (y1.2.1.1, ()))))

noncomputable def P_procs_Table_Alive (x : (Int × (Int × Unit)) × S2x6) : Option ((Bool × Unit) × S2x6) :=
  tAlive x

noncomputable def P_procs_Table_KillAll (x : Unit × S2x6) : Option (Unit × S2x6) :=
  tKillAll x

noncomputable def P_procs_Table_Spawn (x : (Int × Unit) × S2x6) : Option ((Int × (Int × Unit)) × S2x6) :=
  tSpawn x

noncomputable def P_procs_Table_Kill (x : (Int × Unit) × S2x6) : Option ((Int × Unit) × S2x6) :=
  tKill x

noncomputable def P_law11_do (x : (S2x7 × Unit) × S2x8 × Unit) : Option ((Int × Int × Unit) × S2x8 × Unit) :=
  sel (eqI x.1.1.1 (1 : Int))
  (obind (P_procs_Table_Spawn ((x.1.1.2.1, ()), ((x.2.1.1, (x.2.1.2.1, ())), ()))) (fun (y1 : (Int × Int × Unit) × S2x8 × Unit) => some ((y1.1.1, (y1.1.2.1, ())), ((y1.2.1.1, (y1.2.1.2.1, ())), ()))))
  (sel (eqI x.1.1.1 (2 : Int))
  (obind (P_procs_Table_Kill ((x.1.1.2.1, ()), ((x.2.1.1, (x.2.1.2.1, ())), ()))) (fun (y1 : (Int × Unit) × S2x8 × Unit) => some (((0 : Int), (y1.1.1, ())), ((y1.2.1.1, (y1.2.1.2.1, ())), ()))))
  (sel (eqI x.1.1.1 (3 : Int))
  (obind (P_procs_Table_KillAll ((), ((x.2.1.1, (x.2.1.2.1, ())), ()))) (fun (y1 : Unit × S2x8 × Unit) => some (((0 : Int), ((0 : Int), ())), ((y1.2.1.1, (y1.2.1.2.1, ())), ()))))
  (obind (P_procs_Table_Alive ((x.1.1.2.1, (x.1.1.2.2.1, ())), ((x.2.1.1, (x.2.1.2.1, ())), ()))) (fun (y1 : (Bool × Unit) × S2x8 × Unit) => sel y1.1.1
  (some (((1 : Int), ((0 : Int), ())), ((y1.2.1.1, (y1.2.1.2.1, ())), ())))
  (some (((0 : Int), ((0 : Int), ())), ((y1.2.1.1, (y1.2.1.2.1, ())), ())))))))

noncomputable def P_law11_ProcsDead_L1 (y1 : (Bool × Unit × Unit × Unit × Int × Unit) × (List (Bool)) × (List (Int)) × (List (Int)) × (Unit × Int × Unit) × S2x0 × Unit) (y3 : (Int × Int × Unit) × S2x8 × Unit) (y5 : S2x3 × Unit) : Option ((S2x3 × Unit) ⊕ S2x9) :=
  sel (ltI y5.1.2.1 (@len Int y1.2.2.1))
  (sel (within y5.1.2.1 (@len Int y1.2.2.1))
  (obind (@idx Int y1.2.2.1 y5.1.2.1) (fun (y6 : Int) => sel (leI y3.1.1 y6)
  (some (Sum.inr ((1 : Nat), ((false, (y5.1.2.1, ())), ())) : ((S2x3 × Unit)) ⊕ (S2x9)))
  (some (Sum.inl ((y5.1.1, (iadd IntKind.i64 y5.1.2.1 (1 : Int), ())), ()) : ((S2x3 × Unit)) ⊕ (S2x9)))))
  none)
  (some (Sum.inr ((0 : Nat), ((y5.1.1, (y5.1.2.1, ())), ())) : ((S2x3 × Unit)) ⊕ (S2x9)))

noncomputable def P_law11_ProcsDead_L2 (y5 : Nat × (Bool × Unit × Unit × Unit × Unit) × (List (Bool)) × (List (Int)) × (List (Int)) × Unit) (y6 : (Bool × Int × Unit × Unit) × (List (Bool)) × (Unit × Int × Unit) × S2x0 × Unit) : Option (S2x5 ⊕ S2x4) :=
  sel (ltI y6.1.2.1 (@len Int y5.2.2.2.2.1))
  (sel (within y6.1.2.1 (@len Int y5.2.2.2.2.1))
  (obind (@idx Int y5.2.2.2.2.1 y6.1.2.1) (fun (y7 : Int) => sel (within y6.1.2.1 (@len Int y5.2.2.2.1))
  (obind (@idx Int y5.2.2.2.1 y6.1.2.1) (fun (y8 : Int) => obind (P_procs_Table_Alive ((y7, (y8, ())), ((y6.2.2.2.1, (y6.2.2.1.2.1, ())), ()))) (fun (y9 : (Bool × Unit) × S2x8 × Unit) => obind (sel y9.1.1
  (sel (within y6.1.2.1 (@len Bool y6.2.1))
  (obind (@idx Bool y6.2.1 y6.1.2.1) (fun (y10 : Bool) => some y10))
  none)
  (some false)) (fun (y10 : Bool) => sel y10
  (some (Sum.inr ((1 : Nat), ((false, (y6.1.2.1, ((), ()))), (y6.2.1, (((), (y9.2.1.2.1, ())), (y9.2.1.1, ()))))) : (S2x5) ⊕ (S2x4)))
  (sel (within y6.1.2.1 (@len Bool y6.2.1))
  (obind (@idx Bool y6.2.1 y6.1.2.1) (fun (y11 : Bool) => obind (@idx Bool y6.2.1 y6.1.2.1) (fun (y12 : Bool) => obind (@idx Bool y6.2.1 y6.1.2.1) (fun (y13 : Bool) => some (Sum.inl ((y6.1.1, (iadd IntKind.i64 y6.1.2.1 (1 : Int), ((), ()))), (@lset Bool y6.2.1 y6.1.2.1 (nt y9.1.1), (((), (y9.2.1.2.1, ())), (y9.2.1.1, ())))) : (S2x5) ⊕ (S2x4))))))
  none)))))
  none))
  none)
  (some (Sum.inr ((0 : Nat), ((y6.1.1, (y6.1.2.1, ((), ()))), (y6.2.1, (((), (y6.2.2.1.2.1, y6.2.2.1.2.2)), (y6.2.2.2.1, ()))))) : (S2x5) ⊕ (S2x4)))

noncomputable def P_law11_ProcsDead_L0 (x : (List S2x7) × Unit) (y1 : (Bool × Unit × Unit × Unit × Int × Unit) × (List (Bool)) × (List (Int)) × (List (Int)) × (Unit × Int × Unit) × S2x0 × Unit) : Option (S2x2 ⊕ S2x1) :=
  sel (ltI y1.1.2.2.2.2.1 (@len S2x7 x.1))
  (obind (@idx S2x7 x.1 y1.1.2.2.2.2.1) (fun (y2 : Int × Int × Int × Unit) => obind (P_law11_do ((y2, ()), ((y1.2.2.2.2.2.1, (y1.2.2.2.2.1.2.1, ())), ()))) (fun (y3 : (Int × Int × Unit) × S2x8 × Unit) => obind (@idx S2x7 x.1 y1.1.2.2.2.2.1) (fun (y4 : Int × Int × Int × Unit) => obind (sel (sel (eqI y4.1 (1 : Int))
  (eqI y3.1.2.1 (0 : Int))
  false)
  (obind (Loop (P_law11_ProcsDead_L1 y1 y3) ((y1.1.1, ((0 : Int), ())), ())) (fun (y5 : Nat × S2x3 × Unit) => sel (eqN y5.1 (0 : Nat))
  (obind (@idx S2x7 x.1 y1.1.2.2.2.2.1) (fun (y6 : Int × Int × Int × Unit) => sel (fits (plus (@len Int y1.2.2.2.1) (@len Int ([y6.2.1] : List (Int)))))
  (sel (fits (plus (@len Int y1.2.2.1) (@len Int ([y3.1.1] : List (Int)))))
  (sel (fits (plus (@len Bool y1.2.1) (@len Bool ([false] : List (Bool)))))
  (some ((0 : Nat), ((y5.2.1.1, ((), ((), ((), ())))), (@app Bool y1.2.1 ([false] : List (Bool)), (@app Int y1.2.2.1 ([y3.1.1] : List (Int)), (@app Int y1.2.2.2.1 ([y6.2.1] : List (Int)), ()))))))
  none)
  none)
  none))
  (some ((1 : Nat), ((y5.2.1.1, ((), ((), ((), ())))), (y1.2.1, (y1.2.2.1, (y1.2.2.2.1, ()))))))))
  (some ((0 : Nat), ((y1.1.1, ((), ((), ((), ())))), (y1.2.1, (y1.2.2.1, (y1.2.2.2.1, ()))))))) (fun (y5 : Nat × (Bool × Unit × Unit × Unit × Unit) × (List (Bool)) × (List (Int)) × (List (Int)) × Unit) => sel (eqN y5.1 (0 : Nat))
  (obind (Loop (P_law11_ProcsDead_L2 y5) ((y5.2.1.1, ((0 : Int), ((), ()))), (y5.2.2.1, (((), (y3.2.1.2.1, ())), (y3.2.1.1, ()))))) (fun (y6 : Nat × (Bool × Int × Unit × Unit) × (List (Bool)) × (Unit × Int × Unit) × S2x0 × Unit) => sel (eqN y6.1 (0 : Nat))
  (some (Sum.inl ((y6.2.1.1, ((), ((), ((), (iadd IntKind.i64 y1.1.2.2.2.2.1 (1 : Int), ()))))), (y6.2.2.1, (y5.2.2.2.1, (y5.2.2.2.2.1, (((), (y6.2.2.2.1.2.1, y6.2.2.2.1.2.2)), (y6.2.2.2.2.1, ())))))) : (S2x2) ⊕ (S2x1)))
  (some (Sum.inr ((1 : Nat), ((y6.2.1.1, ((), ((), ((), (y1.1.2.2.2.2.1, ()))))), (y6.2.2.1, (y5.2.2.2.1, (y5.2.2.2.2.1, (((), (y6.2.2.2.1.2.1, y6.2.2.2.1.2.2)), (y6.2.2.2.2.1, ()))))))) : (S2x2) ⊕ (S2x1)))))
  (some (Sum.inr ((1 : Nat), ((y5.2.1.1, ((), ((), ((), (y1.1.2.2.2.2.1, ()))))), (y5.2.2.1, (y5.2.2.2.1, (y5.2.2.2.2.1, (((), (y3.2.1.2.1, ())), (y3.2.1.1, ()))))))) : (S2x2) ⊕ (S2x1))))))))
  (some (Sum.inr ((0 : Nat), ((y1.1.1, ((), ((), ((), (y1.1.2.2.2.2.1, ()))))), (y1.2.1, (y1.2.2.1, (y1.2.2.2.1, (((), (y1.2.2.2.2.1.2.1, y1.2.2.2.2.1.2.2)), (y1.2.2.2.2.2.1, ()))))))) : (S2x2) ⊕ (S2x1)))

noncomputable def P_law11_ProcsDead (x : (List S2x7) × Unit) : Option (Bool × Unit) :=
  sel (ltI (40 : Int) (@len S2x7 x.1))
  (obind (P_law11_awake ()) (fun (y1 : Bool × Unit) => some (y1.1, ())))
  (obind (Loop (P_law11_ProcsDead_L0 x) ((false, ((), ((), ((), ((0 : Int), ()))))), (([] : List (Bool)), (([] : List (Int)), (([] : List (Int)), (((), ((0 : Int), ())), (([] : List (Int × Int × Unit)), ()))))))) (fun (y1 : Nat × (Bool × Unit × Unit × Unit × Int × Unit) × (List (Bool)) × (List (Int)) × (List (Int)) × (Unit × Int × Unit) × S2x0 × Unit) => sel (eqN y1.1 (0 : Nat))
  (obind (P_law11_awake ()) (fun (y2 : Bool × Unit) => some (y2.1, ())))
  (some (y1.2.1.1, ()))))
end Go.Ge

/- Maps of numbers: what is put in is got. -/
namespace Go.Ge

theorem mget_cons (p : Int × Int × Unit) (l : MapT) (j : Int) : mget (p :: l) j = if p.1 = j then p.2.1 else mget l j := by
  unfold mget
  rw [List.find?_cons]
  by_cases h : p.1 = j
  · rw [if_pos h, decide_eq_true h]
  · rw [if_neg h, decide_eq_false h]
theorem mget_ins (p : Int × Int × Unit) (l : MapT) (j : Int) (h : p.1 ≠ j) : mget (mins p l) j = mget l j := by
  induction l with
  | nil => unfold mins; rw [mget_cons, if_neg h]
  | cons y r ih =>
    unfold mins
    split
    · rw [mget_cons, if_neg h]
    · rw [mget_cons, mget_cons, ih]
theorem mget_del (l : MapT) (k j : Int) : mget (mdel l k) j = if k = j then 0 else mget l j := by
  induction l with
  | nil => by_cases h : k = j <;> simp [h] <;> rfl
  | cons y r ih =>
    unfold mdel at ih ⊢
    rw [List.filter_cons]
    by_cases hy : y.1 = k
    · rw [if_neg (by simp [hy]), ih, mget_cons]
      by_cases h : k = j
      · rw [if_pos h, if_pos h]
      · rw [if_neg h, if_neg h, if_neg (by rw [hy]; exact h)]
    · rw [if_pos (by simp [hy]), mget_cons, ih, mget_cons]
      by_cases h : k = j
      · rw [if_pos h, if_pos h, if_neg (by rw [← h]; exact hy)]
      · rw [if_neg h, if_neg h]
theorem mget_ins_same (p : Int × Int × Unit) (l : MapT) (h : ∀ y ∈ l, y.1 ≠ p.1) : mget (mins p l) p.1 = p.2.1 := by
  induction l with
  | nil => unfold mins; rw [mget_cons, if_pos rfl]
  | cons y r ih =>
    unfold mins
    split
    · rw [mget_cons, if_pos rfl]
    · rw [mget_cons, if_neg (h y (by simp)), ih fun z hz => h z (by simp [hz])]
theorem mget_put (l : MapT) (k v j : Int) : mget (mput l k v) j = if k = j then v else mget l j := by
  unfold mput
  by_cases h : k = j
  · subst h
    rw [if_pos rfl]
    exact mget_ins_same (k, (v, ())) _ fun y hy => by
      have := (List.mem_filter.1 hy).2
      simpa using this
  · rw [if_neg h, mget_ins _ _ _ h, mget_del, if_neg h]
theorem len_ins (p : Int × Int × Unit) (l : MapT) : (mins p l).length = l.length + 1 := by
  induction l with
  | nil => rfl
  | cons y r ih =>
    unfold mins
    split
    · rfl
    · simp [ih]
theorem len_del (l : MapT) (k : Int) : (mdel l k).length ≤ l.length := List.length_filter_le _ _
theorem len_put (l : MapT) (k v : Int) : (mput l k v).length ≤ l.length + 1 := by
  unfold mput
  rw [len_ins]
  have := len_del l k
  omega

end Go.Ge

/- Plain laws of numbers: sums that stay in range, bits of words. -/
namespace Go.Ge
set_option linter.unusedSectionVars false
variable [Lp]
set_option linter.unusedVariables false
set_option linter.unusedSimpArgs false

theorem iadd_i64 {a b : Int} (h : -9223372036854775808 ≤ a + b) (h2 : a + b ≤ 9223372036854775807) : iadd .i64 a b = a + b := by
  unfold iadd; simp [IntKind.wrap, IntKind.min, IntKind.max, IntKind.signed, IntKind.bits]; omega
/-! ### Words of 32 bits -/
/-! ### Tests and places, decided -/
theorem ltI_true {a b : Int} (h : a < b) : ltI a b = true := by simp [ltI, h]
theorem leI_true {a b : Int} (h : a ≤ b) : leI a b = true := by simp [leI, h]
theorem leI_false {a b : Int} (h : b < a) : leI a b = false := by simp [leI]; omega
theorem eqI_true {a b : Int} (h : a = b) : eqI a b = true := by simp [eqI, h]
theorem eqI_false {a b : Int} (h : a ≠ b) : eqI a b = false := by simp [eqI, h]
theorem within_true {i n : Int} (h0 : 0 ≤ i) (h1 : i < n) : within i n = true := by simp [within, h0, h1]
theorem fits_true {n : Int} (h : n ≤ 4294967296) : fits n = true := by simp [fits, h]
theorem lset_nat {α : Type} (l : List α) (i : Nat) (x : α) : lset l (i : Int) x = l.set i x := by simp [lset]
end Go.Ge

/- Plain laws of loops that go through a list, of words in natural numbers. -/
namespace Go.Ge
set_option linter.unusedSectionVars false
variable [Lp]
set_option linter.unusedVariables false
set_option linter.unusedSimpArgs false

/-! ### Words in natural numbers -/
theorem ltI_len {α : Type} (i : Nat) (l : List α) : ltI (i : Int) (len l) = decide (i < l.length) := by simp [ltI, len]
end Go.Ge

/- The order of texts; two lists gone through side by side. -/
namespace Go.Ge
set_option linter.unusedSectionVars false
variable [Lp]
set_option linter.unusedVariables false
set_option linter.unusedSimpArgs false

/-! ### Side by side -/
end Go.Ge

/- Plain laws of loops that look for something in a list. -/
namespace Go.Ge
set_option linter.unusedSectionVars false
variable [Lp]
set_option linter.unusedVariables false
set_option linter.unusedSimpArgs false

end Go.Ge

/- Who is dead stays dead: the law, in plain words. -/
namespace Go.Ge
set_option linter.unusedSectionVars false
variable [Lp]

theorem loop_inv {S R : Type} {f : S → Option (S ⊕ R)} {Q : R → Prop} (Inv : Nat → S → Prop) : ∀ (d n i : Nat) (s : S), i + d = n → Inv i s → (∀ i s, i < n → Inv i s → ∃ s', f s = some (.inl s') ∧ Inv (i + 1) s') →
    (∀ s, Inv n s → ∃ r, f s = some (.inr r) ∧ Q r) → ∃ r, Loop f s = some r ∧ Q r := by
  intro d
  induction d with
  | zero =>
    intro n i s hi h0 _ hf
    rw [Nat.add_zero] at hi
    subst hi
    obtain ⟨r, h1, h2⟩ := hf s h0
    exact ⟨r, by rw [Loop_eq, h1]; rfl, h2⟩
  | succ d ih =>
    intro n i s hi h0 hs hf
    obtain ⟨s', h1, h2⟩ := hs i s (by omega) h0
    obtain ⟨r, h3, h4⟩ := ih n (i + 1) s' (by omega) h2 hs hf
    exact ⟨r, by rw [Loop_eq, h1]; exact h3, h4⟩

/-- Is the process of a birth there? -/
def alv (l : MapT) (p b : Int) : Bool := bif eqI (mget l p) 0 then false else eqI (mget l p) b
theorem alv_iff {l : MapT} {p b : Int} : alv l p b = true ↔ mget l p ≠ 0 ∧ mget l p = b := by
  unfold alv eqI
  by_cases h : mget l p = 0
  · simp [h]
  · simp [h]
theorem alive_val (l : MapT) (last p b : Int) : P_procs_Table_Alive ((p, (b, ())), ((l, (last, ())), ())) = some ((alv l p b, ()), ((l, (last, ())), ())) := rfl

theorem do_val (a : Int × Int × Int × Unit) (l : MapT) (last : Int) (h0 : 0 ≤ last) (h1 : last < 1000) (hl : l.length ≤ 1000) :
    ∃ n e l' last', P_law11_do ((a, ()), ((l, (last, ())), ())) = some ((n, (e, ())), ((l', (last', ())), ())) ∧ (last ≤ last' ∧ last' ≤ last + 1) ∧ l'.length ≤ l.length + 1 ∧
      (a.1 = 1 → e = 0 → n = last + 1 ∧ last' = last + 1) ∧ ∀ p b, b ≤ last → alv l' p b = true → alv l p b = true := by
  unfold P_law11_do
  dsimp only
  by_cases k1 : a.1 = 1
  · rw [eqI_true k1, sel_true]
    unfold P_procs_Table_Spawn tSpawn
    dsimp only
    rw [show (leI 0 last && ltI last 1000000 && leI (len l) 1000) = true by rw [leI_true h0, ltI_true (by omega), leI_true (by unfold len; omega)]; rfl, iadd_i64 (by omega) (by omega)]
    simp only [cond_true, obind_some]
    cases c1 : (ltI a.2.1 1 || ltI 2147483648 a.2.1) with
    | true =>
      simp only [cond_true]
      exact ⟨_, _, _, _, rfl, by omega, by omega, fun _ h => absurd h (by decide), fun _ _ _ h => h⟩
    | false =>
    simp only [cond_false]
    cases c2 : (!eqI (mget l a.2.1) 0) with
    | true =>
      simp only [cond_true]
      exact ⟨_, _, _, _, rfl, by omega, by omega, fun _ h => absurd h (by decide), fun _ _ _ h => h⟩
    | false =>
    simp only [cond_false]
    cases c3 : leI 8 (len l) with
    | true =>
      simp only [cond_true]
      exact ⟨_, _, _, _, rfl, by omega, by omega, fun _ h => absurd h (by decide), fun _ _ _ h => h⟩
    | false =>
      simp only [cond_false]
      refine ⟨_, _, _, _, rfl, by omega, len_put _ _ _, fun _ _ => ⟨rfl, rfl⟩, fun p b hb h => ?_⟩
      rw [alv_iff, mget_put] at h
      rw [alv_iff]
      by_cases hp : a.2.1 = p
      · rw [if_pos hp] at h; omega
      · rw [if_neg hp] at h; exact h
  · rw [eqI_false k1, sel_false]
    by_cases k2 : a.1 = 2
    · rw [eqI_true k2, sel_true]
      unfold P_procs_Table_Kill tKill
      dsimp only
      simp only [obind_some]
      cases c1 : eqI (mget l a.2.1) 0 with
      | true =>
        simp only [cond_true]
        exact ⟨_, _, _, _, rfl, by omega, by omega, fun h => absurd h k1, fun _ _ _ h => h⟩
      | false =>
        simp only [cond_false]
        refine ⟨_, _, _, _, rfl, by omega, by have := len_del l a.2.1; omega, fun h => absurd h k1, fun p b hb h => ?_⟩
        rw [alv_iff, mget_del] at h
        rw [alv_iff]
        by_cases hp : a.2.1 = p
        · rw [if_pos hp] at h; exact absurd rfl h.1
        · rw [if_neg hp] at h; exact h
    · rw [eqI_false k2, sel_false]
      by_cases k3 : a.1 = 3
      · rw [eqI_true k3, sel_true]
        unfold P_procs_Table_KillAll tKillAll
        dsimp only
        simp only [obind_some]
        refine ⟨_, _, _, _, rfl, by omega, by simp, fun h => absurd h k1, fun p b hb h => ?_⟩
        rw [alv_iff] at h
        exact absurd rfl h.1
      · rw [eqI_false k3, sel_false, alive_val, obind_some]
        dsimp only
        cases alv l a.2.1 a.2.2.1 with
        | true => exact ⟨_, _, _, _, rfl, by omega, by omega, fun h => absurd h k1, fun _ _ _ h => h⟩
        | false => exact ⟨_, _, _, _, rfl, by omega, by omega, fun h => absurd h k1, fun _ _ _ h => h⟩

abbrev DeadS := (Bool × Unit × Unit × Unit × Int × Unit) × List Bool × List Int × List Int × (Unit × Int × Unit) × MapT × Unit
def dS (i : Nat) (dead : List Bool) (births pids : List Int) (last : Int) (l : MapT) : DeadS := ((false, ((), ((), ((), ((i : Int), ()))))), (dead, (births, (pids, (((), (last, ())), (l, ()))))))

theorem births_loop (y1 : DeadS) (y3 : (Int × Int × Unit) × TabU) (hb : ∀ (k : Nat) b, y1.2.2.1[k]? = some b → b < y3.1.1) (hl : y1.2.2.1.length ≤ 1000) :
    Loop (P_law11_ProcsDead_L1 y1 y3) ((false, ((0 : Int), ())), ()) = some (0, ((false, ((y1.2.2.1.length : Int), ())), ())) := by
  refine loop_seq y1.2.2.1.length (fun k : Nat => ((false, ((k : Int), ())), ())) (fun k hk => ?_) ?_
  · unfold P_law11_ProcsDead_L1
    dsimp only
    have hx : y1.2.2.1[k]? = some y1.2.2.1[k] := List.getElem?_eq_getElem hk
    rw [ltI_len, decide_eq_true hk, sel_true, within_true (by omega) (by unfold len; omega), sel_true, idx_nat, hx, obind_some, leI_false (hb k _ hx), sel_false, iadd_one (by omega)]
  · unfold P_law11_ProcsDead_L1
    dsimp only
    rw [ltI_len, decide_eq_false (by omega), sel_false]

/-- What is known of who was begun: how many; nobody who is dead is there. -/
structure Dd (dead : List Bool) (births pids : List Int) (last : Int) (l : MapT) : Prop where
  lb : births.length = dead.length
  lp : pids.length = dead.length
  bl : ∀ (k : Nat) b, births[k]? = some b → b ≤ last
  dd : ∀ (k : Nat) b p, births[k]? = some b → pids[k]? = some p → dead[k]? = some true → alv l p b = false

theorem alive_loop (y5 : Nat × (Bool × Unit × Unit × Unit × Unit) × List Bool × List Int × List Int × Unit) (last : Int) (l : MapT) (h : Dd y5.2.2.1 y5.2.2.2.1 y5.2.2.2.2.1 last l) (hl : y5.2.2.1.length ≤ 1000) :
    ∃ dead', Loop (P_law11_ProcsDead_L2 y5) ((false, ((0 : Int), ((), ()))), (y5.2.2.1, (((), (last, ())), (l, ())))) = some (0, ((false, ((y5.2.2.1.length : Int), ((), ()))), (dead', (((), (last, ())), (l, ()))))) ∧
      Dd dead' y5.2.2.2.1 y5.2.2.2.2.1 last l ∧ dead'.length = y5.2.2.1.length := by
  have hlb := h.lb
  have hlp := h.lp
  have main := loop_inv (f := P_law11_ProcsDead_L2 y5) (Q := fun r => ∃ dead', r = (0, ((false, ((y5.2.2.1.length : Int), ((), ()))), (dead', (((), (last, ())), (l, ()))))) ∧ Dd dead' y5.2.2.2.1 y5.2.2.2.2.1 last l ∧ dead'.length = y5.2.2.1.length)
    (fun k s => ∃ dead', s = ((false, ((k : Int), ((), ()))), (dead', (((), (last, ())), (l, ())))) ∧ Dd dead' y5.2.2.2.1 y5.2.2.2.2.1 last l ∧ dead'.length = y5.2.2.1.length) y5.2.2.1.length y5.2.2.1.length 0 _ (Nat.zero_add _) ⟨_, rfl, h, rfl⟩ ?_ ?_
  · obtain ⟨r, h1, dead', rfl, h2, h3⟩ := main
    exact ⟨dead', h1, h2, h3⟩
  · rintro k s hk ⟨dead', rfl, hd, hn⟩
    have hkd : k < dead'.length := by omega
    have hx : y5.2.2.2.1[k]? = some y5.2.2.2.1[k] := List.getElem?_eq_getElem (by omega)
    have hp : y5.2.2.2.2.1[k]? = some y5.2.2.2.2.1[k] := List.getElem?_eq_getElem (by omega)
    have hq : dead'[k]? = some dead'[k] := List.getElem?_eq_getElem hkd
    refine ⟨((false, (((k + 1 : Nat) : Int), ((), ()))), (dead'.set k (nt (alv l y5.2.2.2.2.1[k] y5.2.2.2.1[k])), (((), (last, ())), (l, ())))), ?_, ⟨_, rfl, ⟨by rw [List.length_set]; exact hd.lb, by rw [List.length_set]; exact hd.lp, hd.bl, fun j b p hb hpj hdj => ?_⟩, by rw [List.length_set]; exact hn⟩⟩
    · unfold P_law11_ProcsDead_L2
      dsimp only
      rw [ltI_len, decide_eq_true (by omega), sel_true, within_true (by omega) (by unfold len; omega), sel_true, idx_nat, hp, obind_some, within_true (by omega) (by unfold len; omega), sel_true, idx_nat, hx, obind_some, alive_val, obind_some]
      dsimp only
      rw [within_true (by omega) (by unfold len; omega), sel_true, sel_true, idx_nat, hq, obind_some, lset_nat, iadd_one (by omega)]
      have hno : obind (sel (alv l y5.2.2.2.2.1[k] y5.2.2.2.1[k]) (some dead'[k]) (some false)) (fun y10 => some y10) = some false := by
        cases ha : alv l y5.2.2.2.2.1[k] y5.2.2.2.1[k] with
        | false => rfl
        | true =>
          cases hdk : dead'[k] with
          | false => rfl
          | true =>
            have := hd.dd k _ _ hx hp (by rw [hq, hdk])
            rw [ha] at this
            cases this
      have hno2 : sel (alv l y5.2.2.2.2.1[k] y5.2.2.2.1[k]) (some dead'[k]) (some false) = some false := by
        cases hs : sel (alv l y5.2.2.2.2.1[k] y5.2.2.2.1[k]) (some dead'[k]) (some false) with
        | none => rw [hs] at hno; cases hno
        | some z => rw [hs] at hno; exact hno
      rw [hno2]
      rfl
    · rw [List.getElem?_set] at hdj
      by_cases hjk : k = j
      · subst hjk
        rw [if_pos rfl, if_pos hkd] at hdj
        rw [hx] at hb
        rw [hp] at hpj
        obtain rfl := Option.some.inj hb
        obtain rfl := Option.some.inj hpj
        have hdj := Option.some.inj hdj
        cases ha : alv l y5.2.2.2.2.1[k] y5.2.2.2.1[k] with
        | false => rfl
        | true => rw [ha] at hdj; cases hdj
      · rw [if_neg hjk] at hdj
        exact hd.dd j b p hb hpj hdj
  · rintro s ⟨dead', rfl, hd, hn⟩
    refine ⟨_, ?_, dead', rfl, hd, hn⟩
    unfold P_law11_ProcsDead_L2
    dsimp only
    rw [ltI_len, decide_eq_false (by omega), sel_false]

theorem procsDead_val (x) : P_law11_ProcsDead x = some (true, ()) := by
  unfold P_law11_ProcsDead
  have ha : P_law11_awake () = some (true, ()) := rfl
  cases h40 : ltI (40 : Int) (@len (Int × Int × Int × Unit) x.1) with
  | true => rw [sel_true, ha]; rfl
  | false =>
  rw [sel_false]
  have hle : x.1.length ≤ 40 := by
    have : ¬ (40 : Int) < (x.1.length : Int) := of_decide_eq_false h40
    omega
  have main := loop_inv (f := P_law11_ProcsDead_L0 x) (Q := fun r => r.1 = 0)
    (fun i s => ∃ dead births pids last l, s = dS i dead births pids last l ∧ Dd dead births pids last l ∧ dead.length ≤ i ∧ (0 ≤ last ∧ last ≤ (i : Int)) ∧ l.length ≤ i) x.1.length x.1.length 0 (dS 0 [] [] [] 0 []) (Nat.zero_add _)
    ⟨[], [], [], 0, [], rfl, ⟨rfl, rfl, fun k b h => by simp at h, fun k b p h => by simp at h⟩, Nat.le_refl _, ⟨by decide, by decide⟩, Nat.le_refl _⟩ ?_ ?_
  · obtain ⟨r, h1, h2⟩ := main
    rw [show (((false, ((), ((), ((), ((0 : Int), ()))))), (([] : List (Bool)), (([] : List (Int)), (([] : List (Int)), (((), ((0 : Int), ())), (([] : List (Int × Int × Unit)), ())))))) : DeadS) = dS 0 [] [] [] 0 [] from rfl, h1, obind_some, h2]
    rw [show eqN (0 : Nat) (0 : Nat) = true from rfl, sel_true, ha]
    rfl
  · rintro i s hi ⟨dead, births, pids, last, l, rfl, hd, hn, ⟨hl0, hl1⟩, hm⟩
    have hx : x.1[i]? = some x.1[i] := List.getElem?_eq_getElem hi
    generalize x.1[i] = act at hx
    obtain ⟨n, e, l', last', hdo, ⟨hla, hlb'⟩, hlen, hnew, hold⟩ := do_val act l last hl0 (by omega) (by omega)
    have hlb := hd.lb
    have hlp := hd.lp
    unfold P_law11_ProcsDead_L0 dS
    dsimp only
    rw [ltI_len, decide_eq_true hi, sel_true, idx_nat, hx, obind_some, hdo, obind_some, obind_some]
    dsimp only
    have hold' : ∀ (k : Nat) b p, births[k]? = some b → pids[k]? = some p → dead[k]? = some true → alv l' p b = false := fun k b p hb hp hk => by
      have h1 := hd.dd k b p hb hp hk
      cases h2 : alv l' p b with
      | false => rfl
      | true =>
        have := hold p b (hd.bl k b hb) h2
        rw [h1] at this; cases this
    cases hs : sel (eqI act.1 (1 : Int)) (eqI e (0 : Int)) false with
    | false =>
      rw [sel_false, obind_some]
      dsimp only
      rw [show eqN (0 : Nat) (0 : Nat) = true from rfl, sel_true]
      obtain ⟨dead', h1, h2, h3⟩ := alive_loop (0, ((false, ((), ((), ((), ())))), (dead, (births, (pids, ()))))) last' l' ⟨hd.lb, hd.lp, fun k b hb => Int.le_trans (hd.bl k b hb) hla, hold'⟩ (by show dead.length ≤ 1000; omega)
      dsimp only at h1 h2 h3
      rw [h1, obind_some]
      dsimp only
      rw [show eqN (0 : Nat) (0 : Nat) = true from rfl, sel_true, iadd_one (by omega)]
      exact ⟨_, rfl, dead', births, pids, last', l', rfl, h2, by omega, ⟨by omega, by omega⟩, by omega⟩
    | true =>
      have ha1 : act.1 = 1 := by
        cases hq : eqI act.1 (1 : Int) with
        | true => simpa [eqI] using hq
        | false => rw [hq] at hs; cases hs
      have he : e = 0 := by
        rw [eqI_true ha1] at hs
        have hs : eqI e 0 = true := hs
        simpa [eqI] using hs
      obtain ⟨hn1, hn2⟩ := hnew ha1 he
      rw [sel_true]
      have hbl := births_loop (dS i dead births pids last l) ((n, (e, ())), ((l', (last', ())), ())) (fun k b hb => by
        have := hd.bl k b hb
        show b < n
        omega) (by show births.length ≤ 1000; omega)
      unfold dS at hbl
      dsimp only at hbl
      rw [hbl, obind_some]
      dsimp only
      rw [show eqN (0 : Nat) (0 : Nat) = true from rfl, sel_true, obind_some, fits_true (by unfold plus len; simp; omega), sel_true, fits_true (by unfold plus len; simp; omega), sel_true, fits_true (by unfold plus len; simp; omega), sel_true, obind_some]
      dsimp only
      rw [show eqN (0 : Nat) (0 : Nat) = true from rfl, sel_true]
      have hat : ∀ {α : Type} (q : List α) (z : α) (m : Nat), q.length = m → ∀ (k : Nat) y, (app q [z])[k]? = some y → (k < m ∧ q[k]? = some y) ∨ (k = m ∧ y = z) := by
        intro α q z m hm k y hk
        have hk : (q ++ [z])[k]? = some y := hk
        rcases Nat.lt_or_ge k m with h | h
        · rw [List.getElem?_append_left (by omega)] at hk; exact .inl ⟨h, hk⟩
        · rw [List.getElem?_append_right (by omega)] at hk
          have : k - q.length = 0 := by
            rcases Nat.eq_zero_or_pos (k - q.length) with h0 | h0
            · exact h0
            · rw [List.getElem?_eq_none (by simp; omega)] at hk; cases hk
          rw [this] at hk
          exact .inr ⟨by omega, (Option.some.inj hk).symm⟩
      have hal : ∀ {α : Type} (q : List α) (z : α), (app q [z]).length = q.length + 1 := fun q z => by simp [app]
      obtain ⟨dead', h1, h2, h3⟩ := alive_loop (0, ((false, ((), ((), ((), ())))), (app dead [false], (app births [n], (app pids [act.2.1], ()))))) last' l' ⟨by rw [hal, hal, hlb], by rw [hal, hal, hlp], fun k b hb => by
          rcases hat births n dead.length hlb k b hb with ⟨_, h⟩ | ⟨_, rfl⟩
          · have := hd.bl k b h; omega
          · omega, fun k b p hb hp hk => by
          rcases hat dead false dead.length rfl k true hk with ⟨hk1, hk2⟩ | ⟨_, h⟩
          · rcases hat births n dead.length hlb k b hb with ⟨_, h⟩ | ⟨h, _⟩
            · rcases hat pids act.2.1 dead.length hlp k p hp with ⟨_, h'⟩ | ⟨h', _⟩
              · exact hold' k b p h h' hk2
              · omega
            · omega
          · cases h⟩ (by show (app dead [false]).length ≤ 1000; rw [hal]; omega)
      dsimp only at h1 h2 h3
      rw [h1, obind_some]
      dsimp only
      rw [show eqN (0 : Nat) (0 : Nat) = true from rfl, sel_true, iadd_one (by omega)]
      exact ⟨_, rfl, dead', _, _, last', l', rfl, h2, by rw [h3, hal]; omega, ⟨by omega, by omega⟩, by omega⟩
  · rintro s ⟨dead, births, pids, last, l, rfl, _⟩
    unfold P_law11_ProcsDead_L0 dS
    dsimp only
    rw [ltI_len, decide_eq_false (by omega), sel_false]
    exact ⟨_, rfl, rfl⟩

end Go.Ge
