/- A ghost interpreter of the model's code, and that it tells the truth: part 11. It says of a function of plain data what a call of it comes to. -/
import Derived.Test.YtkgjcocemmnpjaaDoorGeJ
import Derived.Sort.EncStr
import Derived.Sort.Grow
import Derived.Lib.SlicesCompact
import Derived.Shelf.Spec.SlicesInsertGrow
import Derived.Deep.RegionLaw
import Derived.Shelf.RegionOpenPlain
import Derived.Lib.Bytealg
namespace Go.Ge
set_option linter.unusedVariables false
set_option linter.unusedSimpArgs false
open RowKit Go.Sort Go.Proofs

end Go.Ge
namespace Go.Ge
set_option linter.unusedSectionVars false
variable [Lp]
open RowKit Go.Shelf Go.Lib Go.Proofs

/-- What is asked of a program that has the function at an element's type. -/
structure InsAt (P : Program) (ρ : Ren) (nm : String) (k : Nat) : Prop where
  mixed : P.follows .mixedOrders = true
  f22 : P.funcs[ρ.f 22]? = some { Body2.n22 ρ with name := nm }
  ov : ∀ (xs : Array Value) (w : World), (callFunc (ρ.f 29) xs).run P w = ((Extern.SlicesOverlaps.overlaps #[(ρ.t 24), (ρ.t 24)] #[(ρ.t 4)] xs).run P w).andThen fun v w' => .ok (.value v) w'
  t3 : P.underlying (ρ.t 3) = some (TypeDesc.int IntKind.i64)
  t4 : P.underlying (ρ.t 4) = some TypeDesc.bool
  t24 : P.underlying (ρ.t 24) = some (TypeDesc.slice (ρ.t 9))
  z9 : ∀ w, (Go.sizeOf (ρ.t 9)).run P w = .ok k w
  i9 : (P.info? (ρ.t 9)).map (·.size) = some k

variable {P : Program} {ρ : Ren} {nm : String} {k : Nat}

end Go.Ge
namespace Go.Ge
set_option linter.unusedSectionVars false
variable [Lp]
open RowKit Go.Shelf Go.Lib Go.Proofs

variable {P : Program} {ρ : Ren} {nm : String}

end Go.Ge
namespace Go.Ge
set_option linter.unusedSectionVars false
variable [Lp]
open RowKit Go.Shelf Go.Lib Go.Proofs

/-- What is asked of a program that has the function at an element's type. -/
structure DelAt (P : Program) (ρ : Ren) (nm : String) (k : Nat) (z : Value) : Prop where
  mixed : P.follows .mixedOrders = true
  f24 : P.funcs[ρ.f 24]? = some { Body2.n24 ρ with name := nm }
  t3 : P.underlying (ρ.t 3) = some (TypeDesc.int IntKind.i64)
  t4 : P.underlying (ρ.t 4) = some TypeDesc.bool
  t24 : P.underlying (ρ.t 24) = some (TypeDesc.slice (ρ.t 9))
  z9 : ∀ w, (Go.sizeOf (ρ.t 9)).run P w = .ok k w
  v9 : ∀ w, (zeroValue (ρ.t 9)).run P w = .ok z w

variable {P : Program} {ρ : Ren} {nm : String} {k : Nat} {z : Value}

end Go.Ge
namespace Go.Ge
set_option linter.unusedSectionVars false
variable [Lp]
set_option linter.unusedVariables false

/-- What the first answers, the second answers. -/
def OLe {α : Type} (a b : Option α) : Prop := ∀ y, a = some y → b = some y
theorem OLe.refl {α : Type} (a : Option α) : OLe a a := fun _ h => h
theorem OLe.obind {α β : Type} {a a' : Option α} {f f' : α → Option β} (h : OLe a a') (k : ∀ x, OLe (f x) (f' x)) : OLe (obind a f) (obind a' f') := fun y hy => by
  cases a with
  | none => cases hy
  | some x => rw [h x rfl]; exact k x y hy
theorem OLe.sel {α : Type} {c : Bool} {a a' b b' : Option α} (h : OLe a a') (k : OLe b b') : OLe (sel c a b) (sel c a' b') := by cases c <;> assumption
theorem OLe.cond {α : Type} {c : Bool} {a a' b b' : Option α} (h : OLe a a') (k : OLe b b') : OLe (cond c a b) (cond c a' b') := by cases c <;> assumption
theorem OLe.way1 {S : Type} {a b : Option (S ⊕ (Nat × S))} (h : OLe a b) : OLe (way1 a) (way1 b) := fun y hy => by
  cases a with
  | none => cases hy
  | some x => rw [h x rfl]; exact hy
theorem OLe.pick {α β γ : Type} {f f' : α → Option γ} {g g' : β → Option γ} {x : α ⊕ β} (h : ∀ y, OLe (f y) (f' y)) (k : ∀ y, OLe (g y) (g' y)) : OLe (pick f g x) (pick f' g' x) := by
  cases x with
  | inl y => exact h y
  | inr y => exact k y
/-- A loop of so many rounds. -/
def RLoop {S R : Type} (f : S → Option (S ⊕ R)) (s : S) : Option R := rounds f 100000 s
theorem OLe.loop {S R : Type} {f g : S → Option (S ⊕ R)} {s : S} (h : ∀ s, OLe (f s) (g s)) : OLe (RLoop f s) (Loop g s) := by
  have key : ∀ (n : Nat) (s : S), OLe (rounds f n s) (rounds g n s) := by
    intro n
    induction n with
    | zero => intro s y hy; cases hy
    | succ n ih =>
      intro s y hy
      unfold rounds at hy ⊢
      cases hf : f s with
      | none => rw [hf] at hy; cases hy
      | some x =>
        rw [h s x hf]
        rw [hf] at hy
        cases x with
        | inl s' => exact ih s' y hy
        | inr r => exact hy
  exact fun y hy => loop_of_rounds (key _ s y hy)

end Go.Ge
namespace Go.Ge
set_option linter.unusedSectionVars false
variable [Lp]
set_option linter.unusedVariables false

/-- A function, its arguments' types and its results'. -/
abbrev Sig := Nat × Ty × Ty

end Go.Ge
namespace Go.Ge
set_option linter.unusedVariables false
open Go.RowKit

end Go.Ge
