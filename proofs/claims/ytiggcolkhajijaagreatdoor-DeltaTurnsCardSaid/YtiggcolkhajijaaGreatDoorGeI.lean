/- A ghost interpreter of the model's code, and that it tells the truth: part 9. It says of a function of plain data what a call of it comes to. -/
import Derived.Test.YtiggcolkhajijaaGreatDoorGeH
import Derived.Shelf.Strconv.Itoa3
import Derived.Shelf.Strconv.ErrVarParseInt
import Derived.Lib.AppendIntMem
import Derived.Lib.ItoaLen
import Derived.Lib.LaidTab
import Derived.LaidSub
import Derived.Sort.EncStr
import Derived.Sort.Grow
import Derived.Lib.SlicesCompact
import Derived.Shelf.Spec.SlicesInsertGrow
import Derived.Deep.RegionLaw
import Derived.Shelf.RegionOpenPlain
namespace Go.Ge
set_option linter.unusedVariables false
set_option linter.unusedSimpArgs false
open RowKit

/-! ### Tables -/
/-! ### Digits -/
/-! ### Functions that call themselves -/
theorem Holds.weaken {P : Program} {G : Globs} {f : Nat} {A R : Ty} {spec spec' : A.den → Option R.den} (h : Holds P G f ⟨A, R, spec⟩) (hs : ∀ x y, spec' x = some y → spec x = some y) : Holds P G f ⟨A, R, spec'⟩ where
  body := h.body
  calls := fun I w args x y hI hG ha hx => h.calls I w args x y hI hG ha (hs x y hx)

end Go.Ge
namespace Go.Ge
set_option linter.unusedVariables false
set_option linter.unusedSimpArgs false
open RowKit Go.Sort Go.Proofs

end Go.Ge
namespace Go.Ge
open RowKit Go.Shelf Go.Lib Go.Proofs

/-- What is asked of a program that has the function at an element's type. -/
structure InsAt (P : Program) (ρ : Ren) (nm : String) (k : Nat) : Prop where
  mixed : P.follows .mixedOrders = true
  f22 : P.funcs[ρ.f 22]? = some { Body2.n22 ρ with name := nm }
  ov : ∀ (xs : Array Value) (w : World), (callFunc (ρ.f 29) xs).run P w = ((Extern.SlicesOverlaps.overlaps #[(ρ.t 24), (ρ.t 24)] #[(ρ.t 4)] xs).run P w).andThen fun v w' => .ok (.value v) w'
  t3 : P.underlying (ρ.t 3) = some (TypeDesc.int IntKind.i64)
  t4 : P.underlying (ρ.t 4) = some TypeDesc.bool
  t24 : P.underlying (ρ.t 24) = some (TypeDesc.slice (ρ.t 9))
  z9 : ∀ w, (Go.sizeOf (ρ.t 9)).run P w = .ok k w
  i9 : (P.info? (ρ.t 9)).map (·.size) = some k

variable {P : Program} {ρ : Ren} {nm : String} {k : Nat}

end Go.Ge
namespace Go.Ge
open RowKit Go.Shelf Go.Lib Go.Proofs

variable {P : Program} {ρ : Ren} {nm : String}

end Go.Ge
namespace Go.Ge
open RowKit Go.Shelf Go.Lib Go.Proofs

/-- What is asked of a program that has the function at an element's type. -/
structure DelAt (P : Program) (ρ : Ren) (nm : String) (k : Nat) (z : Value) : Prop where
  mixed : P.follows .mixedOrders = true
  f24 : P.funcs[ρ.f 24]? = some { Body2.n24 ρ with name := nm }
  t3 : P.underlying (ρ.t 3) = some (TypeDesc.int IntKind.i64)
  t4 : P.underlying (ρ.t 4) = some TypeDesc.bool
  t24 : P.underlying (ρ.t 24) = some (TypeDesc.slice (ρ.t 9))
  z9 : ∀ w, (Go.sizeOf (ρ.t 9)).run P w = .ok k w
  v9 : ∀ w, (zeroValue (ρ.t 9)).run P w = .ok z w

variable {P : Program} {ρ : Ren} {nm : String} {k : Nat} {z : Value}

end Go.Ge
