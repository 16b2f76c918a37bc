/- A ghost interpreter of the model's code, and that it tells the truth: part 11. It says of a function of plain data what a call of it comes to. -/
import Derived.Test.YtbaijbjhkmoidaaGreatDoorGeJ
import Derived.Deep.RegionLaw
import Derived.Shelf.RegionOpenPlain
set_option linter.unusedSectionVars false
set_option linter.unusedVariables false
set_option linter.unusedSimpArgs false
namespace Go.Ge
variable [Lp]
open RowKit Go.Shelf Go.Lib Go.Proofs
structure TO (P:Program) (ρ:Ren) (nm:String) (k:Nat) (z:Value):Prop where
 mixed:P.follows .mixedOrders=true
 f24:P.funcs[ρ.f 24]?=some { Body2.n24 ρ with name:=nm }
 t3:P.underlying (ρ.t 3)=some (TypeDesc.int IntKind.i64)
 t4:P.underlying (ρ.t 4)=some TypeDesc.bool
 t24:P.underlying (ρ.t 24)=some (TypeDesc.slice (ρ.t 9))
 z9:∀w,(Go.sizeOf (ρ.t 9)).run P w=.ok k w
 v9:∀w,(zeroValue (ρ.t 9)).run P w=.ok z w
variable {P:Program} {ρ:Ren} {nm:String} {k:Nat} {z:Value}
end Go.Ge
namespace Go.Ge
variable [Lp]
def yD{α:Type}(a b:Option α):Prop:=∀y,a=some y→b=some y
theorem yD.refl{α:Type}(a:Option α):yD a a:=fun _ h=>h
theorem yD.ah{α β:Type}{a a':Option α}{f f':α→Option β}(h:yD a a')(k:∀x,yD (f x) (f' x)):yD (ah a f) (ah a' f'):=fun y hy=>by
 cases a with
 | none=>cases hy
 | some x=>rw[h x rfl];exact k x y hy
theorem yD.aO{α:Type}{c:Bool}{a a' b b':Option α}(h:yD a a')(k:yD b b'):yD (aO c a b) (aO c a' b'):=by cases c<;>assumption
theorem yD.cond{α:Type}{c:Bool}{a a' b b':Option α}(h:yD a a')(k:yD b b'):yD (cond c a b) (cond c a' b'):=by cases c<;>assumption
theorem yD.kQ{S:Type}{a b:Option (S⊕(Nat×S))}(h:yD a b):yD (kQ a) (kQ b):=fun y hy=>by
 cases a with
 | none=>cases hy
 | some x=>rw[h x rfl];exact hy
theorem yD.pick{α β γ:Type}{f f':α→Option γ}{g g':β→Option γ}{x:α⊕β}(h:∀y,yD (f y) (f' y))(k:∀y,yD (g y) (g' y)):yD (pick f g x) (pick f' g' x):=by
 cases x with
 | inl y=>exact h y
 | inr y=>exact k y
def Ra{S R:Type}(f:S→Option (S⊕R))(s:S):Option R:=rounds f 100000 s
theorem yD.loop{S R:Type}{f g:S→Option (S⊕R)}{s:S}(h:∀s,yD (f s) (g s)):yD (Ra f s) (Loop g s):=by
 have key:∀(n:Nat) (s:S),yD (rounds f n s) (rounds g n s):=by
  intro n;induction n with
  | zero=>intro s y hy;cases hy
  | succ n ih =>
    intro s y hy;unfold rounds at hy⊢;cases hf:f s with
    | none=>rw[hf] at hy;cases hy
    | some x =>
      rw[h s x hf];rw[hf] at hy;cases x with
      | inl s'=>exact ih s' y hy
      | inr r=>exact hy
 exact fun y hy=>j7 (key _ s y hy)
end Go.Ge
namespace Go.Ge
variable [Lp]
abbrev VD:=Nat×Ty×Ty
end Go.Ge
