/- A ghost interpreter of the model's code, and that it tells the truth: part 11. It says of a function of plain data what a call of it comes to. -/
import Derived.Test.YtbaijbjhkmoidaaGreatDoorGeJ
import Derived.Sort.EncStr
import Derived.Sort.Grow
import Derived.Lib.SlicesCompact
import Derived.Shelf.Spec.SlicesInsertGrow
import Derived.Deep.RegionLaw
import Derived.Shelf.RegionOpenPlain
set_option linter.unusedVariables false
set_option linter.unusedSimpArgs false
set_option linter.unusedSectionVars false
namespace Go.Ge
open RowKit Go.Sort Go.Proofs
end Go.Ge
namespace Go.Ge
variable [Lp]
open RowKit Go.Shelf Go.Lib Go.Proofs
structure RL (P:Program) (ρ:Ren) (nm:String) (k:Nat):Prop where
 mixed:P.follows .mixedOrders=true
 f22:P.funcs[ρ.f 22]?=some { Body2.n22 ρ with name:=nm }
 ov:∀(xs:Array Value) (w:World),(callFunc (ρ.f 29) xs).run P w=((Extern.SlicesOverlaps.overlaps #[(ρ.t 24),(ρ.t 24)] #[(ρ.t 4)] xs).run P w).andThen λv w'=>.ok (.value v) w'
 t3:P.underlying (ρ.t 3)=some (TypeDesc.int IntKind.i64)
 t4:P.underlying (ρ.t 4)=some TypeDesc.bool
 t24:P.underlying (ρ.t 24)=some (TypeDesc.slice<|ρ.t 9)
 z9:∀w,(Go.sizeOf<|ρ.t 9).run P w=.ok k w
 i9:(P.info?<|ρ.t 9).map (·.size)=some k
variable {P:Program} {ρ:Ren} {nm:String} {k:Nat}
end Go.Ge
namespace Go.Ge
variable [Lp]
open RowKit Go.Shelf Go.Lib Go.Proofs
variable {P:Program} {ρ:Ren} {nm:String}
end Go.Ge
namespace Go.Ge
variable [Lp]
open RowKit Go.Shelf Go.Lib Go.Proofs
structure RM (P:Program) (ρ:Ren) (nm:String) (k:Nat) (z:Value):Prop where
 mixed:P.follows .mixedOrders=true
 f24:P.funcs[ρ.f 24]?=some { Body2.n24 ρ with name:=nm }
 t3:P.underlying (ρ.t 3)=some (TypeDesc.int IntKind.i64)
 t4:P.underlying (ρ.t 4)=some TypeDesc.bool
 t24:P.underlying (ρ.t 24)=some (TypeDesc.slice<|ρ.t 9)
 z9:∀w,(Go.sizeOf<|ρ.t 9).run P w=.ok k w
 v9:∀w,(zeroValue<|ρ.t 9).run P w=.ok z w
variable {P:Program} {ρ:Ren} {nm:String} {k:Nat} {z:Value}
end Go.Ge
namespace Go.Ge
variable [Lp]
def vR{c:Type}(a b:Option c):Prop:=∀y,a=some y->b=some y
theorem vR.refl{α:Type}(a:Option α):vR a a:=λ_ h=>h
theorem vR.ab{b g:Type}{a c:Option b}{f d:b->Option g}(h:vR a c)(k:∀x,vR (f x) (d x)):vR (ab a f) (ab c d):=λy e=>by
 cases a with
 | none=>cases e
 | some x=>rw[h x rfl];exact k x y e
theorem vR.av{α:Type}{c:Bool}{a d b e:Option α}(h:vR a d)(k:vR b e):vR (av c a b) (av c d e):=by cases c<;>assumption
theorem vR.cond{α:Type}{c:Bool}{a d b e:Option α}(h:vR a d)(k:vR b e):vR (cond c a b) (cond c d e):=by cases c<;>assumption
theorem vR.fh{S:Type}{a b:Option (S⊕(Nat×S))}(h:vR a b):vR (fh a) (fh b):=λy c=>by
 cases a with
 | none=>cases c
 | some x=>rw[h x rfl];exact c
theorem vR.pick{a b c:Type}{f d:a->Option c}{g e:b->Option c}{x:a⊕b}(h:∀y,vR (f y) (d y))(k:∀y,vR (g y) (e y)):vR (pick f g x) (pick d e x):=by
 cases x with
 | inl y=>exact h y
 | inr y=>exact k y
def Pf{S R:Type}(f:S->Option (S⊕R))(s:S):Option R:=rounds f 100000 s
theorem vR.loop{S R:Type}{f g:S->Option (S⊕R)}{s:S}(h:∀s,vR (f s) (g s)):vR (Pf f s) (Loop g s):=by
 have key:∀(n:Nat) (s:S),vR (rounds f n s) (rounds g n s):=by
  intro n;induction n with
  | zero=>intro s y a;cases a
  | succ n c =>
    intro s y a;unfold rounds at a⊢;cases b:f s with
    | none=>rw[b] at a;cases a
    | some x =>
      rw[h s x b];rw[b] at a;cases x with
      | inl d=>exact c d y a
      | inr r=>exact a
 exact λy a=>kf (key _ s y a)
abbrev T1:=Nat×Ty×Ty
end Go.Ge
namespace Go.Ge
open Go.RowKit
end Go.Ge
