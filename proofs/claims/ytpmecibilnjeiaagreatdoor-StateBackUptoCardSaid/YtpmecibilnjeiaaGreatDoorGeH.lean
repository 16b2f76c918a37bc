/- A ghost interpreter of the model's code, and that it tells the truth: part 8. It says of a function of plain data what a call of it comes to. -/
import Derived.Test.YtpmecibilnjeiaaGreatDoorGeG
set_option linter.unusedVariables false
set_option linter.unusedSimpArgs false
set_option linter.unusedSectionVars false
namespace Go.Ge
open RowKit
def Le(a c:St):Prop:=∀b e,a.mem b=some e->c.mem b=some e
structure Rel (bC cc tZ sq:St):Prop where
 s1:tZ.slots=bC.slots
 s2:sq.slots=cc.slots
 m:∀b,sq.mem b=match tZ.mem b with|some x=>some x|none=>cc.mem b
 nv:∀b,tZ.mem b=none->bC.mem b=none
section
variable {bC cc tZ sq ρ1 ρ2:St}
theorem Rel.refl(h:Le bC cc):Rel bC cc bC cc where
 s1:=rfl
 s2:=rfl
 m:=λb=>by
  cases a:bC.mem b with
  | none=>rfl
  | some x=>exact h b x a
 nv:=λ_ h=>h
theorem Rel.le(h:Rel bC cc tZ sq):Le tZ sq:=λb bx a=>by rw[h.m,a]
theorem Rel.trans(h:Rel bC cc tZ sq)(k:Rel tZ sq ρ1 ρ2):Rel bC cc ρ1 ρ2 where
 s1:=k.s1.trans h.s1
 s2:=k.s2.trans h.s2
 m:=λb=>by
  rw[k.m b];cases a:ρ1.mem b with
  | some x=>rfl
  | none=>simp only;rw[h.m b,k.nv b a]
 nv:=λb a=>h.nv b (k.nv b a)
theorem Rel.b4(a:Le bC cc){b:Nat}{bx:bB}:Rel bC cc (bC.b4 b bx) (cc.b4 b bx) where
 s1:=rfl
 s2:=rfl
 m:=λc=>by
  by_cases e:c=b
  .subst e;simp[St.b4]
  .rw[uv,uv,aS _ e,aS _ e];exact(Rel.refl a).m c
 nv:=λc g=>by
  by_cases e:c=b
  .subst e;simp[St.b4] at g
  .rw[uv,aS _ e] at g;exact g
theorem AA{a b:St}(h:b.slots=a.slots)(x:Operand):cu b x=cu a x:=by
 cases x<;>simp[cu,h]
theorem AB(h:Le bC cc){e:Ty}{v:aL}{l:List e.den}(a:gq e bC v=some l):gq e cc v=some l:=by
 unfold gq at a⊢;cases v with
 | whole b aM =>
   simp only at a⊢;cases c:bC.mem b with
   | none=>rw[c] at a;cases a
   | some g=>rw[c] at a;rw[h b g c];exact a
 | part b aM lo n =>
   simp only at a⊢;cases c:bC.mem b with
   | none=>rw[c] at a;cases a
   | some g=>rw[c] at a;rw[h b g c];exact a
 | data u y=>cases u<;>exact a
 | _=>exact a
theorem VK(h:Le bC cc):∀{t:Ty} {v:aL} {x:t.den},qK bC t v=some x->qK cc t v=some x:=by
 intro t;induction t with
 | slice e m=>intro v x c;exact AB h c
 | pair a b g i =>
   intro v x c;cases v with
   | mix p q =>
     obtain⟨y,z,j,k,rfl⟩:=Da c;exact M8 (g j) (i k)
   | data u y=>exact c
   | _=>cases c
 | alt u a r g l =>
   intro v x c;cases v with
   | sf=>exact(pB c).2.1 _
   | _=>exact c
 | _=>intro v x c;cases v<;>exact c
theorem qa(h:Le bC cc){b a:Nat}(c:live bC b a=true):live cc b a=true:=by
 unfold live at c⊢;cases e:bC.mem b with
 | none=>rw[e] at c;cases c
 | some g=>rw[e] at c;rw[h b g e];exact c
theorem ZR(h:Le bC cc){v:aL}{n:Int}(a:lenOf bC v=some n):lenOf cc v=some n:=by
 unfold lenOf at a⊢;cases v with
 | whole b aM =>
   simp only at a⊢;cases c:bC.mem b with
   | none=>rw[c] at a;cases a
   | some e=>rw[c] at a;rw[h b e c];exact a
 | part b aM lo g =>
   simp only at a⊢;cases hv:live bC b aM with
   | false=>rw[hv] at a;cases a
   | true=>rw[hv] at a;rw[qa h hv];exact a
 | data u y=>cases u<;>exact a
 | _=>exact a
theorem W2(h:Le bC cc){e:Ty}{v:aL}{l:List e.den}(a:uh e bC v=some l):uh e cc v=some l:=by
 unfold uh at a⊢;split at a
 .exact a
 .exact AB h a
theorem Jr(h:Le bC cc){b a:Nat}{r:Ty×Int}(c:xH bC b a=some r):xH cc b a=some r:=by
 unfold xH at c⊢;cases e:bC.mem b with
 | none=>rw[e] at c;cases c
 | some g=>rw[e] at c;rw[h b g e];exact c
theorem Nj(h:Le bC cc){b:Nat}(a:freeze bC b=some tZ):∃sq,freeze cc b=some sq/\Rel bC cc tZ sq:=by
 unfold freeze at a⊢;cases g:bC.mem b with
 | none=>rw[g] at a;cases a
 | some i =>
   rw[g] at a;rw[h b i g];simp only at a⊢;cases c:i.ro with
   | true =>
     simp only[c,ev,sa] at a⊢;subst a;exact⟨_,rfl,Rel.refl h⟩
   | false =>
     cases e:i.lk with
     | true=>simp[c,e] at a
     | false =>
       simp only[c,e,iU,sa] at a⊢;subst a;exact⟨_,rfl,Rel.b4 h⟩
theorem TS:∀{v:aL} {bC cc tZ:St},Le bC cc->gL bC v=some tZ->∃sq,gL cc v=some sq/\Rel bC cc tZ sq:=by
 intro v;induction v with
 | mix p q c e =>
   intro bC cc tZ h a;obtain⟨ρ1,i,j⟩:=vm a;obtain⟨ρ2,k,g⟩:=c h i;obtain⟨sq,l,m⟩:=e g.le j;exact⟨sq,by simp only[gL,k,l],g.trans m⟩
 | whole b aM=>intro bC cc tZ h a;exact Nj h a
 | part b aM lo n=>intro bC cc tZ h a;exact Nj h a
 | _=>intro bC cc tZ h a;obtain rfl:=aG a;exact⟨_,rfl,Rel.refl h⟩
theorem AD(h:Le bC cc){t:Ty}{x:t.den}{v:aL}(a:wQ bC t v=some (x,tZ)):∃sq,wQ cc t v=some (x,sq)/\Rel bC cc tZ sq:=by
 unfold wQ at a⊢;cases v with
 | data u y =>
   simp only at a⊢;split at a
   .rename_i z i;obtain⟨rfl,rfl⟩:=bk (aG a);exact⟨_,rfl,Rel.refl h⟩
   .cases a
 | _ =>
   simp only at a⊢;split at a
   .rename_i y ρ1 b c;obtain⟨rfl,rfl⟩:=bk (aG a);obtain⟨sq,e,g⟩:=TS h c;rw[VK h b,e];exact⟨sq,rfl,g⟩
   .cases a
theorem Cb:∀{A:Ty} {x:A.den} {vs:List aL} {bC cc tZ:St},Le bC cc->kS bC A vs=some (x,tZ)->∃sq,kS cc A vs=some (x,sq)/\Rel bC cc tZ sq:=by
 intro A;induction A with
 | pair t r g b =>
   intro x vs bC cc tZ h a;cases vs with
   | nil=>cases a
   | cons v vs =>
     simp only[kS] at a⊢;split at a
     .rename_i p ρ1 i;obtain⟨ρ2,j,c⟩:=AD h i;split at a
      .rename_i q e k;obtain⟨rfl,rfl⟩:=bk (aG a);obtain⟨sq,l,m⟩:=b c.le k;exact⟨sq,by simp only[j,l],c.trans m⟩
      .cases a
     .cases a
 | unit =>
   intro x vs bC cc tZ h a;cases vs with
   | nil=>obtain⟨rfl,rfl⟩:=bk (aG a);exact⟨_,rfl,Rel.refl h⟩
   | cons v vs=>cases a
 | _=>intro x vs bC cc tZ h a;cases vs<;>cases a
theorem LJ{t:Ty}:∀{parts:List (Nat×Operand)} {x c:t.den} {bC cc tZ:St},Le bC cc->(∀o∈parts.map (·.2),cu bC o=cu cc o)->gr bC t x parts=some (c,tZ) ->
  ∃sq,gr cc t x parts=some (c,sq)/\Rel bC cc tZ sq:=by
 intro parts;induction parts with
 | nil=>intro x c bC cc tZ h g a;obtain⟨rfl,rfl⟩:=bk (aG a);exact⟨_,rfl,Rel.refl h⟩
 | cons p r j =>
   obtain⟨k,o⟩:=p;intro x c bC cc tZ h g a;have l:cu bC o=cu cc o:=g o (by simp);simp only[gr] at a⊢;split at a
   .rename_i u A;split at a
    .rename_i y ρ1 i;rw[l] at i;obtain⟨ρ2,m,e⟩:=AD h i;split at a
     .rename_i z n;obtain⟨sq,q,s⟩:=j e.le (λv b=>by rw[AA e.s1,AA e.s2];exact g v (by simp at b⊢;exact .inr b)) a;exact⟨sq,by simp only[m,n,q],e.trans s⟩
     .cases a
    .cases a
   .cases a
theorem Dp{e:Ty}:∀{parts:List (Nat×Operand)} {l i:List e.den} {bC cc tZ:St},Le bC cc->(∀o∈parts.map (·.2),cu bC o=cu cc o)->fm bC e l parts=some (i,tZ) ->
  ∃sq,fm cc e l parts=some (i,sq)/\Rel bC cc tZ sq:=by
 intro parts;induction parts with
 | nil=>intro x z bC cc tZ h j a;obtain⟨rfl,rfl⟩:=bk (aG a);exact⟨_,rfl,Rel.refl h⟩
 | cons p r n =>
   obtain⟨k,o⟩:=p;intro l i bC cc tZ h j a;have q:cu bC o=cu cc o:=j o (by simp);simp only[fm] at a⊢;split at a
   .rename_i y ρ1 m;rw[q] at m;obtain⟨ρ2,s,g⟩:=AD h m;cases b:Nat.blt k l.length with
    | false=>rw[b] at a;cases a
    | true =>
      rw[b] at a;obtain⟨sq,t,u⟩:=n g.le (λv c=>by rw[AA g.s1,AA g.s2];exact j v (by simp at c⊢;exact .inr c)) a;exact⟨sq,by simp only[s,ev,t],g.trans u⟩
   .cases a
def lift(a:St)(d:Option Nat)(y:St):St :=
 { slots:=match d with|some d=>λt=>bif Nat.beq t d then y.slots d else a.slots t|none=>a.slots
   mem:=λb=>match y.mem b with|some x=>some x|none=>a.mem b }
theorem W3(R:Rel bC cc tZ sq)(d:Option Nat)(v:aL):lift cc d (tZ.aW d v)=sq.aW d v:=by
 have a:(λb=>match tZ.mem b with|some x=>some x|none=>cc.mem b)=sq.mem:=funext λb=>(R.m b).symm;cases d with
 | none=>simp only[lift,St.aW,a,<-R.s2]
 | some d =>
   simp only[lift,St.aW,St.put,a,<-R.s2]
   congr 1
   funext t;cases c:Nat.beq t d with
   | true=>simp
   | false=>simp
def LT(a:St)(d:Option Nat)(b c:Tree St):Prop:=∀y,b.run=some y->c.run=some (lift a d y)
variable {d:Option Nat}
theorem LT.fail{T:Tree St}:LT cc d .fail T:=λy h=>by cases h
theorem LT.ret(R:Rel bC cc tZ sq){v:aL}:LT cc d (.ret<|tZ.aW d v) (.ret<|sq.aW d v):=λy h=>by
 obtain rfl:=aG h;rw[W3 R];rfl
theorem LT.TT(R:Rel bC cc tZ sq){k:Nat}{v:aL}:LT cc (some k) (.ret<|tZ.put k v) (.ret<|sq.put k v):=LT.ret (d:=some k) R
theorem LT.store(R:Rel bC cc tZ sq):LT cc none (.ret tZ) (.ret sq):=LT.ret (d:=none) (v:=.undef) R
theorem LT.bif{c:Bool}{t u:Tree St}(h:LT cc d t u):LT cc d (bif c then t else .fail) (bif c then u else .fail):=by cases c<;>first|exact LT.fail|exact h
theorem LT.Rb{c a:Bool}{t u:Tree St}(b:c=true->a=true)(h:LT cc d t u):LT cc d (bif c then t else .fail) (bif a then u else .fail):=by
 cases c with
 | false=>exact LT.fail
 | true=>rw[b rfl];exact h
theorem LT.need{c:Bool}{t u:Tree St}(h:LT cc d t u):LT cc d (.need c t) (.need c u):=λy a=>by
 obtain⟨rfl,b⟩:=cl a;exact h y b
theorem LT.look{T:Type}{o:Option T}{k a:T->Tree St}(h:∀x,LT cc d (k x) (a x)):LT cc d (.look o k) (.look o a):=λy b=>by
 obtain⟨x,rfl,c⟩:=bY b;exact h x y c
theorem LT.node{c:Bool}{t e a b:Tree St}(h:LT cc d t a)(k:LT cc d e b):LT cc d (.node c t e) (.node c a b):=λy g=>by
 have:=gg g;cases c with
 | true=>exact h y this
 | false=>exact k y this
theorem LT.bind{α:Type}{t:Tree α}{f g:α->Tree St}(h:∀x,t.run=some x->LT cc d (f x) (g x)):LT cc d (t.bind f) (t.bind g):=λy b=>by
 obtain⟨x,a,c⟩:=bind_some b;rw[Tree.run_bind,a];exact h x a y c
theorem LT.aQ(a:Le bC cc){k:Nat}{b:Nat}(g:bC.mem b=cc.mem b){c:aL}{tid:TypeId}{e:Bool}{v:Nat->aL} :
  LT cc (some k) (bC.aQ b c tid e λaM σ=>.ret (σ.put k<|v aM)) (cc.aQ b c tid e λaM σ=>.ret (σ.put k<|v aM)):=by
 unfold St.aQ;rw[<-g];cases h:bC.mem b with
 | none=>exact LT.TT (Rel.b4 a)
 | some bx =>
   simp only;cases bx.lk with
   | true=>exact LT.fail
   | false=>exact LT.TT (Rel.b4 a)
theorem LT.mem(a:Le bC cc){b:Nat}{f g:Option bB->Tree St}(e:f none=.fail)(h:∀bx,bC.mem b=some bx->LT cc d (f<|some bx) (g<|some bx)):LT cc d (f<|bC.mem b) (g<|cc.mem b):=by
 cases c:bC.mem b with
 | none=>rw[e];exact LT.fail
 | some bx=>rw[a b bx c];exact h bx c
end
end Go.Ge
namespace Go.Ge
open RowKit
section
variable {bC cc:St} {d:Option Nat} {cx:Ctx} {nb:Nat} {bf:List Nat} {inl:Nat->List aL->St->Tree (aL×St)}
theorem Bt(a:Le bC cc)(c:∀k,d=some k->bC.mem (nb+k)=cc.mem (nb+k)){b:TypeId}{v:aL}:LT cc d (jK cx nb bf d b v bC) (jK cx nb bf d b v cc):=by
 have R:=Rel.refl a;unfold jK;cases v with
 | undef=>exact LT.bif (LT.ret R)
 | oq =>
   simp only;split
   .rename_i k e _;cases cI bf k with
    | true=>exact LT.aQ a (c k rfl)
    | false=>exact LT.TT R
   .exact LT.ret R
 | _=>exact LT.ret R
theorem Rc(e:Le bC cc){c a b:aL}:LT cc d (ou d c a b bC) (ou d c a b cc):=by
 have R:=Rel.refl e;unfold ou;split
 .split
  .split
   .exact LT.ret R
   .exact LT.fail
  .exact LT.node (LT.ret R) (LT.ret R)
 .exact LT.fail
theorem Re(c:Le bC cc){e:TypeId}{a:aL}:LT cc d (lv cx d e a bC) (lv cx d e a cc):=by
 have R:=Rel.refl c;unfold lv;cases a with
 | cell u x=>exact LT.bif (LT.ret R)
 | ptr b aM p =>
   ((try dsimp only);split<;>first|exact LT.fail|(rename_i g;rw[(c b) _ g];try dsimp only))
   exact LT.bif (LT.bind λx _=>LT.bif (LT.ret R))
 | _=>exact LT.fail
theorem Js{a e:St}(R:Rel bC cc a e){b g:Nat}{p:List BV}{h:aL->Bool}{v:aL}:LT cc none (storeAt b g p h v a) (storeAt b g p h v e):=by
 unfold storeAt
 ((try dsimp only);split<;>first|exact LT.fail|(rename_i i;rw[(R.le b) _ i];try dsimp only))
 exact LT.bif (LT.bind λx _=>LT.bif (LT.bind λc _=>LT.store (R.trans<|Rel.b4 R.le)))
theorem LT.ahm{c:Bool}{t u a b:Tree St}(h:LT cc d t u)(e:LT cc d a b):LT cc d (bif c then t else a) (bif c then u else b):=by cases c<;>first|exact e|exact h
theorem TU{a e:St}(R:Rel bC cc a e){b g:Nat}{p:List BV}{n:Nat}{v:aL}:LT cc none (rA b g p n v a) (rA b g p n v e):=by
 unfold rA
 ((try dsimp only);split<;>first|exact LT.fail|(rename_i h;rw[(R.le b) _ h];try dsimp only))
 exact LT.bif (LT.bind λx _=>LT.bif (LT.bind λc _=>LT.bif (LT.store<|R.trans<|Rel.b4 R.le)))
theorem O1(c:Le bC cc){e:List Nat}{g:TypeId}{a v:aL}:LT cc none (lS cx e g a v bC) (lS cx e g a v cc):=by
 have R:=Rel.refl c;unfold lS;cases a with
 | ptr b aM p =>
   ((try dsimp only);split<;>first|exact LT.fail|(rename_i h;rw[(c b) _ h];try dsimp only))
   refine LT.bif (LT.bind λi _=>?_);split
   .refine LT.bif (LT.ahm (TU R) ?_);split
    .rename_i y tZ j;obtain⟨sq,k,l⟩:=AD c j;rw[k];exact Js l
    .exact LT.fail
   .exact LT.bif (Js R)
 | _=>exact LT.fail
theorem W4{n:Int}{a b:Option Operand}(c:∀x∈a.toList++b.toList,cu bC x=cu cc x):bounds bC n a b=bounds cc n a b:=by
 unfold bounds;cases a<;>cases b<;>simp only<;>simp at c<;>simp[c]
theorem O2(b:Le bC cc){k:TypeId}{x:aL}{e g:Option Operand}(o:∀x∈e.toList++g.toList,cu bC x=cu cc x):LT cc d (lT cx d k x e g bC) (lT cx d k x e g cc):=by
 have R:=Rel.refl b;have a:∀n,bounds bC n e g=bounds cc n e g:=λn=>W4 o;unfold lT;split
 .rename_i s _;rw[a]
  ((try dsimp only);split<;>first|exact LT.fail|skip)
  exact LT.need (LT.ret R)
 .rw[a];refine LT.bif ?_
  ((try dsimp only);split<;>first|exact LT.fail|skip)
  exact LT.need (LT.ret R)
 .rename_i u c i l n _
  ((try dsimp only);split<;>first|exact LT.fail|(rename_i j;rw[(b c) _ j];try dsimp only))
  refine LT.bif ?_;rw[a]
  ((try dsimp only);split<;>first|exact LT.fail|skip)
  exact LT.need (LT.ret R)
 .rename_i u c i _
  ((try dsimp only);split<;>first|exact LT.fail|(rename_i j;rw[(b c) _ j];try dsimp only))
  refine LT.bif ?_;split
  .refine LT.bif ?_;split
   .exact LT.ret R
   .rw[a]
    ((try dsimp only);split<;>first|exact LT.fail|skip)
    exact LT.need (LT.ret R)
  .exact LT.fail
 .rw[a];refine LT.Rb (λh=>?_) ?_
  .simp only[dv] at h⊢;exact⟨qa b h.1,h.2⟩
  ·((try dsimp only);split<;>first|exact LT.fail|skip)
   exact LT.need (LT.ret R)
 .rename_i m u c i _
  ((try dsimp only);split<;>first|exact LT.fail|(rename_i j;rw[(b c) _ j];try dsimp only))
  refine LT.bif ?_;split
  .rw[a];refine LT.bif ?_
   ((try dsimp only);split<;>first|exact LT.fail|skip)
   exact LT.need (LT.ret R)
  .exact LT.fail
 .exact LT.fail
theorem ZS(c:Le bC cc){b a:Nat}{i:Int}:∀{m k:Nat},LT cc d (IB d b a bC i m k) (IB d b a cc i m k):=by
 intro m;induction m with
 | zero=>intro k;exact LT.fail
 | succ m e=>intro k;exact LT.node (LT.ret<|Rel.refl c) e
theorem xd(a:Le bC cc){e:TypeId}{x:aL}{i:Int}:LT cc d (eo cx d e x i bC) (eo cx d e x i cc):=by
 have R:=Rel.refl a;unfold eo;split
 .exact LT.bif (LT.look λ_=>LT.ret R)
 .exact LT.bif (LT.look λ_=>LT.ret R)
 ·((try dsimp only);split<;>first|exact LT.fail|(rename_i b;rw[((λr (c:_=some r)=>Jr a c)) _ b];try dsimp only))
  exact LT.bif (LT.need<|LT.ret R)
 ·((try dsimp only);split<;>first|exact LT.fail|(rename_i b;rw[((λr (c:_=some r)=>Jr a c)) _ b];try dsimp only))
  exact LT.bif (LT.need<|LT.ret R)
 .exact LT.Rb (λh=>qa a h) (LT.need<|LT.ret R)
 .split
  .refine LT.Rb (λh=>?_) (ZS a);simp only[dv] at h⊢;exact⟨h.1,qa a h.2⟩
  .exact LT.fail
 .exact LT.fail
theorem O3(a:Le bC cc){b:TypeId}{x:aL}{i:Int}:LT cc d (lU cx d b x i bC) (lU cx d b x i cc):=by
 have R:=Rel.refl a;unfold lU;split
 .refine LT.Rb (λh=>?_) ?_
  .simp only[dv] at h⊢;exact⟨h.1,qa a h.2⟩
  .split
   .exact LT.bif (LT.ret R)
   .exact LT.fail
 .exact xd a
theorem O4(a:Le bC cc){b:TypeId}{x:aL}{i:Int}:LT cc d (lV cx d b x i bC) (lV cx d b x i cc):=by
 have R:=Rel.refl a;unfold lV;split
 .exact LT.look λ_=>LT.ret R
 .exact LT.bif (LT.look λ_=>LT.ret R)
 .exact LT.fail
theorem E6(a:Le bC cc){s:TypeId}{x:aL}{k:Nat}:LT cc d (eT cx d s x k bC) (eT cx d s x k cc):=by
 have R:=Rel.refl a;unfold eT;split
 .refine LT.bif ?_;split
  .exact LT.ret R
  .exact LT.fail
 .refine LT.Rb (λh=>qa a h) ?_;split
  .split
   .exact LT.ret R
   .exact LT.fail
  .split
   .split
    .exact LT.ret R
    .exact LT.fail
   .exact LT.fail
 .exact LT.fail
theorem Jt(a:Le bC cc)(b:∀k,d=some k->bC.mem (nb+k)=cc.mem (nb+k)){s t:TypeId}{x:aL}:LT cc d (gW cx nb d s t x bC) (gW cx nb d s t x cc):=by
 have R:=Rel.refl a;unfold gW;split
 .exact LT.ret R
 .exact LT.ret R
 .split
  .exact LT.need (LT.aQ a<|b _ rfl)
  .exact LT.fail
 ·((try dsimp only);split<;>first|exact LT.fail|(rename_i c;rw[((λr (e:_=some r)=>AB a e)) _ c];try dsimp only))
  exact LT.ret R
 .exact LT.fail
theorem Bu(a:Le bC cc)(j:∀k,d=some k->bC.mem (nb+k)=cc.mem (nb+k)){c:TypeId}{s x:aL}:LT cc d (iq cx nb d c s x bC) (iq cx nb d c s x cc):=by
 have R:=Rel.refl a;unfold iq;split
 .rename_i k e _
  ((try dsimp only);split<;>first|exact LT.fail|(rename_i g;rw[((λr (m:_=some r)=>W2 a m)) _ g];try dsimp only))
  split
  .exact LT.need (LT.aQ a<|j _ rfl)
  .rename_i b h;cases g:bC.mem b with
   | none=>exact LT.fail
   | some i =>
     rw[a b i g];cases n:gq e bC (.whole b h) with
     | none=>exact LT.fail
     | some l =>
       rw[AB a n];simp only;cases (i.lk||!adD cx c i.tid) with
       | true=>exact LT.fail
       | false=>exact LT.need (LT.TT<|Rel.b4 a)
  .exact LT.fail
 .exact LT.fail
theorem ZT(g:Le bC cc):∀{o:OT} {v:aL} {r},db bC.mem o v=some r->db cc.mem o v=some r:=by
 intro o;induction o with
 | zf t=>intro v r h;exact h
 | buf e s =>
   intro v r h;cases v<;>first|(cases h;done)|skip
   rename_i b i;simp only[db] at h⊢;cases c:bC.mem b with
   | none=>rw[c] at h;cases h
   | some a=>rw[c] at h;rw[g b a c];exact h
 | ref tid o u =>
   intro v r h;cases v<;>first|(cases h;done)|skip
   rename_i b i k;cases k with
   | cons _ _=>cases h
   | nil =>
     simp only[db] at h⊢;cases c:bC.mem b with
     | none=>rw[c] at h;cases h
     | some a =>
       rw[c] at h;rw[g b a c];simp only at h⊢;cases j:(Nat.beq a.aM i&&!a.buf&&!a.lk&&!a.ro&&Nat.beq a.tid tid) with
       | false=>rw[j] at h;cases h
       | true =>
         rw[j] at h;simp only[ev] at h⊢;cases l:db bC.mem o a.val with
         | none=>rw[l] at h;cases h
         | some q=>rw[l] at h;rw[u l];exact h
 | pair p q m n =>
   intro v r h;unfold db at h;split at h
   case h_2=>cases h
   split at h
   case h_2=>cases h
   rename_i x y;cases h;exact w8 (m x) (n y)
 | unit=>intro v r h;exact h
 | dM=>intro v r h;exact h
theorem TV(b:Le bC cc):∀{ps:List Bool} {A:Ty} {U:OT} {vs:List aL} {r},ew bC ps A U vs=some r->ew cc ps A U vs=some r:=by
 intro ps;induction ps with
 | nil=>intro A U vs r h;exact h
 | cons q ps c =>
   intro A U vs r h;cases q with
   | false =>
     cases A<;>first|(cases h;done)|skip
     cases vs with
     | nil=>cases h
     | cons v vs =>
       simp only[ew] at h⊢;split at h
       .rename_i e a;rw[e,c a];exact h
       .cases h
   | true =>
     cases U<;>first|(cases h;done)|skip
     rename_i o U;cases o<;>first|(cases h;done)|skip
     case dM =>
      cases vs with
      | nil=>cases h
      | cons v vs =>
        cases v<;>first|(cases h;done)|skip
        simp only[ew] at h⊢;split at h
        .rename_i a;rw[c a];exact h
        .cases h
     cases vs with
     | nil=>cases h
     | cons v vs =>
       simp only[ew] at h⊢;split at h
       .rename_i e a;rw[ZT b e,c a];exact h
       .cases h
theorem Rel.kT(a:Le bC cc){U:OT}{y:U.den}{N M:List (Nat×Nat)}:Rel bC cc (Go.Ge.kT U y N M bC) (Go.Ge.kT U y N M cc) where
 s1:=rfl
 s2:=rfl
 m:=λb=>by
  rw[gX,gX];cases iV U y N (M.map λp=>(p.1,p.2+1)) b with
  | some e=>rfl
  | none =>
    cases h:bC.mem b with
    | some x=>exact a b x h
    | none=>rfl
 nv:=λb h=>by
  rw[gX] at h;cases c:iV U y N (M.map λp=>(p.1,p.2+1)) b with
  | some e=>rw[c] at h;cases h
  | none=>rw[c] at h;exact h
theorem W5(a:Le bC cc){f:Nat}{b:List aL}(e:find cx.YH f≠none\/find cx.Ll f=none):LT cc d (v7 cx zm d f b bC) (v7 cx inl d f b cc):=by
 have R:=Rel.refl a;unfold v7;split
 .split
  .have key:∀{A:Ty} {vs:List aL} {x:A.den},iI bC A vs=some x->iI cc A vs=some x:=by
    intro A;induction A with
    | pair t r l g =>
      intro vs x c;cases vs with
      | nil=>cases c
      | cons v vs =>
        simp only[iI] at c⊢;split at c
        .rename_i p q m h;rw[VK a m,g h];exact c
        .cases c
    | unit=>intro vs x c;cases vs<;>exact c
    | _=>intro vs x c;cases vs<;>cases c
   ((try dsimp only);split<;>first|exact LT.fail|(rename_i h;rw[((λr (i:_=some r)=>key i)) _ h];try dsimp only))
   exact LT.look λ_=>LT.ret R
  .split
   .rename_i x tZ n;obtain⟨sq,o,s⟩:=Cb a n;rw[o];exact LT.look λ_=>LT.ret s
   .exact LT.fail
 .rename_i u;rw[e.resolve_left λq=>q u];split
  .rename_i z;cases z
  .split
   .rename_i k C;cases i:ew bC k.ps k.A k.U b with
    | none=>exact λy j=>by cases j
    | some r =>
      rw[TV a i];exact LT.bif (LT.look λy=>LT.ret (Rel.kT a))
   .exact λy j=>by cases j
theorem LT.VL{a c:St}(R:Rel bC cc a c){k:Nat}{b:Nat}(l:bC.mem b=cc.mem b){g:aL}{i:TypeId}{j:Bool}{v:Nat->aL} :
  LT cc (some k) (a.aQ b g i j λe σ=>.ret (σ.put k<|v e)) (c.aQ b g i j λe σ=>.ret (σ.put k<|v e)):=by
 have n:a.mem b=c.mem b:=by
  rw[R.m b];cases h:a.mem b with
  | some x=>rfl
  | none=>simp only;rw[<-l,R.nv b h]
 unfold St.aQ;rw[<-n];cases a.mem b with
 | none=>exact LT.TT (R.trans<|Rel.b4 R.le)
 | some o =>
   simp only;cases o.lk with
   | true=>exact LT.fail
   | false=>exact LT.TT (R.trans<|Rel.b4 R.le)
theorem O5(b:Le bC cc)(c:∀k,d=some k->bC.mem (nb+k)=cc.mem (nb+k)){e:Ty}{a:List aL}:LT cc d (lW nb e d a bC) (lW nb e d a cc):=by
 unfold lW;split
 .split
  .rename_i l tZ g;obtain⟨sq,h,i⟩:=AD b g;rw[h];exact LT.bif (LT.need<|LT.VL i<|c _ rfl)
  .exact LT.fail
 .exact LT.fail
theorem O6(b:Le bC cc)(e:∀k,d=some k->bC.mem (nb+k)=cc.mem (nb+k)){g:Nat}{a:List aL}:LT cc d (lX nb g d a bC) (lX nb g d a cc):=by
 unfold lX;split
 .exact LT.fail
 .exact LT.fail
 .exact LT.bif (LT.aQ b (e _ rfl) (v:=λc=>.fn g [(_,c)]))
 .exact LT.fail
theorem W6{c i:St}(h:Le c i){e:Ty}{v:aL}{r:Nat×Nat×bB×List e.den}(a:xJ e c v=some r):xJ e i v=some r:=by
 cases v with
 | part b aM lo n =>
   simp only[xJ] at a⊢;cases g:c.mem b with
   | none=>rw[g] at a;cases a
   | some j=>rw[g] at a;rw[h b j g];exact a
 | whole b aM =>
   simp only[xJ] at a⊢;cases g:c.mem b with
   | none=>rw[g] at a;cases a
   | some j=>rw[g] at a;rw[h b j g];exact a
 | _=>cases a
theorem TW(i:Le bC cc){e A:Ty}{g:Bool}{a:List e.den->A.den->Option (List e.den)}{c:List aL}:LT cc d (rB e A g a d c bC) (rB e A g a d c cc):=by
 unfold rB;split
 .split
  .rename_i x tZ m;obtain⟨sq,n,h⟩:=Cb i m;rw[n];simp only;split
   .rename_i b o p l j;rw[W6 h.le j];simp only;refine LT.look λq=>?_;cases g with
    | true =>
      cases d with
      | none=>exact LT.fail
      | some k=>exact LT.TT (h.trans<|Rel.b4 h.le)
    | false=>cases d<;>exact LT.bif (LT.ret<|h.trans<|Rel.b4 h.le)
   .exact LT.fail
  .exact LT.fail
 .exact LT.fail
theorem TX(a:Le bC cc)(l:∀k,d=some k->bC.mem (nb+k)=cc.mem (nb+k)){f:Nat}{b:List aL}(h:ui cx bf d f=none->(find cx.YH f≠none\/find cx.Ll f=none)\/(find cx.YH f=none/\∃e,find cx.Ll f=some (.clone e)))(i:∀s,ui cx bf d f=some s->(∃e,s=.clone e)\/(∃e A r q,s=.own e A r q)\/∃g,s=.CO g) :
  LT cc d (tu cx nb bf zm d f b bC) (tu cx nb bf inl d f b cc):=by
 unfold tu;split
 .exact O5 a l
 .exact TW a
 .exact O6 a l
 .rename_i m n o;have p:ui cx bf d f=none:=by
   cases c:ui cx bf d f with
   | none=>rfl
   | some s =>
     rcases i s c with ⟨e,rfl⟩|⟨e,A,r,q,rfl⟩|⟨g,rfl⟩
     .exact absurd c (m e)
     .exact absurd c (n e A r q)
     .exact absurd c (o g)
  rcases h p with j|⟨j,e,t⟩
  .exact W5 a j
  .unfold v7;rw[j,t];exact LT.fail
theorem Rf{s:WG}{f:Nat}(h:ui cx bf d f=some s):(∃e,s=.clone e)\/(∃e A r q,s=.own e A r q)\/∃g,s=.CO g:=by
 unfold ui at h;split at h
 .rename_i e a;split at h
  .obtain rfl:=aG h;exact .inl ⟨e,rfl⟩
  .cases h
 .obtain rfl:=aG h;exact .inr (.inl ⟨_,_,_,_,rfl⟩)
 .obtain rfl:=aG h;exact .inr (.inr ⟨_,rfl⟩)
 .cases h
theorem W7:∀{ps:List (Nat×Operand)} {k:Nat},(∀x∈ps.map (·.2),cu bC x=cu cc x)->zl bC k ps=zl cc k ps:=by
 intro ps;induction ps with
 | nil=>intro k _;rfl
 | cons p r b =>
   obtain⟨j,x⟩:=p;intro k h;simp only[zl];rw[h x<|by simp,b (k:=k+1) λy a=>h y (by simp at a⊢;exact .inr a)]
theorem Rg{a:List nG}:∀{ps:List (Nat×Operand)} {v:aL},(∀x∈ps.map (·.2),cu bC x=cu cc x)->mN bC a v ps=mN cc a v ps:=by
 intro ps;induction ps with
 | nil=>intro v _;rfl
 | cons p r c =>
   obtain⟨k,x⟩:=p;intro v h;simp only[mN];rw[h x<|by simp];have e:∀u,mN bC a u r=mN cc a u r:=λu=>c (v:=u) λy b=>h y (by simp at b⊢;exact .inr b);simp only[e]
theorem W9(C:Le bC cc){o:Oper}{ge:Option Nat}(hge:ow o cc=ge)(J:cls cx ge o≠3)(j:∀x∈eY o.op,cu bC x=cu cc x)(G:∀k,o.dst=some k->bC.mem (nb+k)=cc.mem (nb+k)) :
  LT cc o.dst (pW cx nb bf zm o bC) (pW cx nb bf inl o cc):=by
 have R:=Rel.refl C;unfold pW;cases D:o.op with
 | move x=>simp only[D,eY] at j⊢;rw[j x<|by simp];exact Bt C G
 | assign x=>simp only[D,eY] at j⊢;rw[j x<|by simp];exact Bt C G
 | pick c a b=>simp only[D,eY] at j⊢;rw[j c<|by simp,j a (by simp),j b (by simp)];exact Rc C
 | alloc e =>
   simp only;split
   .rename_i k t E hT;rw[E];unfold tV;split
    .exact absurd (by simp[cls,D,hT]) J
    .exact LT.aQ C (G k E)
   .rename_i k E hT;rw[E];split
    .rename_i U;exact absurd (by simp[cls,D,hT,U]) J
    .exact LT.bif (LT.aQ C<|G k E)
   .exact LT.fail
 | box e x =>
   simp only[D,eY] at j⊢;rw[j x<|by simp];cases E:o.dst with
   | none=>exact LT.fail
   | some k =>
     have U:find cx.sS e=none:=by
      cases U:find cx.sS e with
      | none=>rfl
      | some fs=>exact absurd (by simp[cls,D,U]) J
     cases cu cc x<;>simp only[CS,U]<;>first|exact LT.fail|exact LT.aQ C (G k E)
 | build t ps =>
   simp only[D,eY] at j⊢;split
   .split
    .rename_i L;obtain⟨sq,M,K⟩:=LJ C j L;rw[M];exact LT.ret K
    .exact LT.fail
   .split
    .rename_i L;obtain⟨sq,M,K⟩:=Dp C j L;rw[M];exact LT.ret K
    .exact LT.fail
   .split
    .split
     .rw[Rg j];split
      .exact LT.ret R
      .exact LT.ret R
      .exact LT.fail
     .exact LT.fail
    .exact LT.fail
   .exact LT.fail
 | buildSlice t n ps =>
   simp only[D,eY] at j⊢;split
   .split
    .rename_i k V Z;have E:=(B9 V).1;rw[E];exact LT.aQ C (G k E)
    .refine LT.bif ?_;split
     .rename_i L;obtain⟨sq,M,K⟩:=Dp C j L;rw[M];split
      .rename_i k E;dsimp only;rw[vo E];exact LT.VL K (G k<|vo E)
      .exact LT.ret K
     .exact LT.fail
   .unfold Av;rw[W7 j];split
    .rename_i k e v E _ _;rw[E];exact LT.bif (LT.aQ C<|G _ E)
    .exact LT.fail
   .exact LT.fail
 | load t a=>simp only[D,eY] at j⊢;rw[j a<|by simp];exact Re C
 | store t a x =>
   simp only[D,eY] at j⊢;rw[j a<|by simp,j x (by simp)];cases E:o.dst with
   | none=>exact O1 C
   | some k=>exact LT.fail
 | nilCheck x =>
   simp only[D,eY] at j⊢;rw[j x<|by simp];cases cu cc x with
   | ptr b aM p=>exact LT.Rb (λh=>qa C h) (LT.ret R)
   | cell t x=>exact LT.ret R
   | fn f c=>exact LT.ret R
   | _=>exact LT.fail
 | binOp op xt x y yt =>
   simp only[D,eY] at j⊢;rw[j x<|by simp,j y (by simp)];intro z hz;obtain⟨v,W,h2⟩:=bind_some hz;have G:(Zo cc (find cx.T xt) (cI cx.lu xt) op (cu cc x)<|cu cc y).run=some v:=by
    unfold Zo at W⊢;split at W
    .obtain⟨H,J⟩:=ay W;simp only[dv] at H;rw[qa C H.1,H.2];exact J
    .obtain⟨H,J⟩:=ay W;simp only[dv] at H;rw[qa C H.1,H.2];exact J
    .exact W
   rw[Tree.run_bind,G];exact LT.ret R z h2
 | unOp op t x=>simp only[D,eY] at j⊢;rw[j x<|by simp];exact LT.bind λ_ _=>LT.ret R
 | convert s t x=>simp only[D,eY] at j⊢;rw[j x<|by simp];exact Jt C G
 | makeFunc fn first F =>
   simp only[D,eY] at j⊢;cases fn with
   | func f =>
     simp only;have:F.toList.map (cu bC)=F.toList.map (cu cc):=Il λx X=>j x (nC _ X);rw[this];split
     .exact LT.bif (LT.ret R)
     .rename_i x X _;rw[j x<|mI _<|by rw[X];exact EF.2 rfl];split
      .exact LT.bif (LT.ret R)
      .exact LT.fail
     .exact LT.fail
   | _=>exact LT.fail
 | slice t x lo hi m =>
   simp only[D,eY] at j⊢;cases m with
   | some m=>exact LT.fail
   | none =>
     simp only;rw[j x<|by simp];exact O2 C λy hy=>j y (oh _ hy)
 | fieldAddr s x k=>simp only[D,eY] at j⊢;rw[j x<|by simp];exact E6 C
 | field xt x k =>
   simp only[D,eY] at j⊢;rw[j x<|by simp];split
   .refine LT.bif ?_;split
    .exact LT.ret R
    .exact LT.fail
   .exact LT.fail
 | indexAddr t x i =>
   simp only[D,eY] at j⊢;rw[j x<|by simp,j i (by simp)];split
   .cases cI bf 5000000 with
    | true=>exact O3 C
    | false=>exact xd C
   .exact LT.fail
 | index t x i =>
   simp only[D,eY] at j⊢;rw[j x<|by simp,j i (by simp)];split
   .exact O4 C
   .exact LT.fail
 | makeSlice t l c =>
   simp only[D,eY] at j⊢;rw[j l<|by simp,j c (by simp)];cases E:o.dst with
   | none=>exact LT.fail
   | some k =>
     split
     .rename_i k' _ _ _ _ _ hk' _ _ _;obtain rfl:=aG hk';exact LT.need (LT.need<|LT.aQ C<|G k E)
     .exact LT.fail
 | extract t k =>
   simp only[D,eY] at j⊢;rw[j t<|by simp];split
   ·((try dsimp only);split<;>first|exact LT.fail|skip)
    exact LT.ret R
   .exact LT.fail
 | call c =>
   simp only[D,eY] at j⊢;have O:c.args.toList.map (cu bC)=c.args.toList.map (cu cc):=Il λx X=>j x (nC _ X);unfold uj;rw[O];cases H:c.callee with
   | builtin b =>
     simp only;split
     .rename_i x t _ _;cases VD (find cx.T t) x with
      | true =>
        simp only[ev]
        ((try dsimp only);split<;>first|exact LT.fail|(rename_i hq;rw[((λr (hr:_=some r)=>ZR C hr)) _ hq];try dsimp only))
        exact LT.ret R
      | false =>
        simp only[iU];split
        .refine LT.Rb (λh=>?_) (LT.ret R);simp only[dv] at h⊢;exact⟨qa C h.1,h.2⟩
        .exact LT.fail
     .split
      .exact Bu C G
      .exact Bu C G
      .exact LT.fail
     .exact absurd (by simp[cls,D,H]) J
     .exact absurd (by simp[cls,D,H]) J
     .exact LT.bind λ_ _=>LT.ret R
     .exact LT.bind λ_ _=>LT.ret R
     .exact LT.fail
   | value f =>
     simp only;rw[j f<|by rw[H];simp];split
     .rename_i g F j;have S:(F.all λb=>live bC b.1 b.2)=true->(F.all λb=>live cc b.1 b.2)=true:=λh=>by
       rw[sb] at h⊢;exact λb hm=>qa C (h b hm)
      refine LT.Rb S (TX C G (λhq=>?_) λs hs=>Rf hs);have heq:ge=some (QC g):=by rw[<-hge];simp[ow,D,H,j]
      cases Y:find cx.YH (QC g) with
      | some c=>exact .inl (.inl<|by simp)
      | none =>
        cases I:find cx.Ll (QC g) with
        | none=>exact .inl (.inr rfl)
        | some s =>
          refine .inr ⟨rfl,?_⟩;cases s with
          | clone e=>exact⟨e,rfl⟩
          | own e A r q=>simp[ui,I] at hq
          | CO g=>simp[ui,I] at hq
          | _=>exact absurd (by simp[cls,D,H,heq,Y,I]) J
     .exact LT.fail
   | invoke r m =>
     simp only;rw[j r<|by rw[H];simp];unfold rf;split
     .split
      .rename_i L;obtain⟨sq,M,K⟩:=Cb C L;rw[M];exact LT.look λ_=>LT.ret K
      .exact LT.fail
     .exact LT.fail
 | makeInterface u x =>
   simp only[D,eY] at j⊢;rw[j x<|by simp];unfold re;split
   .split
    .split
     .rename_i L;obtain⟨sq,M,K⟩:=AD C L;rw[M];exact LT.ret K
     .exact LT.fail
    .exact LT.fail
   .exact LT.fail
 | _=>exact LT.fail
end
end Go.Ge
namespace Go.Ge
open RowKit
theorem oy{l:List Nat}{t:Nat}:cI l t=true↔t∈l:=by
 induction l with
 | nil=>simp[cI]
 | cons i r a =>
   simp only[cI,wJ,gd,a];constructor
   .rintro(h|h)
    .exact .inl (eX h)
    .exact .inr h
   .rintro(h|h)
    .subst h;exact .inl (by simp)
    .exact .inr h
theorem jM{l:List Nat}{t:Nat}:cI l t=false↔t∉l:=by
 rw[<-oy];simp
theorem TY{l:List Operand}{t:Nat}(h:Operand.tmp t∈l):t∈tmpsOf l:=by
 induction l with
 | nil=>cases h
 | cons x r b =>
   rcases gd.1 h with a|a
   .subst a;exact mJ ..
   .clear h;have h:=a;cases x<;>simp only[tmpsOf]
    case tmp k=>exact oh _ (b h)
    all_goals exact b h
section
variable {cx:Ctx} {nb:Nat} {bf:List Nat} {inl:Nat->List aL->St->Tree (aL×St)} {σ bb τ:St}
structure Rh (cx:Ctx) (nb:Nat) (o:Oper) (fp:Fp):Prop where
 own:∀k,o.dst=some k->nb+k∈fp.rd
 sub:∀b∈fp.wr,b∈fp.rd
 w1:cls cx fp.fn o≠0->∀k,o.dst=some k->nb+k∈fp.wr
 w2:cls cx fp.fn o≠0->cls cx fp.fn o≠1->∀b∈fp.rd,b∈fp.wr
 c3:cls cx fp.fn o≠3
theorem H5(o:Oper)(j:St)(h:(wU cx nb o j).HW=false):Rh cx nb o (wU cx nb o j):=by
 have a:∀k,o.dst=some k->nb+k∈Go.Ge.own nb o:=λk c=>by simp[Go.Ge.own,c]
 unfold wU at h⊢;dsimp only at h⊢;split at h<;>rename_i g
 .exact⟨λk c=>mI _ (a k c),λb e=>(nomatch e),λi=>absurd g i,λi=>absurd g i,by rw[g];decide⟩
 .exact⟨λk c=>mI _ (a k c),λb e=>mI _ e,λ_ k c=>a k c,λ_ l=>absurd g l,by rw[g];decide⟩
 .exact⟨λk c=>mI _ (a k c),λb e=>e,λ_ k c=>mI _ (a k c),λ_ _ b e=>e,by rw[g];decide⟩
 .cases h
theorem abU{ts c:List Nat}:Le { (σ.only ts c) with slots:=σ.slots } σ:=λb g a=>by
 simp only[St.only] at a;cases e:cI c b with
 | true=>rw[e] at a;exact a
 | false=>rw[e] at a;cases a
theorem Ri{ts a:List Nat}:Le (σ.only ts a) σ:=λb c e=>abU (ts:=ts) b c e
theorem Rj{l:List Operand}{a:List Nat}{x:Operand}(b:x∈l):cu (σ.only (tmpsOf l) a) x=cu σ x:=by
 cases x with
 | tmp t =>
   have:=oy.2 (TY b);simp only[cu,St.only,this,ev]
 | _=>rfl
theorem abV{a b:Option Nat}(h:aeQ a b=true):a=b:=by
 cases a<;>cases b<;>first|rfl|cases h|exact congrArg some (eX h)
theorem LK(o:Oper)(a:List Nat):ow o (σ.only (tmpsOf<|eY o.op) a)=ow o σ:=by
 unfold ow;split
 .rename_i c b;split
  .rename_i x e;rw[Rj<|by rw[b];simp[eY,e]]
  .rfl
 .rfl
theorem AE{a:Fp}{o:Oper}(g:a.HW=false->Rh cx nb o a)(i:(iK cx nb bf inl a o σ).run=some bb):(pW cx nb bf inl o σ).run=some bb:=by
 unfold iK at i;cases c:a.HW with
 | true=>rw[c] at i;exact i
 | false =>
   have g:=g c;rw[c] at i;simp only[iU] at i;obtain⟨τ,j,y⟩:=bind_some i;obtain rfl:=aG y;obtain⟨e,j⟩:=ay j;have e:=abV e;have l:ow o σ=a.fn:=by rw[<-e];exact(LK ..).symm
   have z:=W9 (cx:=cx) (nb:=nb) (bf:=bf) (inl:=inl) (bC:=σ.only (tmpsOf<|eY o.op) a.rd) (cc:=σ) Ri (o:=o) l g.c3 (λx A=>Rj A)
    (λk r=>by simp only[St.only,oy.2 (g.own k r),ev]) τ j
   rw[z];have hC:=TR (cx:=cx) (nb:=nb) (bf:=bf) (σ:=σ.only (tmpsOf<|eY o.op) a.rd) (o:=o) (p:=λb=>b∈a.wr) e g.c3 (λs k r=>g.w1 s k r) (λs j b t=>by
    refine g.w2 s j b ?_;simp only[St.only] at t;cases n:cI a.rd b with
    | true=>exact oy.1 n
    | false=>rw[n] at t;exact absurd rfl t) τ j
   have n:(λb=>match τ.mem b with|some x=>some x|none=>σ.mem b)=λb=>bif cI a.wr b then τ.mem b else σ.mem b:=by
    funext b;have u:b∈a.rd->(σ.only (tmpsOf<|eY o.op) a.rd).mem b=σ.mem b:=λh=>by simp only[St.only,oy.2 h,ev]
    cases v:cI a.wr b with
    | true =>
      simp only[ev];cases q:τ.mem b with
      | some x=>rfl
      | none =>
        simp only;rw[<-u (g.sub b<|oy.1 v)];rcases hC b with k|k
        .rw[<-k,q]
        .exact absurd q k.1
    | false =>
      simp only[iU];rcases hC b with k|k
      .rw[k];cases q:(σ.only (tmpsOf<|eY o.op) a.rd).mem b with
       | none=>rfl
       | some x=>simp only;exact(Ri b x q).symm
      .exact absurd k.2 (jM.1 v)
   unfold lift lay;exact congrArg (λm=>some (St.mk _ m)) n
theorem AF{a b:List Nat}(h:WM a b=true){x:Nat}(c:x∈a):x∉b:=by
 simp only[WM,sb,j7] at h;exact jM.1 (h x c)
theorem apart_spec{x y:Oper}{f g:Fp}(h:apart x y f g=true):f.HW=false/\g.HW=false/\(∀b∈f.wr,b∉g.rd)/\(∀b∈g.wr,b∉f.rd) /\
  (∀d,x.dst=some d->d∉tmpsOf (eY y.op))/\(∀d,y.dst=some d->d∉tmpsOf (eY x.op))/\(∀d e,x.dst=some d->y.dst=some e->d≠e):=by
 simp only[apart,dv,j7] at h;obtain⟨⟨⟨⟨⟨k,l⟩,m⟩,n⟩,a⟩,i⟩:=h;refine⟨k,l,λb j=>AF m j,λb j=>AF n j,λd c=>?_,λd c=>?_,λd e c o=>?_⟩
 .rw[c] at a;simp only[dv,j7] at a;exact jM.1 a.1
 .rw[c] at i;simp only[j7] at i;exact jM.1 i
 .rw[c,o] at a;simp only[dv,j7] at a;intro q;subst q;simp at a
theorem Dq{d:Option Nat}{g a c:List Nat}(i:∀k,d=some k->k∉a)(j:∀b∈g,b∉c):(lay σ d g τ).only a c=σ.only a c:=by
 unfold St.only lay
 congr 1
 .funext t;cases h:cI a t with
  | false=>rfl
  | true =>
    simp only[ev];cases d with
    | none=>rfl
    | some k =>
      have:t≠k:=λe=>i k rfl (by rw[<-e];exact oy.1 h);simp[iW this]
 .funext b;cases h:cI c b with
  | false=>rfl
  | true =>
    have:b∉g:=λl=>j b l (oy.1 h);simp[jM.2 this]
theorem ZU{l g:Oper}{c h:Fp}{i j:St}(o:apart l g c h=true)(p:∀b∈c.wr,b∈c.rd)(m:(iK cx nb bf inl c l σ).run=some i)(n:(iK cx nb bf inl h g i).run=some j) :
  ∃a,(iK cx nb bf inl h g σ).run=some a/\(iK cx nb bf inl c l a).run=some j:=by
 obtain⟨v,x,C,y,D,E,F⟩:=apart_spec o;unfold iK at m n⊢;rw[v] at m;rw[x] at n;simp only[v,x,iU] at m n⊢;obtain⟨G,H,I⟩:=bind_some m;obtain rfl:=aG I;obtain⟨q,z,J⟩:=bind_some n;obtain rfl:=aG J;rw[Dq D C] at z;refine⟨lay σ g.dst h.wr q,by rw[Tree.run_bind,z];rfl,?_⟩;rw[Dq E y,Tree.run_bind,H];show some _=some _
 congr 1
 unfold lay
 congr 1
 .cases hi:l.dst with
  | none=>rfl
  | some k =>
    cases K:g.dst with
    | none=>rfl
    | some e =>
      have r:=F k e hi K;funext t;dsimp only;by_cases s:t=k
      .subst s;simp[iW r]
      .by_cases A:t=e
       .subst A;simp[iW s]
       .simp[iW s,iW A]
 .funext b;dsimp only;cases u:cI c.wr b with
  | false=>rfl
  | true =>
    have:b∉h.wr:=λL=>y b L (p b<|oy.1 u);simp[jM.2 this]
inductive Reach (ops:Array Oper):Nat->Nat->Prop where
 | step {i:Nat} {o:Oper} {e:Edge} (h:ops[i]?=some o) (he:e∈o.after) (hb:Region.binds .any e=true):Reach ops i e.on
 | more {i k:Nat} {o:Oper} {e:Edge} (h:ops[i]?=some o) (he:e∈o.after) (hb:Region.binds .any e=true) (r:Reach ops e.on k):Reach ops i k
def O7(b:Array Oper)(a:Array Bool):Prop:=∀i o e,a.getD i false=true->b[i]?=some o->e∈o.after->Region.binds .any e=true->a.getD e.on false=true
theorem Reach.listed{b:Array Oper}{a:Array Bool}(j:O7 b a){i k:Nat}(h:Reach b i k):a.getD i false=true->a.getD k false=true:=by
 induction h with
 | step h c e=>exact λg=>j _ _ _ g h c e
 | more h c e r l=>exact λg=>l (j _ _ _ g h c e)
theorem Reach.ready{c:Array Oper}{a:Array Bool}(l:O7 c a){i k:Nat}(h:Reach c i k)(m:i∈Region.ready .any c a):a.getD k false=true:=by
 obtain⟨_,o,j,b⟩:=mem_ready.1 m;cases h with
 | step h e g =>
   obtain rfl:=aG (j.symm.trans h);exact b _ e g
 | more h e g r =>
   obtain rfl:=aG (j.symm.trans h);exact r.listed l (b _ e g)
theorem O7.list{b:Array Oper}{a:Array Bool}(s:O7 b a){i:Nat}(t:i∈Region.ready .any b a):O7 b (a.setIfInBounds i true):=by
 obtain⟨_,u,g,c⟩:=mem_ready.1 t;have up:∀k,a.getD k false=true->(a.setIfInBounds i true).getD k false=true:=by
  intro k l;by_cases e:i=k
  .subst e;rcases tr i a.size with h|h
   .simp[h]
   .simp[Qk h] at l
  .rw[getD_set_ne false e];exact l
 intro j o e m n p r;by_cases q:i=j
 .subst q;obtain rfl:=aG (g.symm.trans n);exact up _ (c e p r)
 .rw[getD_set_ne false q] at m;exact up _ (s j o e m n p r)
theorem Rk{a:Array Bool}{i:Nat}(e:a.getD i true=false)(b:a.getD i false=true):False:=by
 rcases tr i a.size with c|c
 .simp[c] at e b;rw[e] at b;cases b
 .simp[Qk c] at b
def rG(ops:Array Oper)(a:List zn):Prop:=∀k,∀b,Nat.testBit (maskAt a k) b=true->Reach ops k b
theorem Cc{c:Array Oper}{a:List zn}(q:rG c a){i:Nat}{o:Oper}(n:c[i]?=some o){b:Nat}(h:Nat.testBit (mask a o) b=true):Reach c i b:=by
 unfold mask at h;have key:∀l:List Edge,(∀e∈l,e∈o.after)->Nat.testBit (tW a l) b=true->Reach c i b:=by
  intro l;induction l with
  | nil=>intro _ h;simp[tW] at h
  | cons e r p =>
    intro j h;simp only[tW] at h;cases k:Region.binds .any e with
    | false=>rw[k] at h;exact p (λm g=>j m (oh _ g)) h
    | true =>
      rw[k] at h;simp only[ev,Nat.testBit_or,wJ] at h;rcases h with (h|h)|h
      .exact p (λm g=>j m (oh _ g)) h
      .rw[Nat.testBit_two_pow] at h;have:e.on=b:=by simpa using h
       subst this;exact .step n (j e<|mJ ..) k
      .exact .more n (j e<|mJ ..) k (q _ _ h)
 exact key _ (λe s=>by simpa using s) h
theorem rG.nil{ops:Array Oper}:rG ops []:=λk b h=>by simp[maskAt] at h
theorem rG.cons{ops:Array Oper}{a:List zn}(e:rG ops a){i:Nat}{o:Oper}{f:Fp}(g:ops[i]?=some o):rG ops ((i,o,f,mask a o)::a):=by
 intro k b h;simp only[maskAt] at h;cases c:Nat.beq i k with
 | true =>
   rw[c] at h;obtain rfl:=eX c;exact Cc e g h
 | false=>rw[c] at h;exact e k b h
def ZV(b:Ctx)(c:Nat)(e:List Nat)(inl:Nat->List aL->St->Tree (aL×St))(a:Array Oper)(g:Nat->Fp)(Q:St->Prop):Nat->Array Bool->St->Prop
 | 0,listed,σ=>Region.ready .any a listed=[]/\Q σ
 | n+1,listed,σ=>(Region.ready .any a listed=[]->Q σ) /\
  ∀i∈Region.ready .any a listed,∃o bb,a[i]?=some o/\o.guard=none/\(iK b c e inl (g i) o σ).run=some bb/\ZV b c e inl a g Q n (listed.setIfInBounds i true) bb
variable {ops:Array Oper} {fp:Nat->Fp} {Q:St->Prop}
theorem TZ{i:Nat}{o:Oper}(D:ops[i]?=some o)(u:o.guard=none)(v:∀b∈(fp i).wr,b∈(fp i).rd):∀(n:Nat) (listed:Array Bool) (σ bC:St),
  O7 ops listed->(∀j s,ops[j]?=some s->j≠i->listed.getD j true=false->Reach ops j i\/apart o s (fp i) (fp j)=true) ->
  i∈Region.ready .any ops listed->(iK cx nb bf inl (fp i) o σ).run=some bC->ZV cx nb bf inl ops fp Q n (listed.setIfInBounds i true) bC->ZV cx nb bf inl ops fp Q (n+1) listed σ:=by
 intro n;induction n with
 | zero =>
   intro listed σ bC c e p z H;refine⟨λh=>(by rw[h] at p;cases p),λj t=>?_⟩;by_cases a:j=i
   .subst a;exact⟨o,bC,D,u,z,H⟩
   .have:=ready_mono t a;rw[H.1] at this;cases this
 | succ n F =>
   intro listed σ bC c e p z H;refine⟨λh=>(by rw[h] at p;cases p),λj t=>?_⟩;by_cases a:j=i
   .subst a;exact⟨o,bC,D,u,z,H⟩
   .obtain⟨s,cc,q,A,G,I⟩:=H.2 j (ready_mono t a);obtain⟨g,J,l,E⟩:=mem_ready.1 t;rw[q] at l;obtain rfl:=aG l;have r:apart o s (fp i) (fp j)=true:=by
     rcases e j s q a g with K|r
     .exact(Rk (mem_ready.1 p).1<|K.ready c t).elim
     .exact r
    obtain⟨m,L,M⟩:=ZU r v z G;refine⟨s,m,q,A,L,F (listed.setIfInBounds j true) m cc (c.list t) (λk O R C x=>e k O R C ?_) (ready_mono p<|FY a) M ?_⟩
    .by_cases y:j=k
     .subst y;exact g
     .rw[getD_set_ne true y] at x;exact x
    .rw[ac9 _ _ a];exact I
end
end Go.Ge
namespace Go.Ge
open RowKit
section
variable {P:Program} {B:qM} {N:Nat} {γ:Gh} {cx:Ctx} {nb:Nat} {bf:List Nat} {inl:Nat->List aL->St->Tree (aL×St)} {σ bb τ:St} {ops:Array Oper} {fp:Nat->Fp}
def abW(cx:Ctx)(nb:Nat)(bf:List Nat)(inl:Nat->List aL->St->Tree (aL×St))(ops:Array Oper)(fp:Nat->Fp):Nat->List Oper->St->St->Prop
 | _,[],σ,bb=>σ=bb
 | k,o::l,σ,bb=>o.guard=none/\((fp k).HW=false->Rh cx nb o (fp k))/\((fp k).HW=true->(fp k).wr=[])/\(∀e∈o.after,Region.binds .any e=true->e.on<k) /\
  (∀j a,l[j]?=some a->Reach ops (k+1+j) k\/apart o a (fp k) (fp<|k+1+j)=true) /\
  ∃bC,(iK cx nb bf inl (fp k) o σ).run=some bC/\abW cx nb bf inl ops fp (k+1) l bC bb
theorem Ju{o:Oper}{f a:Fp}{k m c:Nat}{b:Oper}{r:List zn}(h:loose o f m ((k,b,a,c)::r)=true):(Nat.testBit m k=true\/apart b o a f=true)/\loose o f m r=true:=by
 simp only[loose,dv,wJ] at h;exact h
theorem ZW(o:Oper)(a:St)(h:(wU cx nb o a).HW=true):(wU cx nb o a).wr=[]:=by
 unfold wU at h⊢;dsimp only at h⊢;split at h<;>first|cases h|skip
 rfl
theorem O8:∀(l:List Oper) (k:Nat) (done:List zn) (σ:St),(∀j o,l[j]?=some o->ops[k+j]?=some o)->rG ops done->(IE cx nb bf inl (number k l) done σ).run=some bb ->
  ∃g:List (Fp×Nat),g.length=l.length/\(∀j m b,g[j]?=some m->Nat.testBit m.2 b=true->Reach ops (k+j) b) /\
   ∀fp:Nat->Fp,(∀j f,g[j]?=some f->fp (k+j)=f.1)->abW cx nb bf inl ops fp k l σ bb/\∀j o f,l[j]?=some o->g[j]?=some f->loose o (fp<|k+j) f.2 done=true:=by
 intro l;induction l with
 | nil =>
   intro k done σ _ _ h;exact⟨[],rfl,λj m b h=>absurd h (by simp),λfp _=>⟨aG h,λj o f a=>absurd a (by simp)⟩⟩
 | cons o l A =>
   intro k done σ t u h;simp only[number,IE] at h;split at h
   .cases h
   .rename_i C;obtain⟨r,D⟩:=ay h;obtain⟨bC,E,F⟩:=bind_some D;simp only[dv] at r;have v:ops[k]?=some o:=t 0 o rfl;obtain⟨g,x,y,G⟩:=A (k+1) _ bC (λj s a=>by have:=t (j+1) s (by simpa using a);rw[<-this];congr 1;omega) (u.cons v) F;refine⟨(wU cx nb o σ,mask done o)::g,by simp[x],λj m b a c=>?_,λfp i=>?_⟩
    .cases j with
     | zero=>obtain rfl:=aG a;exact Cc u v c
     | succ j=>have:=y j m b (by simpa using a) c;rw[show k+(j+1)=k+1+j by omega];exact this
    have n:fp k=wU cx nb o σ:=i 0 _ rfl;obtain⟨H,z⟩:=G fp λj f a=>by have:=i (j+1) f (by simpa using a);rw[<-this];congr 1;omega
    refine⟨⟨C,λc=>by rw[n] at c⊢;exact H5 o σ c,λc=>by rw[n] at c⊢;exact ZW o σ c,λe I c=>?_,λj J a=>?_,bC,by rw[n];exact E,H⟩,λj s f a p=>?_⟩
    .have:=r.2;rw[<-Array.all_toList,sb] at this;have:=this e (by simpa using I);rw[c] at this;have:=BT (by simpa [Nat.blt] using this);omega
    .obtain⟨f,p⟩:∃f,g[j]?=some f:=⟨_,gH (by rw[x];exact(fU.1 a).1)⟩;rcases(Ju<|z j J f a p).1 with q|q
     .exact .inl (y j f k p q)
     .rw[n];exact .inr q
    .cases j with
     | zero =>
       obtain rfl:=aG a;obtain rfl:=aG p;rw[wL,n];exact r.1
     | succ j =>
       have:=(Ju<|z j s f (by simpa using a)<|by simpa using p).2;rw[show k+(j+1)=k+1+j by omega];exact this
theorem ZX:∀(l:List Oper) (k:Nat) (listed:Array Bool) (σ:St),(∀j,l[j]?=ops[k+j]?)->listed.size=ops.size->(∀j,j<k->j<ops.size->listed.getD j false=true) ->
  (∀j,k<=j->j<ops.size->listed.getD j true=false)->O7 ops listed->abW cx nb bf inl ops fp k l σ bb->ZV cx nb bf inl ops fp (·=bb) l.length listed σ:=by
 intro l;induction l with
 | nil =>
   intro k listed σ u v x C a h;refine⟨?_,h⟩;cases H:Region.ready .any ops listed with
   | nil=>rfl
   | cons i r =>
     exfalso;have hi:i∈Region.ready .any ops listed:=by rw[H];exact mJ ..
     obtain⟨D,o,G,_⟩:=mem_ready.1 hi;have g:i<ops.size:=(va.1 G).1;rcases tr i k with t|t
     .have:=x i t g;simp[v,g] at this D;rw[this] at D;cases D
     .have:=u (i-k);rw[show k+(i-k)=i by omega,G] at this;cases this
 | cons o l I =>
   intro k listed σ u v x C a h;have t:ops[k]?=some o:=by simpa using(u 0).symm
   have g:k<ops.size:=(va.1 t).1;obtain⟨J,K,E,L,M,bC,O,R⟩:=h;have c:k∈Region.ready .any ops listed:=mem_ready.2 ⟨C k (bZ _) g,o,t,λe S y=>by
    have:=L e S y;exact x e.on this (by omega)⟩
   refine TZ t J (λb y=>?_) l.length listed σ bC a (λj T A U q=>?_) c O (I (k+1) _ bC (λj=>?_) (by simp[v]) (λj A s=>?_) (λj A s=>?_) (a.list c) R)
   .cases n:(fp k).HW with
    | true=>rw[E n] at y;cases y
    | false=>exact(K n).sub b y
   .have p:j<ops.size:=(va.1 A).1;rcases tr j k with z|z
    .exfalso;have:=x j z p;simp[v,p] at this q;rw[this] at q;cases q
    .have F:=u (j-k);rw[show k+(j-k)=j by omega,A] at F;obtain⟨m,V⟩:∃m,j-k=m+1:=⟨j-k-1,by omega⟩;rw[V] at F;have:=M m T (by simpa using F);rw[show k+1+m=j by omega] at this;exact this
   .have:=u (j+1);rw[show k+1+j=k+(j+1) by omega,<-this];simp
   .by_cases e:j=k
    .subst e;simp[v,g]
    .rw[getD_set_ne false<|FY e];exact x j (by omega) s
   .rw[getD_set_ne true (by omega:k≠j)];exact C j (by omega) s
theorem Jv:∀{l:List Oper} {k j:Nat} {o:Oper},l[j]?=some o->(k+j,o)∈number k l:=by
 intro l;induction l with
 | nil=>intro k j o h;cases h
 | cons p l a =>
   intro k j o h;cases j with
   | zero=>obtain rfl:=aG h;exact mJ ..
   | succ j=>exact oh _ (by rw[show k+(j+1)=k+1+j by omega];exact a (by simpa using h))
theorem Jw{d:Nat}:∀{items:List (Nat×Oper)},nI d items=false->∀{i:Nat} {o:Oper},(i,o)∈items->o.dst≠some d:=λh _ _ a=>TL h _ _ a
theorem LL(z:fv P cx)(e:pC P B.G cx)(g:vn P B.G inl){Q:Exit->Act->World->Prop}(r:∀i o,ops[i]?=some o->(fp i).HW=false->Rh cx nb o (fp i))
  (A:∀o∈ops.toList,∀k,o.dst=some k->k<N):∀(n:Nat) (listed:Array Bool) (σ:St) (γ:Gh) (a:Act) (w:World),ZV cx nb bf inl ops fp (·=bb) n listed σ->cM B N γ σ a w ->
   (∀bM s w',cM B N bM bb s w'->Ext B γ σ.mem w bM bb.mem w'->Fr (number 0 ops.toList) a s->Q .normal s w')->wpAny P .any ops Q n listed a w:=by
 intro n;induction n with
 | zero =>
   intro listed σ γ a w h p q;obtain⟨c,rfl⟩:=h;exact⟨c,q γ a w p (Ext.refl _ _ _ _) λt _=>rfl⟩
 | succ n C =>
   intro listed σ γ a w h p q;refine⟨λD=>?_,λi E=>?_⟩
   .obtain rfl:=h.1 D;exact q γ a w p (Ext.refl _ _ _ _) λt _=>rfl
   .obtain⟨o,bC,c,F,H,I⟩:=h.2 i E;have m:o∈ops.toList:=by
     have:=YU c;simpa using this
    have b:(i,o)∈number 0 ops.toList:=by
     have:=Jv (l:=ops.toList) (k:=0) (j:=i) (o:=o) (by simpa using c);simpa using this
    unfold wpOp;rw[c];dsimp only;have J:Region.wanted o (yielded ops a.tmps)=true:=by unfold Region.wanted;rw[F]
    rw[J];simp only[kQ];refine .inl (Je z e g p (A o m) (AE (r i o c) H) λu v K L M=>?_);refine C _ bC u _ K I L λx O R S T U=>q x O R S (M.trans T) λt y=>?_;rw[U t y,fN (Jw y b)]
theorem cM.draw{a:Act}{w:World}(h:cM B N γ σ a w)(n:Nat):cM B N γ σ a { w with drawn:=n }/\Ext B γ σ.mem w γ σ.mem { w with drawn:=n }:=by
 obtain⟨m1,c⟩:=h.ok.far (w':={ w with drawn:=n }) (I':=γ.I) ⟨rfl,rfl,rfl,bZ _,λ_ _=>rfl⟩ (λ_ _ k=>k) (λb o k=>h.ok.sg b o k) (λb o k e=>absurd k e);exact⟨h.go c m1,c⟩
theorem O9(c:P.follows .mixedOrders=true)(t:fv P cx)(g:pC P B.G cx)(m:vn P B.G inl){Q:Exit->Act->World->Prop}{id:Nat}{a:Act}{w:World}
  (u:∀o∈ops.toList,∀k,o.dst=some k->k<N) (v:(IE cx nb bf inl (number 0 ops.toList) [] σ).run=some bb) (h:cM B N γ σ a w)
  (y:∀bM n w',cM B N bM bb n w'->Ext B γ σ.mem w bM bb.mem w'->Fr (number 0 ops.toList) a n->Q .normal n w'):(Code.region id ops true).wp P Q a w:=by
 refine wp_region_any c ?_;obtain⟨z,L,M,A⟩:=O8 (ops:=ops) ops.toList 0 [] σ (λj o b=>by simpa using b) rG.nil v
 let fp:Nat->Fp:=λi=>(z[i]?.map (·.1)).getD ⟨[],[],true,none⟩
 obtain⟨q,_⟩:=A fp λj f b=>by simp[fp,b]
 have key:∀(l:List Oper) (k:Nat) (σ:St),abW cx nb bf inl ops fp k l σ bb->∀j o,l[j]?=some o->(fp<|k+j).HW=false->Rh cx nb o (fp<|k+j):=by
  intro l;induction l with
  | nil=>intro k σ _ j o b;cases b
  | cons o l C =>
    intro k σ D j E b;obtain⟨O,F,H,R,S,bC,T,I⟩:=D;cases j with
    | zero=>obtain rfl:=aG b;exact F
    | succ j=>rw[show k+(j+1)=k+1+j by omega];exact C (k+1) bC I j E (by simpa using b)
 have hA:=ZX (ops:=ops) (cx:=cx) (nb:=nb) (bf:=bf) (inl:=inl) (fp:=fp) (bb:=bb) ops.toList 0 (Array.replicate ops.size false) σ (by simp) (by simp) (λj b=>by omega)
  (λj _ b=>by simp[b]) (λi o e p=>by
   exfalso;rcases tr i ops.size with r|r<;>simp[r] at p) q
 obtain⟨J,K⟩:=h.draw (w.drawn+1);refine LL t g m (λi o p=>by have:=key _ 0 σ q i o (by simpa using p);simpa using this) u _ _ σ γ a _ (by simpa using hA) J λbM n w' s x f=>y bM n w' s (K.trans x) f
end
end Go.Ge
namespace Go.Ge
open RowKit
section
variable {cx:Ctx} {nb:Nat} {bf:List Nat} {inl:Nat->List aL->St->Tree (aL×St)} {ops:Array Oper} {fp:Nat->Fp}
abbrev Lf:=St×(Nat->Bool)
def Cd(a:Array Oper)(o:Oper)(s:Lf):Option Bool:=match o.guard with
 | none=>some true
 | some (g,want)=>match(a[g]?).bind (·.dst) with
   | none=>none
   | some dg=>bif s.2 g then some false else match s.1.slots dg with
     | .data .bool c=>some ((show Bool from c)==want)
     | _=>none
def oe(b:Ctx)(c:Nat)(e:List Nat)(inl:Nat->List aL->St->Tree (aL×St))(a:Array Oper)(f:Fp)(i:Nat)(o:Oper)(s:Lf):Option Lf:=match Cd a o s with
 | none=>none
 | some true=>(iK b c e inl f o s.1).run.map λσ=>(σ,s.2)
 | some false=>some (s.1.aW o.dst .undef,gM i s.2)
def afl:St:={ slots:=λ_=>.undef,mem:=λ_=>none }
theorem Rl(a:St)(d:Option Nat):a.aW d .undef=lay a d [] afl:=by
 unfold lay;cases d with
 | none=>rfl
 | some k=>rfl
theorem Nk{f:Fp}{i:Nat}{o:Oper}{s k:Lf}(l:f.HW=false)(h:oe cx nb bf inl ops f i o s=some k):∃b e τ,Cd ops o s=some b/\k=(lay s.1 o.dst e τ,bif b then s.2 else gM i s.2)/\(∀x∈e,x∈f.wr) /\
  ∀a:Lf,Cd ops o a=some b->(b=true->a.1.only (tmpsOf<|eY o.op) f.rd=s.1.only (tmpsOf<|eY o.op) f.rd)->oe cx nb bf inl ops f i o a=some (lay a.1 o.dst e τ,bif b then a.2 else gM i a.2):=by
 unfold oe at h;cases hd:Cd ops o s with
 | none=>rw[hd] at h;cases h
 | some b =>
   rw[hd] at h;cases b with
   | true =>
     simp only at h;obtain⟨bb,c,rfl⟩:=r9.1 h;unfold iK at c;rw[l] at c;simp only[iU] at c;obtain⟨τ,m,n⟩:=bind_some c;obtain rfl:=aG n;refine⟨true,f.wr,τ,rfl,rfl,λx g=>g,λa j p=>?_⟩;unfold oe;rw[j];simp only;unfold iK;rw[l];simp only[iU];rw[Tree.run_bind,p rfl,m];rfl
   | false =>
     simp only at h;obtain rfl:=aG h;refine⟨false,[],afl,rfl,by rw[Rl];rfl,λx g=>(nomatch g),λa j _=>?_⟩;unfold oe;rw[j];simp only;rw[Rl];rfl
theorem Rm{i j:Nat}{x y:Oper}{f g:Fp}(h:zo ops i j x y f g=true):f.HW=false/\g.HW=false/\(∀b∈f.wr,b∉g.rd)/\(∀b∈g.wr,b∉f.rd)/\wV x j=true/\wV y i=true /\
  (∀d,x.dst=some d->d∉BW ops y)/\(∀d,y.dst=some d->d∉BW ops x)/\(∀d e,x.dst=some d->y.dst=some e->d≠e):=by
 simp only[zo,dv,j7] at h;obtain⟨⟨⟨⟨⟨⟨⟨m,n⟩,o⟩,p⟩,r⟩,s⟩,a⟩,k⟩:=h;refine⟨m,n,λb l=>AF o l,λb l=>AF p l,r,s,λd c=>?_,λd c=>?_,λd e c t=>?_⟩
 .rw[c] at a;simp only[dv,j7] at a;exact jM.1 a.1
 .rw[c] at k;simp only[j7] at k;exact jM.1 k
 .rw[c,t] at a;simp only[dv,j7] at a;intro q;subst q;simp at a
theorem Jx{i:Nat}{o:Oper}{s:Lf}{d:Option Nat}{m:List Nat}{n:St}{b:Bool}(c:wV o i=true)(r:∀k,d=some k->k∉BW ops o):Cd ops o (lay s.1 d m n,bif b then s.2 else gM i s.2)=Cd ops o s:=by
 unfold Cd;cases a:o.guard with
 | none=>rfl
 | some p =>
   obtain⟨g,q⟩:=p;dsimp only;cases h:(ops[g]?).bind (·.dst) with
   | none=>rfl
   | some dg =>
     dsimp only;have j:Nat.beq g i=false:=by
      unfold wV at c;rw[a] at c;simpa using c
     have t:(bif b then s.2 else gM i s.2) g=s.2 g:=by
      cases b with
      | true=>rfl
      | false=>simp only[iU,gM,j,yA]
     have u:(lay s.1 d m n).slots dg=s.1.slots dg:=by
      unfold lay;cases d with
      | none=>rfl
      | some k =>
        have l:dg≠k:=λe=>r k rfl (by
         unfold BW M6;rw[a];dsimp only;rw[h];subst e;exact mJ ..)
        simp[iW l]
     rw[t,u]
theorem ZY(o:St){g h:Option Nat}{i j:List Nat}{a c:St}(q:∀d e,g=some d->h=some e->d≠e)(r:∀b∈i,b∉j):lay (lay o h j c) g i a=lay (lay o g i a) h j c:=by
 unfold lay
 congr 1
 .cases g with
  | none=>rfl
  | some k =>
    cases h with
    | none=>rfl
    | some e =>
      have l:=q k e rfl rfl;funext t;dsimp only;by_cases m:t=k
      .subst m;simp[iW l]
      .by_cases p:t=e
       .subst p;simp[iW m]
       .simp[iW m,iW p]
 .funext b;dsimp only;cases n:cI i b with
  | false=>rfl
  | true =>
    have:b∉j:=r b (oy.1 n);simp[jM.2 this]
theorem T0{i j:Nat}{l g:Oper}{a m:Fp}{s u v:Lf}(n:zo ops i j l g a m=true)(p:∀b∈a.wr,b∈a.rd)(G:oe cx nb bf inl ops a i l s=some u)(H:oe cx nb bf inl ops m j g u=some v) :
  ∃c,oe cx nb bf inl ops m j g s=some c/\oe cx nb bf inl ops a i l c=some v:=by
 obtain⟨I,J,K,x,L,M,y,z,O⟩:=Rm n;obtain⟨R,wi,S,T,U,A,V⟩:=Nk I G;subst U;obtain⟨C,W,q,D,X,E,Y⟩:=Nk J H;subst X;rw[Jx M y] at D;have F:∀{o:Oper} {k:Nat},k∉BW ops o->k∉tmpsOf (eY o.op):=λh Z=>h (nC _ Z);have hj:=Y s D λ_=>(Dq (λk r=>F (y k r)) λb e=>K b (A b e)).symm;refine⟨_,hj,?_⟩;have hi:=V (lay s.1 g.dst W q,bif C then s.2 else gM j s.2) (by rw[Jx L z];exact T) λ_=>Dq (λk r=>F (z k r)) (λb e=>x b (E b e));rw[hi]
 congr 1
 refine Iy ?_ ?_
 .exact ZY s.1 O (λb e t=>x b (E b t) (p b<|A b e))
 .dsimp only;cases R<;>cases C<;>first|rfl|skip
  simp only[iU];funext k;simp only[gM];cases Nat.beq k i<;>cases Nat.beq k j<;>rfl
def Pb(b:Ctx)(c:Nat)(e:List Nat)(inl:Nat->List aL->St->Tree (aL×St))(a:Array Oper)(g:Nat->Fp)(Q:Lf->Prop):Nat->Array Bool->Lf->Prop
 | 0,listed,s=>Region.ready .any a listed=[]/\Q s
 | n+1,listed,s=>(Region.ready .any a listed=[]->Q s) /\
  ∀i∈Region.ready .any a listed,∃o h,a[i]?=some o/\oe b c e inl a (g i) i o s=some h/\Pb b c e inl a g Q n (listed.setIfInBounds i true) h
variable {Q:Lf->Prop}
theorem T1{i:Nat}{q:Oper}(C:ops[i]?=some q)(u:∀b∈(fp i).wr,b∈(fp i).rd):∀(n:Nat) (listed:Array Bool) (s s1:Lf),
  O7 ops listed->(∀j r,ops[j]?=some r->j≠i->listed.getD j true=false->Reach ops j i\/zo ops i j q r (fp i) (fp j)=true) ->
  i∈Region.ready .any ops listed->oe cx nb bf inl ops (fp i) i q s=some s1->Pb cx nb bf inl ops fp Q n (listed.setIfInBounds i true) s1->Pb cx nb bf inl ops fp Q (n+1) listed s:=by
 intro n;induction n with
 | zero =>
   intro listed s s1 c e m z H;refine⟨λh=>(by rw[h] at m;cases m),λj t=>?_⟩;by_cases a:j=i
   .subst a;exact⟨q,s1,C,z,H⟩
   .have:=ready_mono t a;rw[H.1] at this;cases this
 | succ n E =>
   intro listed s s1 c e m z H;refine⟨λh=>(by rw[h] at m;cases m),λj t=>?_⟩;by_cases a:j=i
   .subst a;exact⟨q,s1,C,z,H⟩
   .obtain⟨r,F,o,G,I⟩:=H.2 j (ready_mono t a);obtain⟨g,J,l,D⟩:=mem_ready.1 t;rw[o] at l;obtain rfl:=aG l;have p:zo ops i j q r (fp i) (fp j)=true:=by
     rcases e j r o a g with K|p
     .exact(Rk (mem_ready.1 m).1<|K.ready c t).elim
     .exact p
    obtain⟨v,L,M⟩:=T0 p u z G;refine⟨r,v,o,L,E (listed.setIfInBounds j true) v F (c.list t) (λk O R A x=>e k O R A ?_) (ready_mono m<|FY a) M ?_⟩
    .by_cases y:j=k
     .subst y;exact g
     .rw[getD_set_ne true y] at x;exact x
    .rw[ac9 _ _ a];exact I
end
end Go.Ge
namespace Go.Ge
open RowKit
section
variable {P:Program} {B:qM} {N:Nat} {γ:Gh} {cx:Ctx} {nb:Nat} {bf:List Nat} {inl:Nat->List aL->St->Tree (aL×St)} {σ bb:St} {ops:Array Oper} {fp:Nat->Fp}
theorem ZZ{a:St}{d:Nat}{v:aL}(h:a.slots d=v):a.put d v=a:=by
 unfold St.put;obtain⟨c,e⟩:=a
 congr 1
 funext t;cases b:Nat.beq t d with
 | true=>obtain rfl:=eX b;exact h.symm
 | false=>rfl
def abX(cx:Ctx)(nb:Nat)(bf:List Nat)(inl:Nat->List aL->St->Tree (aL×St))(ops:Array Oper)(fp:Nat->Fp):Nat->List Oper->Lf->Lf->Prop
 | _,[],s,s'=>s=s'
 | k,o::l,s,s'=>(((fp k).HW=false->Rh cx nb o (fp k))/\((fp k).HW=true->(fp k).wr=[]))/\(∀e∈o.after,Region.binds .any e=true->e.on<k) /\
  (∀j a,l[j]?=some a->Reach ops (k+1+j) k\/zo ops k (k+1+j) o a (fp k) (fp<|k+1+j)=true) /\
  ∃b,oe cx nb bf inl ops (fp k) k o s=some b/\abX cx nb bf inl ops fp (k+1) l b s'
theorem Gg{i:Nat}{o:Oper}{f a:Fp}{k m c:Nat}{b:Oper}{r:List zn}(h:BX ops i o f m ((k,b,a,c)::r)=true):(Nat.testBit m k=true\/zo ops k i b o a f=true)/\BX ops i o f m r=true:=by
 simp only[BX,dv,wJ] at h;exact h
theorem Jy{i:Nat}{o:Oper}{r:List (Nat×Oper)}{a:List zn}{j:Nat->Bool}(h:(tc cx nb bf inl ops ((i,o)::r) a σ j).run=some bb) :
  ∃m:Lf,BX ops i o (wU cx nb o σ) (mask a o) a=true/\(∀e∈o.after,Region.binds .any e=true->e.on<i)/\oe cx nb bf inl ops (wU cx nb o σ) i o (σ,j)=some m /\
   (tc cx nb bf inl ops r ((i,o,wU cx nb o σ,mask a o)::a) m.1 m.2).run=some bb:=by
 simp only[tc] at h;obtain⟨C,k⟩:=ay h;simp only[dv] at C;obtain⟨z,u⟩:=C;have s:∀e∈o.after,Region.binds .any e=true->e.on<i:=λe D E=>by
  rw[<-Array.all_toList,sb] at u;have:=u e (by simpa using D);rw[E] at this;have:=BT (by simpa [Nat.blt] using this);omega
 suffices ∃m:Lf,oe cx nb bf inl ops (wU cx nb o σ) i o (σ,j)=some m/\(tc cx nb bf inl ops r ((i,o,wU cx nb o σ,mask a o)::a) m.1 m.2).run=some bb by
  obtain⟨m,F,G⟩:=this;exact⟨m,z,s,F,G⟩
 split at k
 .rename_i y;obtain⟨bC,t,v⟩:=bind_some k;refine⟨(bC,j),?_,v⟩;have hd:Cd ops o (σ,j)=some true:=by unfold Cd;rw[y]
  unfold oe;rw[hd];dsimp only;rw[t];rfl
 .rename_i g b y;split at k
  .cases k
  .rename_i H x;cases n:j g with
   | true =>
     rw[n] at k;refine⟨(σ.aW o.dst .undef,gM i j),?_,k⟩;have hd:Cd ops o (σ,j)=some false:=by unfold Cd;rw[y];dsimp only;rw[x];dsimp only;rw[n];rfl
     unfold oe;rw[hd]
   | false =>
     rw[n] at k;simp only[iU] at k;split at k
     .rename_i c l;change Bool at c;have p:=gg k;have hd:Cd ops o (σ,j)=some (c==b):=by unfold Cd;rw[y];dsimp only;rw[x];dsimp only;rw[n];simp only[iU];rw[l]
      have q:=ZZ l;have run:∀{bC:St},(iK cx nb bf inl (wU cx nb o σ) o σ).run=some bC->(c==b)=true->oe cx nb bf inl ops (wU cx nb o σ) i o (σ,j)=some (bC,j):=λt A=>by
       unfold oe;rw[hd,A];dsimp only;rw[t];rfl
      have skip:(c==b)=false->oe cx nb bf inl ops (wU cx nb o σ) i o (σ,j)=some (σ.aW o.dst .undef,gM i j):=λA=>by
       unfold oe;rw[hd,A]
      cases c with
      | true =>
        simp only[ev] at p;rw[q] at p;cases b with
        | true=>obtain⟨bC,t,v⟩:=bind_some p;exact⟨(bC,j),run t rfl,v⟩
        | false=>exact⟨_,skip rfl,p⟩
      | false =>
        simp only[iU] at p;rw[q] at p;cases b with
        | true=>exact⟨_,skip rfl,p⟩
        | false=>obtain⟨bC,t,v⟩:=bind_some p;exact⟨(bC,j),run t rfl,v⟩
     .cases k
theorem LM:∀(l:List Oper) (k:Nat) (done:List zn) (σ:St) (i:Nat->Bool),(∀j o,l[j]?=some o->ops[k+j]?=some o)->rG ops done->(tc cx nb bf inl ops (number k l) done σ i).run=some bb ->
  ∃(e:List (Fp×Nat)) (g:Nat->Bool),e.length=l.length/\(∀j m b,e[j]?=some m->Nat.testBit m.2 b=true->Reach ops (k+j) b) /\
   ∀fp:Nat->Fp,(∀j f,e[j]?=some f->fp (k+j)=f.1)->abX cx nb bf inl ops fp k l (σ,i) (bb,g)/\∀j o f,l[j]?=some o->e[j]?=some f->BX ops (k+j) o (fp<|k+j) f.2 done=true:=by
 intro l;induction l with
 | nil =>
   intro k done σ i _ _ h;obtain rfl:=aG h;exact⟨[],i,rfl,λj m b h=>absurd h (by simp),λfp _=>⟨rfl,λj o f a=>absurd a (by simp)⟩⟩
 | cons o l D =>
   intro k done σ i v x h;obtain⟨t,E,F,G,H⟩:=Jy (r:=number (k+1) l) h;have y:ops[k]?=some o:=v 0 o rfl;obtain⟨e,g,z,A,I⟩:=D (k+1) _ t.1 t.2 (λj u a=>by have:=v (j+1) u (by simpa using a);rw[<-this];congr 1;omega) (x.cons y) H;refine⟨(wU cx nb o σ,mask done o)::e,g,by simp[z],λj m b a c=>?_,λfp n=>?_⟩
   .cases j with
    | zero=>obtain rfl:=aG a;exact Cc x y c
    | succ j=>have:=A j m b (by simpa using a) c;rw[show k+(j+1)=k+1+j by omega];exact this
   have p:fp k=wU cx nb o σ:=n 0 _ rfl;obtain⟨J,C⟩:=I fp λj f a=>by have:=n (j+1) f (by simpa using a);rw[<-this];congr 1;omega
   refine⟨⟨⟨λc=>by rw[p] at c⊢;exact H5 o σ c,λc=>by rw[p] at c⊢;exact ZW o σ c⟩,F,λj K a=>?_,t,by rw[p];exact G,J⟩,λj u f a s=>?_⟩
   .obtain⟨f,s⟩:∃f,e[j]?=some f:=⟨_,gH (by rw[z];exact(fU.1 a).1)⟩;rcases(Gg<|C j K f a s).1 with q|q
    .exact .inl (A j f k s q)
    .rw[p];exact .inr q
   .cases j with
    | zero =>
      obtain rfl:=aG a;obtain rfl:=aG s;rw[wL,p];exact E
    | succ j =>
      have:=(Gg<|C j u f (by simpa using a)<|by simpa using s).2;rw[show k+(j+1)=k+1+j by omega];exact this
theorem Z0{s':Lf}:∀(l:List Oper) (k:Nat) (listed:Array Bool) (s:Lf),(∀j,l[j]?=ops[k+j]?)->listed.size=ops.size->(∀j,j<k->j<ops.size->listed.getD j false=true) ->
  (∀j,k<=j->j<ops.size->listed.getD j true=false)->O7 ops listed->abX cx nb bf inl ops fp k l s s'->Pb cx nb bf inl ops fp (·=s') l.length listed s:=by
 intro l;induction l with
 | nil =>
   intro k listed s v x y D a h;refine⟨?_,h⟩;cases J:Region.ready .any ops listed with
   | nil=>rfl
   | cons i r =>
     exfalso;have hi:i∈Region.ready .any ops listed:=by rw[J];exact mJ ..
     obtain⟨E,o,G,_⟩:=mem_ready.1 hi;have g:i<ops.size:=(va.1 G).1;rcases tr i k with u|u
     .have:=y i u g;simp[x,g] at this E;rw[this] at E;cases E
     .have:=v (i-k);rw[show k+(i-k)=i by omega,G] at this;cases this
 | cons o l K =>
   intro k listed s v x y D a h;have u:ops[k]?=some o:=by simpa using(v 0).symm
   have g:k<ops.size:=(va.1 u).1;obtain⟨H,L,M,I,O,R⟩:=h;have c:k∈Region.ready .any ops listed:=mem_ready.2 ⟨D k (bZ _) g,o,u,λe S z=>by
    have:=L e S z;exact y e.on this (by omega)⟩
   refine T1 u (λb z=>by
    cases n:(fp k).HW with
    | true=>rw[H.2 n] at z;cases z
    | false=>exact(H.1 n).sub b z) l.length listed s I a (λj T C U q=>?_) c O (K (k+1) _ I (λj=>?_) (by simp[x]) (λj C t=>?_) (λj C t=>?_) (a.list c) R)
   .have p:j<ops.size:=(va.1 C).1;rcases tr j k with A|A
    .exfalso;have:=y j A p;simp[x,p] at this q;rw[this] at q;cases q
    .have F:=v (j-k);rw[show k+(j-k)=j by omega,C] at F;obtain⟨m,V⟩:∃m,j-k=m+1:=⟨j-k-1,by omega⟩;rw[V] at F;have:=M m T (by simpa using F);rw[show k+1+m=j by omega] at this;exact this
   .have:=v (j+1);rw[show k+1+j=k+(j+1) by omega,<-this];simp
   .by_cases e:j=k
    .subst e;simp[x,g]
    .rw[getD_set_ne false<|FY e];exact y j (by omega) t
   .rw[getD_set_ne true (by omega:k≠j)];exact D j (by omega) t
theorem T2(a:∀f b σ v bb,(inl f b σ).run=some (v,bb)->bj σ bb):∀(l:List Oper) (k:Nat) (done:List zn) (σ bb:St) (e:Nat->Bool),(tc cx nb bf inl ops (number k l) done σ e).run=some bb->bj σ bb:=by
 intro l;induction l with
 | nil=>intro k done σ bb e h;obtain rfl:=aG h;exact bj.refl _
 | cons o l g =>
   intro k done σ bb e h;obtain⟨n,p,q,c,i⟩:=Jy (r:=number (k+1) l) h;refine bj.trans ?_ (g _ _ _ _ _ i);unfold oe at c;split at c
   .cases c
   .obtain⟨bC,j,rfl⟩:=r9.1 c;exact zA a bC (AE (λm=>H5 o σ m) j)
   .obtain rfl:=aG c;exact bj.aW _ _ _
end
end Go.Ge
namespace Go.Ge
open RowKit
section
variable {P:Program} {B:qM} {N:Nat} {γ:Gh} {cx:Ctx} {nb:Nat} {bf:List Nat} {inl:Nat->List aL->St->Tree (aL×St)} {σ bb:St} {ops:Array Oper} {fp:Nat->Fp}
theorem T3{l:List Oper}{j:Nat}{o:Oper}{d:Nat}(h:l[j]?=some o)(a:o.dst=some d):d∈kU.EL l:=by
 induction l generalizing j with
 | nil=>cases h
 | cons p l b =>
   cases j with
   | zero=>obtain rfl:=aG h;simp only[kU.EL,a];exact mJ ..
   | succ j =>
     have:=b (j:=j) (by simpa using h);simp only[kU.EL];split
     .exact oh _ this
     .exact this
theorem Jz:∀{l:List Oper},kU l=true->∀{i j:Nat} {x y:Oper} {d:Nat},i<j->l[i]?=some x->l[j]?=some y->x.dst=some d->y.dst≠some d:=by
 intro l;induction l with
 | nil=>intro _ i j x y d _ h;cases h
 | cons p l k =>
   intro h i j x y d n c o e g;simp only[kU,dv] at h;obtain⟨m,rfl⟩:∃m,j=m+1:=⟨j-1,by omega⟩;have a:l[m]?=some y:=by simpa using o
   cases i with
   | zero =>
     obtain rfl:=aG c;have b:=h.1;rw[e] at b;simp only[j7] at b;exact jM.1 b (T3 a g)
   | succ i=>exact k h.2 (i:=i) (j:=m) (by omega) (by simpa using c) a e g
theorem T4(h:kU ops.toList=true){i j:Nat}{x y:Oper}{d:Nat}(a:i≠j)(c:ops[i]?=some x)(e:ops[j]?=some y)(g:x.dst=some d):y.dst≠some d:=by
 rcases Nat.lt_or_gt_of_ne a with b|b
 .exact Jz h b (by simpa using c) (by simpa using e) g
 .intro k;exact Jz h b (by simpa using e) (by simpa using c) k g
def T5(c:Array Oper)(e:Nat->Bool)(b:Array Bool)(a:Act):Prop:=∀k,e k=true->yielded c a.tmps k=none/\b.getD k true=true
theorem vq{a:Act}{i k:Nat}{o:Oper}{v:Value}(b:kU ops.toList=true)(e:ops[i]?=some o)(c:k≠i):yielded ops (a.put o.dst v).tmps k=yielded ops a.tmps k:=by
 unfold yielded;cases g:ops[k]? with
 | none=>rfl
 | some y =>
   simp only[FX];cases hd:y.dst with
   | none=>rfl
   | some h =>
     simp only[FX];have:o.dst≠some h:=T4 b c g e hd;rw[fN this]
theorem T5.run{j:Nat->Bool}{b:Array Bool}{a:Act}{i:Nat}{o:Oper}{v:Value}(h:T5 ops j b a)(g:kU ops.toList=true)(n:ops[i]?=some o)(l:b.getD i true=false):T5 ops j (b.setIfInBounds i true) (a.put o.dst v):=λk p=>by
 obtain⟨q,m⟩:=h k p;have c:k≠i:=λe=>by subst e;rw[m] at l;cases l
 exact⟨by rw[vq g n c];exact q,by rw[getD_set_ne true<|FY c];exact m⟩
theorem T5.skip{e:Nat->Bool}{b:Array Bool}{a:Act}{i:Nat}{o:Oper}(h:T5 ops e b a)(g:kU ops.toList=true)(m:ops[i]?=some o)(p:b.getD i true=false):T5 ops (gM i e) (b.setIfInBounds i true) (a.put o.dst Go.undef):=λk n=>by
 by_cases c:k=i
 .subst c;refine⟨Dl m,?_⟩;rcases tr k b.size with j|j
  .simp[j]
  .simp[Qk j] at p
 .have l:e k=true:=by
   simp only[gM,iW c,yA] at n;exact n
  obtain⟨q,r⟩:=h k l;exact⟨by rw[vq g m c];exact q,by rw[getD_set_ne true<|FY c];exact r⟩
theorem LN(hc:fv P cx)(F:pC P B.G cx)(H:vn P B.G inl){Q:Exit->Act->World->Prop}(I:kU ops.toList=true)(M:∀i o,ops[i]?=some o->(fp i).HW=false->Rh cx nb o (fp i))
  (hd:∀o∈ops.toList,∀k,o.dst=some k->k<N):∀(n:Nat) (listed:Array Bool) (s:Lf) (γ:Gh) (a:Act) (w:World),Pb cx nb bf inl ops fp (λs=>s.1=bb) n listed s->cM B N γ s.1 a w->T5 ops s.2 listed a ->
   (∀bM O w',cM B N bM bb O w'->Ext B γ s.1.mem w bM bb.mem w'->Fr (number 0 ops.toList) a O->Q .normal O w')->wpAny P .any ops Q n listed a w:=by
 intro n;induction n with
 | zero =>
   intro listed s γ a w h E u z;obtain⟨x,R⟩:=h;rw[<-R] at z;exact⟨x,z γ a w E (Ext.refl _ _ _ _) λt _=>rfl⟩
 | succ n ih =>
   intro listed s γ a w h E u z;refine⟨λh0=>?_,λi hi=>?_⟩
   .have R:=h.1 h0;rw[<-R] at z;exact z γ a w E (Ext.refl _ _ _ _) λt _=>rfl
   .obtain⟨o,s1,x,J,h4⟩:=h.2 i hi;have K:=(mem_ready.1 hi).1;have y:o∈ops.toList:=by
     have:=YU x;simpa using this
    have m:(i,o)∈number 0 ops.toList:=by
     have:=Jv (l:=ops.toList) (k:=0) (j:=i) (o:=o) (by simpa using x);simpa using this
    have hw:∀b,Cd ops o s=some b->Region.wanted o (yielded ops a.tmps)=b:=by
     intro b e;unfold Cd at e;cases q:o.guard with
     | none =>
       rw[q] at e;obtain rfl:=aG e;unfold Region.wanted;rw[q]
     | some p =>
       obtain⟨g,L⟩:=p;rw[q] at e;dsimp only at e;split at e
       .cases e
       .rename_i dg S;cases T:s.2 g with
        | true =>
          rw[T] at e;obtain rfl:=aG e;unfold Region.wanted;rw[q];simp only[(u g T).1];rfl
        | false =>
          rw[T] at e;simp only[iU] at e;split at e
          .rename_i c A;change Bool at c;obtain rfl:=aG e;have C:=Gd E A;unfold Region.wanted;rw[q];simp only[yielded,S,FX,C];cases c<;>cases L<;>rfl
          .cases e
    unfold wpOp;rw[x];dsimp only;unfold oe at J;split at J
    .cases J
    .rename_i r;obtain⟨bC,q1,rfl⟩:=r9.1 J;rw[hw true r];simp only[kQ];refine .inl (Je hc F H E (hd o y) (AE (M i o x) q1) λU v w1 s1 x1=>?_);refine ih _ (bC,s.2) U _ w1 h4 s1 (u.run I x K) λD V W X Y Z=>z D V W X (x1.trans Y) λt C=>?_;rw[Z t C,fN (Jw C m)]
    .rename_i r;obtain rfl:=aG J;rw[hw false r];simp only[Is,pV];have hs1:cM B N γ (s.1.aW o.dst .undef) (a.put o.dst Go.undef) w:=E.ur (hd o y) ⟨_,rfl⟩;have hm:(s.1.aW o.dst .undef).mem=s.1.mem:=by cases o.dst<;>rfl
     refine ih _ (s.1.aW o.dst .undef,gM i s.2) γ _ w h4 hs1 (u.skip I x K) λD V W X Y Z=>z D V W X (by rw[<-hm];exact Y) λt C=>?_;rw[Z t C,fN (Jw C m)]
theorem Pb.mono{Q Q':Lf->Prop}(a:∀s,Q s->Q' s):∀{n:Nat} {listed:Array Bool} {s:Lf},Pb cx nb bf inl ops fp Q n listed s->Pb cx nb bf inl ops fp Q' n listed s:=by
 intro n;induction n with
 | zero=>intro listed s h;exact⟨h.1,a _ h.2⟩
 | succ n b =>
   intro listed s h;refine⟨λc=>a _ (h.1 c),λi e=>?_⟩;obtain⟨o,g,j,k,l⟩:=h.2 i e;exact⟨o,g,j,k,b l⟩
theorem Pc(c:P.follows .mixedOrders=true)(z:fv P cx)(g:pC P B.G cx)(m:vn P B.G inl){Q:Exit->Act->World->Prop}{id:Nat}{a:Act}{w:World}(p:kU ops.toList=true)
  (A:∀o∈ops.toList,∀k,o.dst=some k->k<N) (C:(tc cx nb bf inl ops (number 0 ops.toList) [] σ λ_=>false).run=some bb) (h:cM B N γ σ a w)
  (D:∀bM n w',cM B N bM bb n w'->Ext B γ σ.mem w bM bb.mem w'->Fr (number 0 ops.toList) a n->Q .normal n w'):(Code.region id ops true).wp P Q a w:=by
 refine wp_region_any c ?_;obtain⟨E,q,S,T,F⟩:=LM (ops:=ops) ops.toList 0 [] σ (λ_=>false) (λj o b=>by simpa using b) rG.nil C
 let fp:Nat->Fp:=λi=>(E[i]?.map (·.1)).getD ⟨[],[],true,none⟩
 obtain⟨v,_⟩:=F fp λj f b=>by simp[fp,b]
 have key:∀(l:List Oper) (k:Nat) (s s':Lf),abX cx nb bf inl ops fp k l s s'->∀j o,l[j]?=some o->(fp<|k+j).HW=false->Rh cx nb o (fp<|k+j):=by
  intro l;induction l with
  | nil=>intro k s s' _ j o b;cases b
  | cons o l H =>
    intro k s s' I j J b;obtain⟨K,U,V,r,W,L⟩:=I;cases j with
    | zero=>obtain rfl:=aG b;exact K.1
    | succ j=>rw[show k+(j+1)=k+1+j by omega];exact H (k+1) r s' L j J (by simpa using b)
 have hA:=Z0 (ops:=ops) (cx:=cx) (nb:=nb) (bf:=bf) (inl:=inl) (fp:=fp) (s':=(bb,q)) ops.toList 0 (Array.replicate ops.size false) (σ,λ_=>false) (by simp) (by simp) (λj b=>by omega)
  (λj _ b=>by simp[b]) (λi o e t=>by
   exfalso;rcases tr i ops.size with y|y<;>simp[y] at t) v
 have u:=Pb.mono (Q':=λs:Lf=>s.1=bb) (λs M=>by rw[M]) hA;obtain⟨r,O⟩:=h.draw (w.drawn+1);refine LN z g m p (λi o t=>by have:=key _ 0 _ _ v i o (by simpa using t);simpa using this) A _ _ (σ,λ_=>false) γ a _ (by simpa using u) r (λk R=>by cases R) λbM n w' s x f=>D bM n w' s (O.trans x) f
theorem Rn(b:P.follows .mixedOrders=true)(m:fv P cx)(c:pC P B.G cx)(e:vn P B.G inl){Q:Exit->Act->World->Prop}{id:Nat}{a:Act}{w:World}
  (n:∀o∈ops.toList,∀k,o.dst=some k->k<N) (g:(wW cx nb bf inl ops σ).run=some bb) (h:cM B N γ σ a w)
  (p:∀bM i w',cM B N bM bb i w'->Ext B γ σ.mem w bM bb.mem w'->Fr (number 0 ops.toList) a i->Q .normal i w'):(Code.region id ops true).wp P Q a w:=by
 unfold wW at g;cases q:ops.any λo=>o.guard.isSome with
 | true =>
   rw[q] at g;obtain⟨j,l⟩:=ay (show(bif kU ops.toList then tc cx nb bf inl ops (number 0 ops.toList) [] σ (λ_=>false) else .fail).run=some bb from g);exact Pc b m c e j n l h p
 | false =>
   rw[q] at g;exact O9 b m c e n g h p
end
end Go.Ge
namespace Go.Ge
open RowKit
def tz(f:Nat->bB->Bool)(mem:Nat->Option bB):Nat->Option bB:=λb=>match mem b with|some a=>some { a with lk:=f b a }|none=>none
section
variable {P:Program} {B:qM} {N:Nat} {γ γ0:Gh} {mem m0 me m1:Nat->Option bB} {w w0:World} {f:Nat->bB->Bool}
theorem Nl{b:Nat}{a:bB}(h:mem b=some a):tz f mem b=some { a with lk:=f b a }:=by simp[tz,h]
theorem Ro{b:Nat}{c:bB}(h:tz f mem b=some c):∃a,mem b=some a/\c={ a with lk:=f b a }:=by
 simp only[tz] at h;split at h
 .rename_i a e;exact⟨a,e,(aG h).symm⟩
 .cases h
theorem Ext.tz:Ext B γ mem w γ (tz f mem) w where
 below:=tX.refl _ _
 I:=λ_ _ h=>h
 ox:=λ_ _ h=>.inl h
 cells:=λ_ _ _=>rfl
 boxes:=λb c a=>⟨_,Nl a,bZ _,λ_=>⟨rfl,rfl,rfl⟩⟩
theorem bu.tz(h:bu B γ mem w):bu B γ (Go.Ge.tz f mem) w:=by
 have g:∀{b},Go.Ge.tz f mem b≠none->mem b≠none:=by
  intro b e m;apply e;simp[Go.Ge.tz,m]
 exact
  { cT:=h.cT
    base:=h.base
    boxes:=λb n e=>by
     obtain⟨i,h0,rfl⟩:=Ro e;exact(h.boxes b i h0).keep (Ext.tz (B:=B) (γ:=γ) (w:=w) (f:=f) (mem:=mem)) rfl (λ_ _ _=>rfl)
    inj:=λb c a k o e p j q=>h.inj b c a k o (g e) (g p) j q
    fresh:=λb a k e j=>h.fresh b a k (g e) j
    sg:=h.sg
    sep:=λb n a k l e j r=>by
     obtain⟨i,h0,rfl⟩:=Ro e;exact h.sep b i a k l h0 j r }
theorem cM.tz{b:St}{a:Act}(h:cM B N γ b a w):cM B N γ { b with mem:=Go.Ge.tz f b.mem } a w:=h.go Ext.tz h.ok.tz
def Mid(g h i:Nat->Option bB):Prop:=∀b c,g b=some c->∃a,i b=some a/\c.aM<=a.aM /\
 (a.aM=c.aM->∃e,h b=some e/\e.aM=c.aM/\e.buf=a.buf/\e.row=a.row)
theorem mO.down(m:Mid m0 me m1){b g:Nat}{n K j:bB->Prop}(o:mO m0 b g n)(h:mO me b g K)(p:∀c a:bB,c.buf=a.buf->c.row=a.row->K c->j a):mO m1 b g j:=by
 obtain⟨i,q,y,_⟩:=o;obtain⟨c,r,z,s⟩:=h;obtain⟨a,t,A,u⟩:=m b i q;refine⟨a,t,by omega,λe=>?_⟩;obtain⟨k,l,C,v,x⟩:=u (by omega);rw[r] at l;obtain rfl:=aG l;exact p c a v x (s<|by omega)
theorem cf.down(g:Mid m0 me m1):∀{v:aL} {m:Mode} {us vs:List Value},cf γ0 m0 w0 v m us->cf γ me w v m vs->cf γ m1 w v m vs:=by
 intro v;induction v with
 | undef=>intro m us vs _ r;cases m<;>exact r
 | data t x=>intro m us vs _ r;cases m<;>exact r
 | oq=>intro m us vs _ r;cases m<;>exact r
 | dM=>intro m us vs _ r;cases m<;>exact r
 | cell t x=>intro m us vs _ r;cases m<;>exact r
 | nl=>intro m us vs _ r;cases m<;>exact r
 | sf=>intro m us vs _ r;cases m<;>exact r
 | vj b aM =>
   intro m us vs c r;cases m with
   | many=>exact r
   | cells=>exact⟨r.1,c.2.down g r.2 λ_ _ _ _ k=>k⟩
   | val=>exact⟨r.1,c.2.down g r.2 λ_ _ _ _ k=>k⟩
 | ptr b aM p =>
   intro m us vs c r;cases m with
   | many=>exact r
   | cells=>exact⟨r.1,c.2.down g r.2 λ_ _ _ _ k=>k⟩
   | val=>exact⟨r.1,c.2.down g r.2 λ_ _ _ _ k=>k⟩
 | whole b aM =>
   intro m us vs c r;cases m with
   | many=>exact r
   | cells=>exact⟨r.1,c.2.down g r.2 λ_ _ o y k=>by rw[<-o,<-y];exact k⟩
   | val=>exact⟨r.1,c.2.down g r.2 λ_ _ o y k=>by rw[<-o,<-y];exact k⟩
 | part b aM lo n =>
   intro m us vs c r;cases m with
   | many=>exact r
   | cells=>exact⟨r.1,c.2.down g r.2 λ_ _ o y k=>by unfold C0 at k⊢;rw[<-o,<-y];exact k⟩
   | val=>exact⟨r.1,c.2.down g r.2 λ_ _ o y k=>by unfold C0 at k⊢;rw[<-o,<-y];exact k⟩
 | win b aM q e k lo n =>
   intro m us vs c r;cases m with
   | many=>exact r
   | cells=>exact⟨r.1,c.2.down g r.2 λ_ _ o y k=>k⟩
   | val=>exact⟨r.1,c.2.down g r.2 λ_ _ o y k=>k⟩
 | fn f I =>
   intro m us vs c r;cases m with
   | many=>exact r
   | cells=>obtain⟨_,_,_,s⟩:=c;obtain⟨h,j,l,H⟩:=r;exact⟨h,j,l,λi b aM C=>(s i b aM C).down g (H i b aM C) λ_ _ _ _ k=>k⟩
   | val=>obtain⟨_,_,_,s⟩:=c;obtain⟨h,j,l,H⟩:=r;exact⟨h,j,l,λi b aM C=>(s i b aM C).down g (H i b aM C) λ_ _ _ _ k=>k⟩
 | mix a b z A =>
   intro m us vs c r;cases m with
   | cells=>obtain⟨_,_,_,D,E⟩:=c;obtain⟨F,G,c,j,l⟩:=r;exact⟨F,G,c,z D j,A E l⟩
   | val=>obtain⟨_,_,_,D,E⟩:=c;obtain⟨F,G,c,j,l⟩:=r;exact⟨F,G,c,z D j,A E l⟩
   | many=>obtain⟨_,_,_,D,E⟩:=c;obtain⟨F,G,c,j,l⟩:=r;exact⟨F,G,c,z D j,A E l⟩
 | yC u J =>
   intro m us vs c r;cases m with
   | val=>obtain⟨_,_,s⟩:=c;obtain⟨h,j,l⟩:=r;exact⟨h,j,J s l⟩
   | cells=>exact r
   | many=>exact r
def Z1(M:Nat->Bool)(V:Nat->Bool->Bool)(e g h:Nat->Option bB):Prop:=∀b a,e b=some a->∃c Nn,g b=some c/\h b=some Nn/\c.buf=a.buf/\Nn.buf=a.buf/\Nn.row=c.row /\
 Nn.aM=(bif M b&&V b a.buf then a.aM+1 else a.aM)/\((M b&&V b a.buf)=false->c.aM=a.aM)
theorem Z1.mid{M:Nat->Bool}{V:Nat->Bool->Bool}(h:Z1 M V m0 me m1):Mid m0 me m1:=λb a l=>by
 obtain⟨i,c,m,k,n,o,p,g,q⟩:=h b a l;cases j:(M b&&V b a.buf) with
 | true =>
   rw[j] at g;simp only[ev] at g;exact⟨c,k,by omega,λe=>absurd e (by omega)⟩
 | false =>
   rw[j] at g;simp only[iU] at g;exact⟨c,k,by omega,λe=>⟨i,m,q j,n.trans o.symm,p.symm⟩⟩
def JA:Sh->aL->Prop
 | .d _,_=>True
 | .k v,u=>v=u
 | .m a b,u=>∃p q,u=.mix p q/\JA a p/\JA b q
theorem abY(v:aL):JA (aby v) v:=by
 induction v with
 | mix a b c e=>exact⟨a,b,rfl,c,e⟩
 | data t x=>trivial
 | _=>rfl
theorem Z2{t:Ty}{v:aL}{y:t.den}(h:toD t v=some y){m:Mode}{b:List Value}(a:cf γ me w v m b):cf γ m1 w (.data t y) m b:=by
 unfold toD at h;split at h
 .obtain⟨q,c⟩:=Ty.kR h;subst q;subst c;cases m<;>exact a
 .split at h
  .obtain rfl:=aG h;cases m with
   | many=>exact a
   | cells=>exact .inl ⟨⟨none,a⟩,rfl⟩
   | val=>exact⟨[.slice none 0 0],.inl ⟨⟨none,rfl⟩,rfl⟩,(show b=[Value.slice none 0 0] from a)⟩
  .cases h
 .cases h
theorem Rp{M:Nat->Bool}{V:Nat->Bool->Bool}{r s:St}(G:Z1 M V r.mem s.mem m1)(hV:∀b x,V b false=true->r.mem b=some x->x.buf=false){u v:aL}(h:xM V r s u v=true){m:Mode}{us t:List Value}(S:cf γ0 r.mem w0 u m us)(i:cf γ s.mem w v m t) :
  cf γ m1 w (bump M V u) m t:=by
 unfold xM at h;split at h
 .rename_i b a p b' k p';simp only[dv] at h;obtain⟨⟨T,E⟩,g⟩:=h;obtain rfl:=eX T;obtain rfl:=Tl E;have still:a=k->(M b&&V b false)=false->cf γ m1 w (bump M V<|.ptr b a p) m t:=by
   intro e q;subst e;have e:bump M V (.ptr b a p)=.ptr b a p:=by simp only[bump,q];rfl
   rw[e];exact cf.down G.mid S i
  cases j:V b false with
  | false =>
    rw[j] at g;exact still (eX g) (by simp[j])
  | true =>
    rw[j] at g;simp only[ev] at g;split at g
    .rename_i x y J F;simp only[dv] at g;have K:=eX g.1;have L:=eX g.2;obtain⟨U,c,H,O,X,Y,Z,R,g7⟩:=G b x J;rw[F] at H;obtain rfl:=aG H;cases z:M b with
     | false=>exact still (by have:=g7 (by simp[z]);omega) (by simp[z])
     | true =>
       have e:bump M V (.ptr b a p)=.ptr b (a+1) p:=by simp only[bump,z,j];rfl
       have C:c.aM=a+1:=by rw[R,z,hV b x j J,j];simp;omega
       rw[e];cases m with
       | many=>exact i
       | cells=>exact⟨i.1,c,O,by omega,λ_=>bg F L i.2⟩
       | val=>exact⟨i.1,c,O,by omega,λ_=>bg F L i.2⟩
    .cases g
 .rename_i b a b' k;simp only[dv] at h;obtain⟨T,g⟩:=h;obtain rfl:=eX T;split at g
  .rename_i x y J F;simp only[dv] at g;obtain⟨⟨E,K⟩,L⟩:=g;have E:=eX E;have K:=eX K;obtain⟨U,c,H,O,X,Y,Z,R,g7⟩:=G b x J;rw[F] at H;obtain rfl:=aG H;have D:x.buf=true:=by rw[<-X];exact L
   have key:∀A,c.aM=A->((∃v,t=[v]/\v.oneCell'=true)/\mO s.mem b k λI=>∃e n,I.buf=true/\I.row=some (e,n) /\
     ((γ.loc b=none/\t=[.slice none 0 0])\/∃l o,γ.loc b=some (l,o)/\t=[.slice (some ⟨l,0,none⟩) n o])) ->
     ((∃v,t=[v]/\v.oneCell'=true)/\mO m1 b A λI=>∃e n,I.buf=true/\I.row=some (e,n) /\
     ((γ.loc b=none/\t=[.slice none 0 0])\/∃l o,γ.loc b=some (l,o)/\t=[.slice (some ⟨l,0,none⟩) n o])):=by
    intro A C hr;have hk:=bg F K hr.2;exact⟨hr.1,c,O,by omega,λ_=>by obtain⟨e,n,q1,q2,q3⟩:=hk;exact⟨e,n,Y.trans D,Z.trans q2,q3⟩⟩
   have C:∃A,bump M V (.whole b a)=.whole b A/\c.aM=A:=by
    unfold bump;cases z:(M b&&V b true) with
    | true=>exact⟨a+1,by simp[z],by rw[R,D,z,<-E];rfl⟩
    | false=>exact⟨a,by simp[z],by rw[R,D,z,<-E];rfl⟩
   obtain⟨A,e1,e2⟩:=C;rw[e1];cases m with
   | many=>exact i
   | cells=>exact key A e2 i
   | val=>exact key A e2 i
  .cases g
 .rename_i f aeP f' W;simp only[dv] at h;obtain rfl:=eX h.1;obtain rfl:=Tm h.2;exact cf.down G.mid S i
 .cases m<;>exact i
 .cases m<;>exact i
 .simp only[dv] at h;obtain rfl:=eX h.1;obtain rfl:=eX h.2;exact cf.down G.mid S i
 .cases h
theorem Z3{V:Nat->Bool->Bool}{a b:St}{u v:aL}:Sh.out V a b (.k u) v=bif xM V a b u v then some () else none:=rfl
theorem afm{V:Nat->Bool->Bool}{c e:St}{a b:Sh}{v w:aL}:Sh.out V c e (.m a b) (.mix v w)=(match Sh.out V c e a v,Sh.out V c e b w with
 | some x,some y=>some ((x,y):(Sh.m a b).ty.den)
 | _,_=>none):=rfl
theorem VM{M:Nat->Bool}{V:Nat->Bool->Bool}{c g:St}(K:Z1 M V c.mem g.mem m1)(L:∀b x,V b false=true->c.mem b=some x->x.buf=false):∀{s:Sh} {u v:aL} {y:s.ty.den} {m:Mode} {us vs:List Value},JA s u->Sh.out V c g s v=some y ->
  cf γ0 c.mem w0 u m us->cf γ g.mem w v m vs->cf γ m1 w (s.qL M V y) m vs:=by
 intro s;induction s with
 | d t=>intro u v y m us vs _ e _ h;exact Z2 e h
 | k x =>
   intro u v y m us vs E e l h;obtain rfl:=E;rw[Z3] at e;cases J:xM V c g x v with
   | false=>rw[J] at e;cases e
   | true=>exact Rp K L J l h
 | m a b i j =>
   intro u v y m us vs E e l h;obtain⟨p,q,rfl,F,G⟩:=E;cases v with
   | mix O R =>
     rw[afm] at e;split at e
     .rename_i S T H I;obtain rfl:=aG e;cases m with
      | cells=>obtain⟨_,_,_,n,o⟩:=l;obtain⟨r,z,A,C,D⟩:=h;exact⟨r,z,A,i F H n C,j G I o D⟩
      | val=>obtain⟨_,_,_,n,o⟩:=l;obtain⟨r,z,A,C,D⟩:=h;exact⟨r,z,A,i F H n C,j G I o D⟩
      | many=>obtain⟨_,_,_,n,o⟩:=l;obtain⟨r,z,A,C,D⟩:=h;exact⟨r,z,A,i F H n C,j G I o D⟩
     .cases e
   | _=>cases e
theorem Xa{t:Ty}{v:aL}{y:t.den}(h:toD t v=some y):(v=.data t y)\/(v=.oq/\∃e,t=.slice e):=by
 unfold toD at h;split at h
 .obtain⟨q,a⟩:=Ty.kR h;subst q;subst a;exact .inl rfl
 .split at h
  .exact .inr ⟨rfl,_,rfl⟩
  .cases h
 .cases h
theorem VN{M:Nat->Bool}{V:Nat->Bool->Bool}{C D:St}{s:Sh}{c Nn:bB}{y:s.ty.den}(g:Sh.out V C D s c.val=some y)(G:Nn.val=s.qL M V y)(H:Nn.buf=c.buf)(j:c.buf=true->∃e l,c.val=.data (.slice e) l) :
  Nn.row=c.row/\(c.buf=true->Nn.val=c.val):=by
 have n:∀t x,c.val=.data t x->Nn.val=c.val:=by
  intro t x i;rw[i] at g;cases s with
  | d u =>
    obtain⟨q,o⟩:=Ty.kR (show Ty.to t u x=some y from g);subst q;subst o;rw[G,i];rfl
  | k z=>rw[Z3] at g;unfold xM at g;cases z<;>cases g
  | m a b=>cases g
 have r:∀{b1 A:bB},b1.buf=A.buf->b1.val=A.val->b1.row=A.row:=by
  intro b1 A I J;unfold bB.row;rw[I,J]
 cases i:c.val with
 | data t x =>
   have:=n t x i;exact⟨r H this,λ_=>by rw[this,i]⟩
 | _ =>
   refine⟨?_,λh=>by obtain⟨e,l,q⟩:=j h;rw[i] at q;cases q⟩;cases o:c.buf with
   | true=>obtain⟨e,l,q⟩:=j o;rw[i] at q;cases q
   | false =>
     have K:c.row=none:=by unfold bB.row;rw[o,i]
     rw[K];unfold bB.row;rw[H,o,G];rw[i] at g;cases s with
     | d u =>
       rcases Xa (show toD u _=some y from g) with q|⟨q,e,rfl⟩
       .first|cases q|exact absurd i (by rw[q];intro k;cases k)
       .rfl
     | k z =>
       rw[Z3] at g;simp only[Sh.qL];have E:∀t x,bump M V z≠.data t x:=by
        intro t x q;cases z with
        | data O R=>unfold xM at g;cases g
        | whole b v=>simp only[bump] at q;cases F:(M b&&V b true)<;>rw[F] at q<;>cases q
        | ptr b v p=>simp only[bump] at q;cases F:(M b&&V b false)<;>rw[F] at q<;>cases q
        | _=>cases q
       split<;>first|rfl|(rename_i L;exact absurd L (E _ _))
     | m a b=>rfl
end
end Go.Ge
