import Derived.Test.YtcebnmppipejfaaGreatDoorGeG
set_option linter.unusedVariables false
set_option linter.unusedSimpArgs false
set_option linter.unusedSectionVars false
namespace Go.Ge
open RowKit
def Le(a c:St):Prop:=∀b e,a.mem b=some e->c.mem b=some e
structure Rel (bA b6 tX rS:St):Prop where
 s1:tX.slots=bA.slots
 s2:rS.slots=b6.slots
 m:∀b,rS.mem b=match tX.mem b with|some x=>some x|none=>b6.mem b
 nv:∀b,tX.mem b=none->bA.mem b=none
section
variable {bA b6 tX rS ρ1 ρ2:St}
theorem Rel.refl(h:Le bA b6):Rel bA b6 bA b6 where
 s1:=rfl
 s2:=rfl
 m:=λb=>by
  cases a:bA.mem b with
  | none=>rfl
  | some x=>exact h b x a
 nv:=λ_ h=>h
theorem Rel.le(h:Rel bA b6 tX rS):Le tX rS:=λb bx a=>by rw[h.m,a]
theorem Rel.trans(h:Rel bA b6 tX rS)(k:Rel tX rS ρ1 ρ2):Rel bA b6 ρ1 ρ2 where
 s1:=k.s1.trans h.s1
 s2:=k.s2.trans h.s2
 m:=λb=>by
  rw[k.m b];cases a:ρ1.mem b with
  | some x=>rfl
  | none=>simp only;rw[h.m b,k.nv b a]
 nv:=λb a=>h.nv b (k.nv b a)
theorem Rel.bT(a:Le bA b6){b:Nat}{bx:Box}:Rel bA b6 (bA.bT b bx) (b6.bT b bx) where
 s1:=rfl
 s2:=rfl
 m:=λc=>by
  by_cases e:c=b
  .subst e;simp[St.bT]
  .rw[ur,ur,aN _ e,aN _ e];exact(Rel.refl a).m c
 nv:=λc g=>by
  by_cases e:c=b
  .subst e;simp[St.bT] at g
  .rw[ur,aN _ e] at g;exact g
theorem Bn{a b:St}(h:b.slots=a.slots)(x:Operand):cp b x=cp a x:=by
 cases x<;>simp[cp,h]
theorem Bo(h:Le bA b6){e:Ty}{v:aK}{l:List e.den}(a:fZ e bA v=some l):fZ e b6 v=some l:=by
 unfold fZ at a⊢;cases v with
 | whole b aI =>
   simp only at a⊢;cases c:bA.mem b with
   | none=>rw[c] at a;cases a
   | some g=>rw[c] at a;rw[h b g c];exact a
 | part b aI lo n =>
   simp only at a⊢;cases c:bA.mem b with
   | none=>rw[c] at a;cases a
   | some g=>rw[c] at a;rw[h b g c];exact a
 | data u y=>cases u<;>exact a
 | _=>exact a
theorem X5(h:Le bA b6):∀{t:Ty} {v:aK} {x:t.den},qg bA t v=some x->qg b6 t v=some x:=by
 intro t;induction t with
 | slice e m=>intro v x c;exact Bo h c
 | pair a b g i =>
   intro v x c;cases v with
   | mix p q =>
     obtain⟨y,z,j,k,rfl⟩:=Er c;exact Pf (g j) (i k)
   | data u y=>exact c
   | _=>cases c
 | alt u a r g l =>
   intro v x c;cases v with
   | rL=>exact(oS c).2.1 _
   | _=>exact c
 | _=>intro v x c;cases v<;>exact c
theorem pH(h:Le bA b6){b a:Nat}(c:live bA b a=true):live b6 b a=true:=by
 unfold live at c⊢;cases e:bA.mem b with
 | none=>rw[e] at c;cases c
 | some g=>rw[e] at c;rw[h b g e];exact c
theorem ab7(h:Le bA b6){v:aK}{n:Int}(a:lenOf bA v=some n):lenOf b6 v=some n:=by
 unfold lenOf at a⊢;cases v with
 | whole b aI =>
   simp only at a⊢;cases c:bA.mem b with
   | none=>rw[c] at a;cases a
   | some e=>rw[c] at a;rw[h b e c];exact a
 | part b aI lo g =>
   simp only at a⊢;cases hv:live bA b aI with
   | false=>rw[hv] at a;cases a
   | true=>rw[hv] at a;rw[pH h hv];exact a
 | data u y=>cases u<;>exact a
 | _=>exact a
theorem Zn(h:Le bA b6){e:Ty}{v:aK}{l:List e.den}(a:ug e bA v=some l):ug e b6 v=some l:=by
 unfold ug at a⊢;split at a
 .exact a
 .exact Bo h a
theorem Lh(h:Le bA b6){b a:Nat}{r:Ty×Int}(c:yb bA b a=some r):yb b6 b a=some r:=by
 unfold yb at c⊢;cases e:bA.mem b with
 | none=>rw[e] at c;cases c
 | some g=>rw[e] at c;rw[h b g e];exact c
theorem Po(h:Le bA b6){b:Nat}(a:freeze bA b=some tX):∃rS,freeze b6 b=some rS/\Rel bA b6 tX rS:=by
 unfold freeze at a⊢;cases g:bA.mem b with
 | none=>rw[g] at a;cases a
 | some i =>
   rw[g] at a;rw[h b i g];simp only at a⊢;cases c:i.ro with
   | true =>
     simp only[c,eG,su] at a⊢;subst a;exact⟨_,rfl,Rel.refl h⟩
   | false =>
     cases e:i.lk with
     | true=>simp[c,e] at a
     | false =>
       simp only[c,e,iD,su] at a⊢;subst a;exact⟨_,rfl,Rel.bT h⟩
theorem V2:∀{v:aK} {bA b6 tX:St},Le bA b6->gp bA v=some tX->∃rS,gp b6 v=some rS/\Rel bA b6 tX rS:=by
 intro v;induction v with
 | mix p q c e =>
   intro bA b6 tX h a;obtain⟨ρ1,i,j⟩:=vn a;obtain⟨ρ2,k,g⟩:=c h i;obtain⟨rS,l,m⟩:=e g.le j;exact⟨rS,by simp only[gp,k,l],g.trans m⟩
 | whole b aI=>intro bA b6 tX h a;exact Po h a
 | part b aI lo n=>intro bA b6 tX h a;exact Po h a
 | _=>intro bA b6 tX h a;obtain rfl:=aE a;exact⟨_,rfl,Rel.refl h⟩
theorem Bp(h:Le bA b6){t:Ty}{x:t.den}{v:aK}(a:xf bA t v=some (x,tX)):∃rS,xf b6 t v=some (x,rS)/\Rel bA b6 tX rS:=by
 unfold xf at a⊢;cases v with
 | data u y =>
   simp only at a⊢;split at a
   .rename_i z i;obtain⟨rfl,rfl⟩:=dz (aE a);exact⟨_,rfl,Rel.refl h⟩
   .cases a
 | _ =>
   simp only at a⊢;split at a
   .rename_i y ρ1 b c;obtain⟨rfl,rfl⟩:=dz (aE a);obtain⟨rS,e,g⟩:=V2 h c;rw[X5 h b,e];exact⟨rS,rfl,g⟩
   .cases a
theorem Da:∀{A:Ty} {x:A.den} {vs:List aK} {bA b6 tX:St},Le bA b6->kA bA A vs=some (x,tX)->∃rS,kA b6 A vs=some (x,rS)/\Rel bA b6 tX rS:=by
 intro A;induction A with
 | pair t r g b =>
   intro x vs bA b6 tX h a;cases vs with
   | nil=>cases a
   | cons v vs =>
     simp only[kA] at a⊢;split at a
     .rename_i p ρ1 i;obtain⟨ρ2,j,c⟩:=Bp h i;split at a
      .rename_i q e k;obtain⟨rfl,rfl⟩:=dz (aE a);obtain⟨rS,l,m⟩:=b c.le k;exact⟨rS,by simp only[j,l],c.trans m⟩
      .cases a
     .cases a
 | unit =>
   intro x vs bA b6 tX h a;cases vs with
   | nil=>obtain⟨rfl,rfl⟩:=dz (aE a);exact⟨_,rfl,Rel.refl h⟩
   | cons v vs=>cases a
 | _=>intro x vs bA b6 tX h a;cases vs<;>cases a
theorem NM{t:Ty}:∀{parts:List (Nat×Operand)} {x c:t.den} {bA b6 tX:St},Le bA b6->(∀o∈parts.map (·.2),cp bA o=cp b6 o)->ga bA t x parts=some (c,tX) ->
  ∃rS,ga b6 t x parts=some (c,rS)/\Rel bA b6 tX rS:=by
 intro parts;induction parts with
 | nil=>intro x c bA b6 tX h g a;obtain⟨rfl,rfl⟩:=dz (aE a);exact⟨_,rfl,Rel.refl h⟩
 | cons p r j =>
   obtain⟨k,o⟩:=p;intro x c bA b6 tX h g a;have l:cp bA o=cp b6 o:=g o (by simp);simp only[ga] at a⊢;split at a
   .rename_i u A;split at a
    .rename_i y ρ1 i;rw[l] at i;obtain⟨ρ2,m,e⟩:=Bp h i;split at a
     .rename_i z n;obtain⟨rS,q,s⟩:=j e.le (λv b=>by rw[Bn e.s1,Bn e.s2];exact g v (by simp at b⊢;exact .inr b)) a;exact⟨rS,by simp only[m,n,q],e.trans s⟩
     .cases a
    .cases a
   .cases a
theorem EG{e:Ty}:∀{parts:List (Nat×Operand)} {l i:List e.den} {bA b6 tX:St},Le bA b6->(∀o∈parts.map (·.2),cp bA o=cp b6 o)->fb bA e l parts=some (i,tX) ->
  ∃rS,fb b6 e l parts=some (i,rS)/\Rel bA b6 tX rS:=by
 intro parts;induction parts with
 | nil=>intro x z bA b6 tX h j a;obtain⟨rfl,rfl⟩:=dz (aE a);exact⟨_,rfl,Rel.refl h⟩
 | cons p r n =>
   obtain⟨k,o⟩:=p;intro l i bA b6 tX h j a;have q:cp bA o=cp b6 o:=j o (by simp);simp only[fb] at a⊢;split at a
   .rename_i y ρ1 m;rw[q] at m;obtain⟨ρ2,s,g⟩:=Bp h m;cases b:Nat.blt k l.length with
    | false=>rw[b] at a;cases a
    | true =>
      rw[b] at a;obtain⟨rS,t,u⟩:=n g.le (λv c=>by rw[Bn g.s1,Bn g.s2];exact j v (by simp at c⊢;exact .inr c)) a;exact⟨rS,by simp only[s,eG,t],g.trans u⟩
   .cases a
def lift(a:St)(d:Option Nat)(y:St):St :=
 { slots:=match d with|some d=>λt=>bif Nat.beq t d then y.slots d else a.slots t|none=>a.slots
   mem:=λb=>match y.mem b with|some x=>some x|none=>a.mem b }
theorem Zo(R:Rel bA b6 tX rS)(d:Option Nat)(v:aK):lift b6 d (tX.aS d v)=rS.aS d v:=by
 have a:(λb=>match tX.mem b with|some x=>some x|none=>b6.mem b)=rS.mem:=funext λb=>(R.m b).symm;cases d with
 | none=>simp only[lift,St.aS,a,<-R.s2]
 | some d =>
   simp only[lift,St.aS,St.put,a,<-R.s2]
   congr 1
   funext t;cases c:Nat.beq t d with
   | true=>simp
   | false=>simp
def LT(a:St)(d:Option Nat)(b c:Tree St):Prop:=∀y,b.run=some y->c.run=some (lift a d y)
variable {d:Option Nat}
theorem LT.fail{T:Tree St}:LT b6 d .fail T:=λy h=>by cases h
theorem LT.ret(R:Rel bA b6 tX rS){v:aK}:LT b6 d (.ret<|tX.aS d v) (.ret<|rS.aS d v):=λy h=>by
 obtain rfl:=aE h;rw[Zo R];rfl
theorem LT.V3(R:Rel bA b6 tX rS){k:Nat}{v:aK}:LT b6 (some k) (.ret<|tX.put k v) (.ret<|rS.put k v):=LT.ret (d:=some k) R
theorem LT.store(R:Rel bA b6 tX rS):LT b6 none (.ret tX) (.ret rS):=LT.ret (d:=none) (v:=.undef) R
theorem LT.bif{c:Bool}{t u:Tree St}(h:LT b6 d t u):LT b6 d (bif c then t else .fail) (bif c then u else .fail):=by cases c<;>first|exact LT.fail|exact h
theorem LT.Ts{c a:Bool}{t u:Tree St}(b:c=true->a=true)(h:LT b6 d t u):LT b6 d (bif c then t else .fail) (bif a then u else .fail):=by
 cases c with
 | false=>exact LT.fail
 | true=>rw[b rfl];exact h
theorem LT.need{c:Bool}{t u:Tree St}(h:LT b6 d t u):LT b6 d (.need c t) (.need c u):=λy a=>by
 obtain⟨rfl,b⟩:=ck a;exact h y b
theorem LT.look{T:Type}{o:Option T}{k a:T->Tree St}(h:∀x,LT b6 d (k x) (a x)):LT b6 d (.look o k) (.look o a):=λy b=>by
 obtain⟨x,rfl,c⟩:=bX b;exact h x y c
theorem LT.node{c:Bool}{t e a b:Tree St}(h:LT b6 d t a)(k:LT b6 d e b):LT b6 d (.node c t e) (.node c a b):=λy g=>by
 have:=fP g;cases c with
 | true=>exact h y this
 | false=>exact k y this
theorem LT.bind{α:Type}{t:Tree α}{f g:α->Tree St}(h:∀x,t.run=some x->LT b6 d (f x) (g x)):LT b6 d (t.bind f) (t.bind g):=λy b=>by
 obtain⟨x,a,c⟩:=bind_some b;rw[Tree.run_bind,a];exact h x a y c
theorem LT.aJ(a:Le bA b6){k:Nat}{b:Nat}(g:bA.mem b=b6.mem b){c:aK}{tid:TypeId}{e:Bool}{v:Nat->aK} :
  LT b6 (some k) (bA.aJ b c tid e λaI σ=>.ret (σ.put k<|v aI)) (b6.aJ b c tid e λaI σ=>.ret (σ.put k<|v aI)):=by
 unfold St.aJ;rw[<-g];cases h:bA.mem b with
 | none=>exact LT.V3 (Rel.bT a)
 | some bx =>
   simp only;cases bx.lk with
   | true=>exact LT.fail
   | false=>exact LT.V3 (Rel.bT a)
theorem LT.mem(a:Le bA b6){b:Nat}{f g:Option Box->Tree St}(e:f none=.fail)(h:∀bx,bA.mem b=some bx->LT b6 d (f<|some bx) (g<|some bx)):LT b6 d (f<|bA.mem b) (g<|b6.mem b):=by
 cases c:bA.mem b with
 | none=>rw[e];exact LT.fail
 | some bx=>rw[a b bx c];exact h bx c
end
end Go.Ge
namespace Go.Ge
open RowKit
section
variable {bA b6:St} {d:Option Nat} {cx:Ctx} {nb:Nat} {bf:List Nat} {inl:Nat->List aK->St->Tree (aK×St)}
theorem Ch(a:Le bA b6)(c:∀k,d=some k->bA.mem (nb+k)=b6.mem (nb+k)){b:TypeId}{v:aK}:LT b6 d (js cx nb bf d b v bA) (js cx nb bf d b v b6):=by
 have R:=Rel.refl a;unfold js;cases v with
 | undef=>exact LT.bif (LT.ret R)
 | nJ =>
   simp only;split
   .rename_i k e _;cases cK bf k with
    | true=>exact LT.aJ a (c k rfl)
    | false=>exact LT.V3 R
   .exact LT.ret R
 | _=>exact LT.ret R
theorem Tt(e:Le bA b6){c a b:aK}:LT b6 d (nK d c a b bA) (nK d c a b b6):=by
 have R:=Rel.refl e;unfold nK;split
 .split
  .split
   .exact LT.ret R
   .exact LT.fail
  .exact LT.node (LT.ret R) (LT.ret R)
 .exact LT.fail
theorem Tu(c:Le bA b6){e:TypeId}{a:aK}:LT b6 d (kU cx d e a bA) (kU cx d e a b6):=by
 have R:=Rel.refl c;unfold kU;cases a with
 | cell u x=>exact LT.bif (LT.ret R)
 | ptr b aI p =>
   ((try dsimp only);split<;>first|exact LT.fail|(rename_i g;rw[(c b) _ g];try dsimp only))
   exact LT.bif (LT.bind λx _=>LT.bif (LT.ret R))
 | _=>exact LT.fail
theorem Li{a e:St}(R:Rel bA b6 a e){b g:Nat}{p:List CU}{h:aK->Bool}{v:aK}:LT b6 none (storeAt b g p h v a) (storeAt b g p h v e):=by
 unfold storeAt
 ((try dsimp only);split<;>first|exact LT.fail|(rename_i i;rw[(R.le b) _ i];try dsimp only))
 exact LT.bif (LT.bind λx _=>LT.bif (LT.bind λc _=>LT.store (R.trans<|Rel.bT R.le)))
theorem LT.ajj{c:Bool}{t u a b:Tree St}(h:LT b6 d t u)(e:LT b6 d a b):LT b6 d (bif c then t else a) (bif c then u else b):=by cases c<;>first|exact e|exact h
theorem V4{a e:St}(R:Rel bA b6 a e){b g:Nat}{p:List CU}{n:Nat}{v:aK}:LT b6 none (oh b g p n v a) (oh b g p n v e):=by
 unfold oh
 ((try dsimp only);split<;>first|exact LT.fail|(rename_i h;rw[(R.le b) _ h];try dsimp only))
 exact LT.bif (LT.bind λx _=>LT.bif (LT.bind λc _=>LT.bif (LT.store<|R.trans<|Rel.bT R.le)))
theorem QV(c:Le bA b6){e:List Nat}{g:TypeId}{a v:aK}:LT b6 none (lD cx e g a v bA) (lD cx e g a v b6):=by
 have R:=Rel.refl c;unfold lD;cases a with
 | ptr b aI p =>
   ((try dsimp only);split<;>first|exact LT.fail|(rename_i h;rw[(c b) _ h];try dsimp only))
   refine LT.bif (LT.bind λi _=>?_);split
   .refine LT.bif (LT.ajj (V4 R) ?_);split
    .rename_i y tX j;obtain⟨rS,k,l⟩:=Bp c j;rw[k];exact Li l
    .exact LT.fail
   .exact LT.bif (Li R)
 | _=>exact LT.fail
theorem Zp{n:Int}{a b:Option Operand}(c:∀x∈a.toList++b.toList,cp bA x=cp b6 x):bounds bA n a b=bounds b6 n a b:=by
 unfold bounds;cases a<;>cases b<;>simp only<;>simp at c<;>simp[c]
theorem QW(b:Le bA b6){k:TypeId}{x:aK}{e g:Option Operand}(o:∀x∈e.toList++g.toList,cp bA x=cp b6 x):LT b6 d (lE cx d k x e g bA) (lE cx d k x e g b6):=by
 have R:=Rel.refl b;have a:∀n,bounds bA n e g=bounds b6 n e g:=λn=>Zp o;unfold lE;split
 .rename_i s _;rw[a]
  ((try dsimp only);split<;>first|exact LT.fail|skip)
  exact LT.need (LT.ret R)
 .rw[a];refine LT.bif ?_
  ((try dsimp only);split<;>first|exact LT.fail|skip)
  exact LT.need (LT.ret R)
 .rename_i u c i l n _
  ((try dsimp only);split<;>first|exact LT.fail|(rename_i j;rw[(b c) _ j];try dsimp only))
  refine LT.bif ?_;rw[a]
  ((try dsimp only);split<;>first|exact LT.fail|skip)
  exact LT.need (LT.ret R)
 .rename_i u c i _
  ((try dsimp only);split<;>first|exact LT.fail|(rename_i j;rw[(b c) _ j];try dsimp only))
  refine LT.bif ?_;split
  .refine LT.bif ?_;split
   .exact LT.ret R
   .rw[a]
    ((try dsimp only);split<;>first|exact LT.fail|skip)
    exact LT.need (LT.ret R)
  .exact LT.fail
 .rw[a];refine LT.Ts (λh=>?_) ?_
  .simp only[dF] at h⊢;exact⟨pH b h.1,h.2⟩
  ·((try dsimp only);split<;>first|exact LT.fail|skip)
   exact LT.need (LT.ret R)
 .rename_i m u c i _
  ((try dsimp only);split<;>first|exact LT.fail|(rename_i j;rw[(b c) _ j];try dsimp only))
  refine LT.bif ?_;split
  .rw[a];refine LT.bif ?_
   ((try dsimp only);split<;>first|exact LT.fail|skip)
   exact LT.need (LT.ret R)
  .exact LT.fail
 .exact LT.fail
theorem ab8(c:Le bA b6){b a:Nat}{i:Int}:∀{m k:Nat},LT b6 d (Kw d b a bA i m k) (Kw d b a b6 i m k):=by
 intro m;induction m with
 | zero=>intro k;exact LT.fail
 | succ m e=>intro k;exact LT.node (LT.ret<|Rel.refl c) e
theorem xA(a:Le bA b6){e:TypeId}{x:aK}{i:Int}:LT b6 d (ev cx d e x i bA) (ev cx d e x i b6):=by
 have R:=Rel.refl a;unfold ev;split
 .exact LT.bif (LT.look λ_=>LT.ret R)
 .exact LT.bif (LT.look λ_=>LT.ret R)
 ·((try dsimp only);split<;>first|exact LT.fail|(rename_i b;rw[((λr (c:_=some r)=>Lh a c)) _ b];try dsimp only))
  exact LT.bif (LT.need<|LT.ret R)
 ·((try dsimp only);split<;>first|exact LT.fail|(rename_i b;rw[((λr (c:_=some r)=>Lh a c)) _ b];try dsimp only))
  exact LT.bif (LT.need<|LT.ret R)
 .exact LT.Ts (λh=>pH a h) (LT.need<|LT.ret R)
 .split
  .refine LT.Ts (λh=>?_) (ab8 a);simp only[dF] at h⊢;exact⟨h.1,pH a h.2⟩
  .exact LT.fail
 .exact LT.fail
theorem QX(a:Le bA b6){b:TypeId}{x:aK}{i:Int}:LT b6 d (lF cx d b x i bA) (lF cx d b x i b6):=by
 have R:=Rel.refl a;unfold lF;split
 .refine LT.Ts (λh=>?_) ?_
  .simp only[dF] at h⊢;exact⟨h.1,pH a h.2⟩
  .split
   .exact LT.bif (LT.ret R)
   .exact LT.fail
 .exact xA a
theorem QY(a:Le bA b6){b:TypeId}{x:aK}{i:Int}:LT b6 d (lG cx d b x i bA) (lG cx d b x i b6):=by
 have R:=Rel.refl a;unfold lG;split
 .exact LT.look λ_=>LT.ret R
 .exact LT.bif (LT.look λ_=>LT.ret R)
 .exact LT.fail
theorem Gl(a:Le bA b6){s:TypeId}{x:aK}{k:Nat}:LT b6 d (eU cx d s x k bA) (eU cx d s x k b6):=by
 have R:=Rel.refl a;unfold eU;split
 .refine LT.bif ?_;split
  .exact LT.ret R
  .exact LT.fail
 .refine LT.Ts (λh=>pH a h) ?_;split
  .split
   .exact LT.ret R
   .exact LT.fail
  .split
   .split
    .exact LT.ret R
    .exact LT.fail
   .exact LT.fail
 .exact LT.fail
theorem Lj(a:Le bA b6)(b:∀k,d=some k->bA.mem (nb+k)=b6.mem (nb+k)){s t:TypeId}{x:aK}:LT b6 d (gD cx nb d s t x bA) (gD cx nb d s t x b6):=by
 have R:=Rel.refl a;unfold gD;split
 .exact LT.ret R
 .exact LT.ret R
 .split
  .exact LT.need (LT.aJ a<|b _ rfl)
  .exact LT.fail
 ·((try dsimp only);split<;>first|exact LT.fail|(rename_i c;rw[((λr (e:_=some r)=>Bo a e)) _ c];try dsimp only))
  exact LT.ret R
 .exact LT.fail
theorem Ci(a:Le bA b6)(j:∀k,d=some k->bA.mem (nb+k)=b6.mem (nb+k)){c:TypeId}{s x:aK}:LT b6 d (gV cx nb d c s x bA) (gV cx nb d c s x b6):=by
 have R:=Rel.refl a;unfold gV;split
 .rename_i k e _
  ((try dsimp only);split<;>first|exact LT.fail|(rename_i g;rw[((λr (m:_=some r)=>Zn a m)) _ g];try dsimp only))
  split
  .exact LT.need (LT.aJ a<|j _ rfl)
  .rename_i b h;cases g:bA.mem b with
   | none=>exact LT.fail
   | some i =>
     rw[a b i g];cases n:fZ e bA (.whole b h) with
     | none=>exact LT.fail
     | some l =>
       rw[Bo a n];simp only;cases (i.lk||!afW cx c i.tid) with
       | true=>exact LT.fail
       | false=>exact LT.need (LT.V3<|Rel.bT a)
  .exact LT.fail
 .exact LT.fail
theorem ab9(g:Le bA b6):∀{o:OT} {v:aK} {r},dd bA.mem o v=some r->dd b6.mem o v=some r:=by
 intro o;induction o with
 | zL t=>intro v r h;exact h
 | buf e s =>
   intro v r h;cases v<;>first|(cases h;done)|skip
   rename_i b i;simp only[dd] at h⊢;cases c:bA.mem b with
   | none=>rw[c] at h;cases h
   | some a=>rw[c] at h;rw[g b a c];exact h
 | ref tid o u =>
   intro v r h;cases v<;>first|(cases h;done)|skip
   rename_i b i k;cases k with
   | cons _ _=>cases h
   | nil =>
     simp only[dd] at h⊢;cases c:bA.mem b with
     | none=>rw[c] at h;cases h
     | some a =>
       rw[c] at h;rw[g b a c];simp only at h⊢;cases j:(Nat.beq a.aI i&&!a.buf&&!a.lk&&!a.ro&&Nat.beq a.tid tid) with
       | false=>rw[j] at h;cases h
       | true =>
         rw[j] at h;simp only[eG] at h⊢;cases l:dd bA.mem o a.val with
         | none=>rw[l] at h;cases h
         | some q=>rw[l] at h;rw[u l];exact h
 | pair p q m n =>
   intro v r h;unfold dd at h;split at h
   case h_2=>cases h
   split at h
   case h_2=>cases h
   rename_i x y;cases h;exact xv (m x) (n y)
 | unit=>intro v r h;exact h
 | dK=>intro v r h;exact h
theorem V5(b:Le bA b6):∀{ps:List Bool} {A:Ty} {U:OT} {vs:List aK} {r},eC bA ps A U vs=some r->eC b6 ps A U vs=some r:=by
 intro ps;induction ps with
 | nil=>intro A U vs r h;exact h
 | cons q ps c =>
   intro A U vs r h;cases q with
   | false =>
     cases A<;>first|(cases h;done)|skip
     cases vs with
     | nil=>cases h
     | cons v vs =>
       simp only[eC] at h⊢;split at h
       .rename_i e a;rw[e,c a];exact h
       .cases h
   | true =>
     cases U<;>first|(cases h;done)|skip
     rename_i o U;cases o<;>first|(cases h;done)|skip
     case dK =>
      cases vs with
      | nil=>cases h
      | cons v vs =>
        cases v<;>first|(cases h;done)|skip
        simp only[eC] at h⊢;split at h
        .rename_i a;rw[c a];exact h
        .cases h
     cases vs with
     | nil=>cases h
     | cons v vs =>
       simp only[eC] at h⊢;split at h
       .rename_i e a;rw[ab9 b e,c a];exact h
       .cases h
theorem Rel.kB(a:Le bA b6){U:OT}{y:U.den}{N M:List (Nat×Nat)}:Rel bA b6 (Go.Ge.kB U y N M bA) (Go.Ge.kB U y N M b6) where
 s1:=rfl
 s2:=rfl
 m:=λb=>by
  rw[gE,gE];cases iE U y N (M.map λp=>(p.1,p.2+1)) b with
  | some e=>rfl
  | none =>
    cases h:bA.mem b with
    | some x=>exact a b x h
    | none=>rfl
 nv:=λb h=>by
  rw[gE] at h;cases c:iE U y N (M.map λp=>(p.1,p.2+1)) b with
  | some e=>rw[c] at h;cases h
  | none=>rw[c] at h;exact h
theorem Zq(a:Le bA b6){f:Nat}{b:List aK}(e:find cx.con f≠none\/find cx.Nn f=none):LT b6 d (wc cx zV d f b bA) (wc cx inl d f b b6):=by
 have R:=Rel.refl a;unfold wc;split
 .split
  .have key:∀{A:Ty} {vs:List aK} {x:A.den},ig bA A vs=some x->ig b6 A vs=some x:=by
    intro A;induction A with
    | pair t r l g =>
      intro vs x c;cases vs with
      | nil=>cases c
      | cons v vs =>
        simp only[ig] at c⊢;split at c
        .rename_i p q m h;rw[X5 a m,g h];exact c
        .cases c
    | unit=>intro vs x c;cases vs<;>exact c
    | _=>intro vs x c;cases vs<;>cases c
   ((try dsimp only);split<;>first|exact LT.fail|(rename_i h;rw[((λr (i:_=some r)=>key i)) _ h];try dsimp only))
   exact LT.look λ_=>LT.ret R
  .split
   .rename_i x tX n;obtain⟨rS,o,s⟩:=Da a n;rw[o];exact LT.look λ_=>LT.ret s
   .exact LT.fail
 .rename_i u;rw[e.resolve_left λq=>q u];split
  .rename_i z;cases z
  .split
   .rename_i k C;cases i:eC bA k.ps k.A k.U b with
    | none=>exact λy j=>by cases j
    | some r =>
      rw[V5 a i];exact LT.bif (LT.look λy=>LT.ret (Rel.kB a))
   .exact λy j=>by cases j
theorem LT.X6{a c:St}(R:Rel bA b6 a c){k:Nat}{b:Nat}(l:bA.mem b=b6.mem b){g:aK}{i:TypeId}{j:Bool}{v:Nat->aK} :
  LT b6 (some k) (a.aJ b g i j λe σ=>.ret (σ.put k<|v e)) (c.aJ b g i j λe σ=>.ret (σ.put k<|v e)):=by
 have n:a.mem b=c.mem b:=by
  rw[R.m b];cases h:a.mem b with
  | some x=>rfl
  | none=>simp only;rw[<-l,R.nv b h]
 unfold St.aJ;rw[<-n];cases a.mem b with
 | none=>exact LT.V3 (R.trans<|Rel.bT R.le)
 | some o =>
   simp only;cases o.lk with
   | true=>exact LT.fail
   | false=>exact LT.V3 (R.trans<|Rel.bT R.le)
theorem QZ(b:Le bA b6)(c:∀k,d=some k->bA.mem (nb+k)=b6.mem (nb+k)){e:Ty}{a:List aK}:LT b6 d (lH nb e d a bA) (lH nb e d a b6):=by
 unfold lH;split
 .split
  .rename_i l tX g;obtain⟨rS,h,i⟩:=Bp b g;rw[h];exact LT.bif (LT.need<|LT.X6 i<|c _ rfl)
  .exact LT.fail
 .exact LT.fail
theorem Q0(b:Le bA b6)(e:∀k,d=some k->bA.mem (nb+k)=b6.mem (nb+k)){g:Nat}{a:List aK}:LT b6 d (lI nb g d a bA) (lI nb g d a b6):=by
 unfold lI;split
 .exact LT.fail
 .exact LT.fail
 .exact LT.bif (LT.aJ b (e _ rfl) (v:=λc=>.fn g [(_,c)]))
 .exact LT.fail
theorem Zr{c i:St}(h:Le c i){e:Ty}{v:aK}{r:Nat×Nat×Box×List e.den}(a:yd e c v=some r):yd e i v=some r:=by
 cases v with
 | part b aI lo n =>
   simp only[yd] at a⊢;cases g:c.mem b with
   | none=>rw[g] at a;cases a
   | some j=>rw[g] at a;rw[h b j g];exact a
 | whole b aI =>
   simp only[yd] at a⊢;cases g:c.mem b with
   | none=>rw[g] at a;cases a
   | some j=>rw[g] at a;rw[h b j g];exact a
 | _=>cases a
theorem V6(i:Le bA b6){e A:Ty}{g:Bool}{a:List e.den->A.den->Option (List e.den)}{c:List aK}:LT b6 d (qU e A g a d c bA) (qU e A g a d c b6):=by
 unfold qU;split
 .split
  .rename_i x tX m;obtain⟨rS,n,h⟩:=Da i m;rw[n];simp only;split
   .rename_i b o p l j;rw[Zr h.le j];simp only;refine LT.look λq=>?_;cases g with
    | true =>
      cases d with
      | none=>exact LT.fail
      | some k=>exact LT.V3 (h.trans<|Rel.bT h.le)
    | false=>cases d<;>exact LT.bif (LT.ret<|h.trans<|Rel.bT h.le)
   .exact LT.fail
  .exact LT.fail
 .exact LT.fail
theorem V7(a:Le bA b6)(l:∀k,d=some k->bA.mem (nb+k)=b6.mem (nb+k)){f:Nat}{b:List aK}(h:uh cx bf d f=none->(find cx.con f≠none\/find cx.Nn f=none)\/(find cx.con f=none/\∃e,find cx.Nn f=some (.clone e)))(i:∀s,uh cx bf d f=some s->(∃e,s=.clone e)\/(∃e A r q,s=.own e A r q)\/∃g,s=.D2 g) :
  LT b6 d (ti cx nb bf zV d f b bA) (ti cx nb bf inl d f b b6):=by
 unfold ti;split
 .exact QZ a l
 .exact V6 a
 .exact Q0 a l
 .rename_i m n o;have p:uh cx bf d f=none:=by
   cases c:uh cx bf d f with
   | none=>rfl
   | some s =>
     rcases i s c with ⟨e,rfl⟩|⟨e,A,r,q,rfl⟩|⟨g,rfl⟩
     .exact absurd c (m e)
     .exact absurd c (n e A r q)
     .exact absurd c (o g)
  rcases h p with j|⟨j,e,t⟩
  .exact Zq a j
  .unfold wc;rw[j,t];exact LT.fail
theorem Tv{s:Y2}{f:Nat}(h:uh cx bf d f=some s):(∃e,s=.clone e)\/(∃e A r q,s=.own e A r q)\/∃g,s=.D2 g:=by
 unfold uh at h;split at h
 .rename_i e a;split at h
  .obtain rfl:=aE h;exact .inl ⟨e,rfl⟩
  .cases h
 .obtain rfl:=aE h;exact .inr (.inl ⟨_,_,_,_,rfl⟩)
 .obtain rfl:=aE h;exact .inr (.inr ⟨_,rfl⟩)
 .cases h
theorem Zs:∀{ps:List (Nat×Operand)} {k:Nat},(∀x∈ps.map (·.2),cp bA x=cp b6 x)->zU bA k ps=zU b6 k ps:=by
 intro ps;induction ps with
 | nil=>intro k _;rfl
 | cons p r b =>
   obtain⟨j,x⟩:=p;intro k h;simp only[zU];rw[h x<|by simp,b (k:=k+1) λy a=>h y (by simp at a⊢;exact .inr a)]
theorem Tw{a:List mR}:∀{ps:List (Nat×Operand)} {v:aK},(∀x∈ps.map (·.2),cp bA x=cp b6 x)->mj bA a v ps=mj b6 a v ps:=by
 intro ps;induction ps with
 | nil=>intro v _;rfl
 | cons p r c =>
   obtain⟨k,x⟩:=p;intro v h;simp only[mj];rw[h x<|by simp];have e:∀u,mj bA a u r=mj b6 a u r:=λu=>c (v:=u) λy b=>h y (by simp at b⊢;exact .inr b);simp only[e]
theorem Zt(C:Le bA b6){o:Oper}{ge:Option Nat}(hge:nL o b6=ge)(I:cls cx ge o≠3)(j:∀x∈eY o.op,cp bA x=cp b6 x)(G:∀k,o.dst=some k->bA.mem (nb+k)=b6.mem (nb+k)) :
  LT b6 o.dst (pw cx nb bf zV o bA) (pw cx nb bf inl o b6):=by
 have R:=Rel.refl C;unfold pw;cases D:o.op with
 | move x=>simp only[D,eY] at j⊢;rw[j x<|by simp];exact Ch C G
 | assign x=>simp only[D,eY] at j⊢;rw[j x<|by simp];exact Ch C G
 | pick c a b=>simp only[D,eY] at j⊢;rw[j c<|by simp,j a (by simp),j b (by simp)];exact Tt C
 | alloc e =>
   simp only;split
   .rename_i k t E hT;rw[E];unfold tT;split
    .exact absurd (by simp[cls,D,hT]) I
    .exact LT.aJ C (G k E)
   .rename_i k E hT;rw[E];split
    .rename_i V;exact absurd (by simp[cls,D,hT,V]) I
    .exact LT.bif (LT.aJ C<|G k E)
   .exact LT.fail
 | box e x =>
   simp only[D,eY] at j⊢;rw[j x<|by simp];cases E:o.dst with
   | none=>exact LT.fail
   | some k =>
     have V:find cx.sx e=none:=by
      cases V:find cx.sx e with
      | none=>rfl
      | some fs=>exact absurd (by simp[cls,D,V]) I
     cases cp b6 x<;>simp only[D8,V]<;>first|exact LT.fail|exact LT.aJ C (G k E)
 | build t ps =>
   simp only[D,eY] at j⊢;split
   .split
    .rename_i d0 k0 hz;obtain⟨E,_⟩:=z7 hz;unfold uf;rw[E];split
     .exact LT.bif (LT.aJ C<|G d0 E)
     .exact LT.fail
    split
    .rename_i L;obtain⟨rS,M,K⟩:=NM C j L;rw[M];exact LT.ret K
    .exact LT.fail
   .split
    .rename_i L;obtain⟨rS,M,K⟩:=EG C j L;rw[M];exact LT.ret K
    .exact LT.fail
   .split
    .split
     .rw[Tw j];split
      .exact LT.ret R
      .exact LT.ret R
      .exact LT.fail
     .exact LT.fail
    .exact LT.fail
   .exact LT.fail
 | buildSlice t n ps =>
   simp only[D,eY] at j⊢;split
   .split
    .rename_i k W ajk;have E:=(C8 W).1;rw[E];exact LT.aJ C (G k E)
    .refine LT.bif ?_;split
     .rename_i L;obtain⟨rS,M,K⟩:=EG C j L;rw[M];split
      .rename_i k E;dsimp only;rw[vt E];exact LT.X6 K (G k<|vt E)
      .exact LT.ret K
     .exact LT.fail
   .unfold Bi;rw[Zs j];split
    .rename_i k e v E _ _;rw[E];exact LT.bif (LT.aJ C<|G _ E)
    .exact LT.fail
   .exact LT.fail
 | load t a=>simp only[D,eY] at j⊢;rw[j a<|by simp];exact Tu C
 | store t a x =>
   simp only[D,eY] at j⊢;rw[j a<|by simp,j x (by simp)];cases U:ya x with
   | true=>exact absurd (by simp[cls,D,U]) I
   | false =>
   cases E:o.dst with
   | none =>
     rw[abt];exact QV C
   | some k=>exact LT.fail
 | nilCheck x =>
   simp only[D,eY] at j⊢;rw[j x<|by simp];cases cp b6 x with
   | ptr b aI p=>exact LT.Ts (λh=>pH C h) (LT.ret R)
   | cell t x=>exact LT.ret R
   | fn f c=>exact LT.ret R
   | _=>exact LT.fail
 | binOp op xt x y yt =>
   simp only[D,eY] at j⊢;rw[j x<|by simp,j y (by simp)];intro z hz;obtain⟨v,X,h2⟩:=bind_some hz;have G:(abD b6 (find cx.T xt) (cK cx.kT xt) op (cp b6 x)<|cp b6 y).run=some v:=by
    unfold abD at X⊢;split at X
    .obtain⟨H,I⟩:=aw X;simp only[dF] at H;rw[pH C H.1,H.2];exact I
    .obtain⟨H,I⟩:=aw X;simp only[dF] at H;rw[pH C H.1,H.2];exact I
    .exact X
   rw[Tree.run_bind,G];exact LT.ret R z h2
 | unOp op t x=>simp only[D,eY] at j⊢;rw[j x<|by simp];exact LT.bind λ_ _=>LT.ret R
 | convert s t x=>simp only[D,eY] at j⊢;rw[j x<|by simp];exact Lj C G
 | makeFunc fn first F =>
   simp only[D,eY] at j⊢;cases fn with
   | func f =>
     simp only;have:F.toList.map (cp bA)=F.toList.map (cp b6):=Qj λx Y=>j x (mP _ Y);rw[this];split
     .exact LT.bif (LT.ret R)
     .rename_i x Y _;rw[j x<|nB _<|by rw[Y];exact zO.2 rfl];split
      .exact LT.bif (LT.ret R)
      .exact LT.fail
     .exact LT.fail
   | _=>exact LT.fail
 | slice t x lo hi m =>
   simp only[D,eY] at j⊢;cases m with
   | some m=>exact LT.fail
   | none =>
     simp only;rw[j x<|by simp];exact QW C λy hy=>j y (oA _ hy)
 | fieldAddr s x k=>simp only[D,eY] at j⊢;rw[j x<|by simp];exact Gl C
 | field xt x k =>
   simp only[D,eY] at j⊢;rw[j x<|by simp];split
   .refine LT.bif ?_;split
    .exact LT.ret R
    .exact LT.fail
   .exact LT.fail
 | indexAddr t x i =>
   simp only[D,eY] at j⊢;rw[j x<|by simp,j i (by simp)];split
   .cases cK bf 5000000 with
    | true=>exact QX C
    | false=>exact xA C
   .exact LT.fail
 | index t x i =>
   simp only[D,eY] at j⊢;rw[j x<|by simp,j i (by simp)];split
   .exact QY C
   .exact LT.fail
 | makeSlice t l c =>
   simp only[D,eY] at j⊢;rw[j l<|by simp,j c (by simp)];cases E:o.dst with
   | none=>exact LT.fail
   | some k =>
     split
     .rename_i k' _ _ _ _ _ hk' _ _ _;obtain rfl:=aE hk';exact LT.need (LT.need<|LT.aJ C<|G k E)
     .exact LT.fail
 | extract t k =>
   simp only[D,eY] at j⊢;rw[j t<|by simp];split
   ·((try dsimp only);split<;>first|exact LT.fail|skip)
    exact LT.ret R
   .exact LT.fail
 | call c =>
   simp only[D,eY] at j⊢;have O:c.args.toList.map (cp bA)=c.args.toList.map (cp b6):=Qj λx Y=>j x (mP _ Y);unfold ui;rw[O];cases H:c.callee with
   | builtin b =>
     simp only;split
     .rename_i x t _ _;cases XX (find cx.T t) x with
      | true =>
        simp only[eG]
        ((try dsimp only);split<;>first|exact LT.fail|(rename_i U;rw[((λr (hr:_=some r)=>ab7 C hr)) _ U];try dsimp only))
        exact LT.ret R
      | false =>
        simp only[iD];split
        .refine LT.Ts (λh=>?_) (LT.ret R);simp only[dF] at h⊢;exact⟨pH C h.1,h.2⟩
        .exact LT.fail
     .split
      .exact Ci C G
      .exact Ci C G
      .exact LT.fail
     .exact absurd (by simp[cls,D,H]) I
     .exact absurd (by simp[cls,D,H]) I
     .exact LT.bind λ_ _=>LT.ret R
     .exact LT.bind λ_ _=>LT.ret R
     .exact LT.fail
   | value f =>
     simp only;rw[j f<|by rw[H];simp];split
     .rename_i g F j;have S:(F.all λb=>live bA b.1 b.2)=true->(F.all λb=>live b6 b.1 b.2)=true:=λh=>by
       rw[va] at h⊢;exact λb hm=>pH C (h b hm)
      refine LT.Ts S (V7 C G (λU=>?_) λs hs=>Tv hs);have heq:ge=some (SS g):=by rw[<-hge];simp[nL,D,H,j]
      cases Z:find cx.con (SS g) with
      | some c=>exact .inl (.inl<|by simp)
      | none =>
        cases J:find cx.Nn (SS g) with
        | none=>exact .inl (.inr rfl)
        | some s =>
          refine .inr ⟨rfl,?_⟩;cases s with
          | clone e=>exact⟨e,rfl⟩
          | own e A r q=>simp[uh,J] at U
          | D2 g=>simp[uh,J] at U
          | _=>exact absurd (by simp[cls,D,H,heq,Z,J]) I
     .exact LT.fail
   | invoke r m =>
     simp only;rw[j r<|by rw[H];simp];unfold qz;split
     .split
      .rename_i L;obtain⟨rS,M,K⟩:=Da C L;rw[M];exact LT.look λ_=>LT.ret K
      .exact LT.fail
     .exact LT.fail
 | makeInterface u x =>
   simp only[D,eY] at j⊢;rw[j x<|by simp];unfold qy;split
   .split
    .split
     .rename_i L;obtain⟨rS,M,K⟩:=Bp C L;rw[M];exact LT.ret K
     .exact LT.fail
    .exact LT.fail
   .exact LT.fail
 | _=>exact LT.fail
end
end Go.Ge
namespace Go.Ge
open RowKit
theorem nN{l:List Nat}{t:Nat}:cK l t=true↔t∈l:=by
 induction l with
 | nil=>simp[cK]
 | cons i r a =>
   simp only[cK,x7,fY,a];constructor
   .rintro(h|h)
    .exact .inl (eT h)
    .exact .inr h
   .rintro(h|h)
    .subst h;exact .inl (by simp)
    .exact .inr h
theorem ju{l:List Nat}{t:Nat}:cK l t=false↔t∉l:=by
 rw[<-nN];simp
theorem V8{l:List Operand}{t:Nat}(h:Operand.tmp t∈l):t∈tmpsOf l:=by
 induction l with
 | nil=>cases h
 | cons x r b =>
   rcases fY.1 h with a|a
   .subst a;exact oB ..
   .clear h;have h:=a;cases x<;>simp only[tmpsOf]
    case tmp k=>exact oA _ (b h)
    all_goals exact b h
section
variable {cx:Ctx} {nb:Nat} {bf:List Nat} {inl:Nat->List aK->St->Tree (aK×St)} {σ aV τ:St}
structure Tz (cx:Ctx) (nb:Nat) (o:Oper) (fp:Fp):Prop where
 own:∀k,o.dst=some k->nb+k∈fp.rd
 sub:∀b∈fp.wr,b∈fp.rd
 w1:cls cx fp.fn o≠0->∀k,o.dst=some k->nb+k∈fp.wr
 w2:cls cx fp.fn o≠0->cls cx fp.fn o≠1->∀b∈fp.rd,b∈fp.wr
 c3:cls cx fp.fn o≠3
theorem JU(o:Oper)(j:St)(h:(xk cx nb o j).JN=false):Tz cx nb o (xk cx nb o j):=by
 have a:∀k,o.dst=some k->nb+k∈Go.Ge.own nb o:=λk c=>by simp[Go.Ge.own,c]
 unfold xk at h⊢;dsimp only at h⊢;split at h<;>rename_i g
 .exact⟨λk c=>nB _ (a k c),λb e=>(nomatch e),λi=>absurd g i,λi=>absurd g i,by rw[g];decide⟩
 .exact⟨λk c=>nB _ (a k c),λb e=>nB _ e,λ_ k c=>a k c,λ_ l=>absurd g l,by rw[g];decide⟩
 .exact⟨λk c=>nB _ (a k c),λb e=>e,λ_ k c=>nB _ (a k c),λ_ _ b e=>e,by rw[g];decide⟩
 .cases h
theorem aep{ts c:List Nat}:Le { (σ.only ts c) with slots:=σ.slots } σ:=λb g a=>by
 simp only[St.only] at a;cases e:cK c b with
 | true=>rw[e] at a;exact a
 | false=>rw[e] at a;cases a
theorem TA{ts a:List Nat}:Le (σ.only ts a) σ:=λb c e=>aep (ts:=ts) b c e
theorem TB{l:List Operand}{a:List Nat}{x:Operand}(b:x∈l):cp (σ.only (tmpsOf l) a) x=cp σ x:=by
 cases x with
 | tmp t =>
   have:=nN.2 (V8 b);simp only[cp,St.only,this,eG]
 | _=>rfl
theorem aeq{a b:Option Nat}(h:ag9 a b=true):a=b:=by
 cases a<;>cases b<;>first|rfl|cases h|exact congrArg some (eT h)
theorem NN(o:Oper)(a:List Nat):nL o (σ.only (tmpsOf<|eY o.op) a)=nL o σ:=by
 unfold nL;split
 .rename_i c b;split
  .rename_i x e;rw[TB<|by rw[b];simp[eY,e]]
  .rfl
 .rfl
theorem Bq{a:Fp}{o:Oper}(g:a.JN=false->Tz cx nb o a)(i:(ik cx nb bf inl a o σ).run=some aV):(pw cx nb bf inl o σ).run=some aV:=by
 unfold ik at i;cases c:a.JN with
 | true=>rw[c] at i;exact i
 | false =>
   have g:=g c;rw[c] at i;simp only[iD] at i;obtain⟨τ,j,y⟩:=bind_some i;obtain rfl:=aE y;obtain⟨e,j⟩:=aw j;have e:=aeq e;have l:nL o σ=a.fn:=by rw[<-e];exact(NN ..).symm
   have z:=Zt (cx:=cx) (nb:=nb) (bf:=bf) (inl:=inl) (bA:=σ.only (tmpsOf<|eY o.op) a.rd) (b6:=σ) TA (o:=o) l g.c3 (λx A=>TB A)
    (λk r=>by simp only[St.only,nN.2 (g.own k r),eG]) τ j
   rw[z];have hC:=V1 (cx:=cx) (nb:=nb) (bf:=bf) (σ:=σ.only (tmpsOf<|eY o.op) a.rd) (o:=o) (p:=λb=>b∈a.wr) e g.c3 (λs k r=>g.w1 s k r) (λs j b t=>by
    refine g.w2 s j b ?_;simp only[St.only] at t;cases n:cK a.rd b with
    | true=>exact nN.1 n
    | false=>rw[n] at t;exact absurd rfl t) τ j
   have n:(λb=>match τ.mem b with|some x=>some x|none=>σ.mem b)=λb=>bif cK a.wr b then τ.mem b else σ.mem b:=by
    funext b;have u:b∈a.rd->(σ.only (tmpsOf<|eY o.op) a.rd).mem b=σ.mem b:=λh=>by simp only[St.only,nN.2 h,eG]
    cases v:cK a.wr b with
    | true =>
      simp only[eG];cases q:τ.mem b with
      | some x=>rfl
      | none =>
        simp only;rw[<-u (g.sub b<|nN.1 v)];rcases hC b with k|k
        .rw[<-k,q]
        .exact absurd q k.1
    | false =>
      simp only[iD];rcases hC b with k|k
      .rw[k];cases q:(σ.only (tmpsOf<|eY o.op) a.rd).mem b with
       | none=>rfl
       | some x=>simp only;exact(TA b x q).symm
      .exact absurd k.2 (ju.1 v)
   unfold lift lay;exact congrArg (λm=>some (St.mk _ m)) n
theorem Br{a b:List Nat}(h:Y8 a b=true){x:Nat}(c:x∈a):x∉b:=by
 simp only[Y8,va,kS] at h;exact ju.1 (h x c)
theorem apart_spec{x y:Oper}{f g:Fp}(h:apart x y f g=true):f.JN=false/\g.JN=false/\(∀b∈f.wr,b∉g.rd)/\(∀b∈g.wr,b∉f.rd) /\
  (∀d,x.dst=some d->d∉tmpsOf (eY y.op))/\(∀d,y.dst=some d->d∉tmpsOf (eY x.op))/\(∀d e,x.dst=some d->y.dst=some e->d≠e):=by
 simp only[apart,dF,kS] at h;obtain⟨⟨⟨⟨⟨k,l⟩,m⟩,n⟩,a⟩,i⟩:=h;refine⟨k,l,λb j=>Br m j,λb j=>Br n j,λd c=>?_,λd c=>?_,λd e c o=>?_⟩
 .rw[c] at a;simp only[dF,kS] at a;exact ju.1 a.1
 .rw[c] at i;simp only[kS] at i;exact ju.1 i
 .rw[c,o] at a;simp only[dF,kS] at a;intro q;subst q;simp at a
theorem EH{d:Option Nat}{g a c:List Nat}(i:∀k,d=some k->k∉a)(j:∀b∈g,b∉c):(lay σ d g τ).only a c=σ.only a c:=by
 unfold St.only lay
 congr 1
 .funext t;cases h:cK a t with
  | false=>rfl
  | true =>
    simp only[eG];cases d with
    | none=>rfl
    | some k =>
      have:t≠k:=λe=>i k rfl (by rw[<-e];exact nN.1 h);simp[iF this]
 .funext b;cases h:cK c b with
  | false=>rfl
  | true =>
    have:b∉g:=λl=>j b l (nN.1 h);simp[ju.2 this]
theorem aca{l g:Oper}{c h:Fp}{i j:St}(o:apart l g c h=true)(p:∀b∈c.wr,b∈c.rd)(m:(ik cx nb bf inl c l σ).run=some i)(n:(ik cx nb bf inl h g i).run=some j) :
  ∃a,(ik cx nb bf inl h g σ).run=some a/\(ik cx nb bf inl c l a).run=some j:=by
 obtain⟨v,x,C,y,D,E,F⟩:=apart_spec o;unfold ik at m n⊢;rw[v] at m;rw[x] at n;simp only[v,x,iD] at m n⊢;obtain⟨G,H,I⟩:=bind_some m;obtain rfl:=aE I;obtain⟨q,z,J⟩:=bind_some n;obtain rfl:=aE J;rw[EH D C] at z;refine⟨lay σ g.dst h.wr q,by rw[Tree.run_bind,z];rfl,?_⟩;rw[EH E y,Tree.run_bind,H];show some _=some _
 congr 1
 unfold lay
 congr 1
 .cases hi:l.dst with
  | none=>rfl
  | some k =>
    cases K:g.dst with
    | none=>rfl
    | some e =>
      have r:=F k e hi K;funext t;dsimp only;by_cases s:t=k
      .subst s;simp[iF r]
      .by_cases A:t=e
       .subst A;simp[iF s]
       .simp[iF s,iF A]
 .funext b;dsimp only;cases u:cK c.wr b with
  | false=>rfl
  | true =>
    have:b∉h.wr:=λL=>y b L (p b<|nN.1 u);simp[ju.2 this]
inductive Reach (ops:Array Oper):Nat->Nat->Prop where
 | step {i:Nat} {o:Oper} {e:Edge} (h:ops[i]?=some o) (he:e∈o.after) (hb:Region.binds .any e=true):Reach ops i e.on
 | more {i k:Nat} {o:Oper} {e:Edge} (h:ops[i]?=some o) (he:e∈o.after) (hb:Region.binds .any e=true) (r:Reach ops e.on k):Reach ops i k
def Q1(b:Array Oper)(a:Array Bool):Prop:=∀i o e,a.getD i false=true->b[i]?=some o->e∈o.after->Region.binds .any e=true->a.getD e.on false=true
theorem Reach.listed{b:Array Oper}{a:Array Bool}(j:Q1 b a){i k:Nat}(h:Reach b i k):a.getD i false=true->a.getD k false=true:=by
 induction h with
 | step h c e=>exact λg=>j _ _ _ g h c e
 | more h c e r l=>exact λg=>l (j _ _ _ g h c e)
theorem Reach.ready{c:Array Oper}{a:Array Bool}(l:Q1 c a){i k:Nat}(h:Reach c i k)(m:i∈Region.ready .any c a):a.getD k false=true:=by
 obtain⟨_,o,j,b⟩:=mem_ready.1 m;cases h with
 | step h e g =>
   obtain rfl:=aE (j.symm.trans h);exact b _ e g
 | more h e g r =>
   obtain rfl:=aE (j.symm.trans h);exact r.listed l (b _ e g)
theorem Q1.list{b:Array Oper}{a:Array Bool}(s:Q1 b a){i:Nat}(t:i∈Region.ready .any b a):Q1 b (a.setIfInBounds i true):=by
 obtain⟨_,u,g,c⟩:=mem_ready.1 t;have up:∀k,a.getD k false=true->(a.setIfInBounds i true).getD k false=true:=by
  intro k l;by_cases e:i=k
  .subst e;rcases ud i a.size with h|h
   .simp[h]
   .simp[SB h] at l
  .rw[getD_set_ne false e];exact l
 intro j o e m n p r;by_cases q:i=j
 .subst q;obtain rfl:=aE (g.symm.trans n);exact up _ (c e p r)
 .rw[getD_set_ne false q] at m;exact up _ (s j o e m n p r)
theorem TC{a:Array Bool}{i:Nat}(e:a.getD i true=false)(b:a.getD i false=true):False:=by
 rcases ud i a.size with c|c
 .simp[c] at e b;rw[e] at b;cases b
 .simp[SB c] at b
def qZ(ops:Array Oper)(a:List zW):Prop:=∀k,∀b,Nat.testBit (maskAt a k) b=true->Reach ops k b
theorem Db{c:Array Oper}{a:List zW}(q:qZ c a){i:Nat}{o:Oper}(n:c[i]?=some o){b:Nat}(h:Nat.testBit (mask a o) b=true):Reach c i b:=by
 unfold mask at h;have key:∀l:List Edge,(∀e∈l,e∈o.after)->Nat.testBit (tU a l) b=true->Reach c i b:=by
  intro l;induction l with
  | nil=>intro _ h;simp[tU] at h
  | cons e r p =>
    intro j h;simp only[tU] at h;cases k:Region.binds .any e with
    | false=>rw[k] at h;exact p (λm g=>j m (oA _ g)) h
    | true =>
      rw[k] at h;simp only[eG,Nat.testBit_or,x7] at h;rcases h with (h|h)|h
      .exact p (λm g=>j m (oA _ g)) h
      .rw[Nat.testBit_two_pow] at h;have:e.on=b:=by simpa using h
       subst this;exact .step n (j e<|oB ..) k
      .exact .more n (j e<|oB ..) k (q _ _ h)
 exact key _ (λe s=>by simpa using s) h
theorem qZ.nil{ops:Array Oper}:qZ ops []:=λk b h=>by simp[maskAt] at h
theorem qZ.cons{ops:Array Oper}{a:List zW}(e:qZ ops a){i:Nat}{o:Oper}{f:Fp}(g:ops[i]?=some o):qZ ops ((i,o,f,mask a o)::a):=by
 intro k b h;simp only[maskAt] at h;cases c:Nat.beq i k with
 | true =>
   rw[c] at h;obtain rfl:=eT c;exact Db e g h
 | false=>rw[c] at h;exact e k b h
def acb(b:Ctx)(c:Nat)(e:List Nat)(inl:Nat->List aK->St->Tree (aK×St))(a:Array Oper)(g:Nat->Fp)(Q:St->Prop):Nat->Array Bool->St->Prop
 | 0,listed,σ=>Region.ready .any a listed=[]/\Q σ
 | n+1,listed,σ=>(Region.ready .any a listed=[]->Q σ) /\
  ∀i∈Region.ready .any a listed,∃o aV,a[i]?=some o/\o.guard=none/\(ik b c e inl (g i) o σ).run=some aV/\acb b c e inl a g Q n (listed.setIfInBounds i true) aV
variable {ops:Array Oper} {fp:Nat->Fp} {Q:St->Prop}
theorem V9{i:Nat}{o:Oper}(D:ops[i]?=some o)(u:o.guard=none)(v:∀b∈(fp i).wr,b∈(fp i).rd):∀(n:Nat) (listed:Array Bool) (σ bA:St),
  Q1 ops listed->(∀j s,ops[j]?=some s->j≠i->listed.getD j true=false->Reach ops j i\/apart o s (fp i) (fp j)=true) ->
  i∈Region.ready .any ops listed->(ik cx nb bf inl (fp i) o σ).run=some bA->acb cx nb bf inl ops fp Q n (listed.setIfInBounds i true) bA->acb cx nb bf inl ops fp Q (n+1) listed σ:=by
 intro n;induction n with
 | zero =>
   intro listed σ bA c e p z H;refine⟨λh=>(by rw[h] at p;cases p),λj t=>?_⟩;by_cases a:j=i
   .subst a;exact⟨o,bA,D,u,z,H⟩
   .have:=ready_mono t a;rw[H.1] at this;cases this
 | succ n F =>
   intro listed σ bA c e p z H;refine⟨λh=>(by rw[h] at p;cases p),λj t=>?_⟩;by_cases a:j=i
   .subst a;exact⟨o,bA,D,u,z,H⟩
   .obtain⟨s,b6,q,A,G,I⟩:=H.2 j (ready_mono t a);obtain⟨g,J,l,E⟩:=mem_ready.1 t;rw[q] at l;obtain rfl:=aE l;have r:apart o s (fp i) (fp j)=true:=by
     rcases e j s q a g with K|r
     .exact(TC (mem_ready.1 p).1<|K.ready c t).elim
     .exact r
    obtain⟨m,L,M⟩:=aca r v z G;refine⟨s,m,q,A,L,F (listed.setIfInBounds j true) m b6 (c.list t) (λk O R C x=>e k O R C ?_) (ready_mono p<|Kt a) M ?_⟩
    .by_cases y:j=k
     .subst y;exact g
     .rw[getD_set_ne true y] at x;exact x
    .rw[afv _ _ a];exact I
end
end Go.Ge
namespace Go.Ge
open RowKit
section
variable {P:Program} {B:qA} {N:Nat} {γ:Gh} {cx:Ctx} {nb:Nat} {bf:List Nat} {inl:Nat->List aK->St->Tree (aK×St)} {σ aV τ:St} {ops:Array Oper} {fp:Nat->Fp}
def aer(cx:Ctx)(nb:Nat)(bf:List Nat)(inl:Nat->List aK->St->Tree (aK×St))(ops:Array Oper)(fp:Nat->Fp):Nat->List Oper->St->St->Prop
 | _,[],σ,aV=>σ=aV
 | k,o::l,σ,aV=>o.guard=none/\((fp k).JN=false->Tz cx nb o (fp k))/\((fp k).JN=true->(fp k).wr=[])/\(∀e∈o.after,Region.binds .any e=true->e.on<k) /\
  (∀j a,l[j]?=some a->Reach ops (k+1+j) k\/apart o a (fp k) (fp<|k+1+j)=true) /\
  ∃bA,(ik cx nb bf inl (fp k) o σ).run=some bA/\aer cx nb bf inl ops fp (k+1) l bA aV
theorem Lk{o:Oper}{f a:Fp}{k m c:Nat}{b:Oper}{r:List zW}(h:loose o f m ((k,b,a,c)::r)=true):(Nat.testBit m k=true\/apart b o a f=true)/\loose o f m r=true:=by
 simp only[loose,dF,x7] at h;exact h
theorem acd(o:Oper)(a:St)(h:(xk cx nb o a).JN=true):(xk cx nb o a).wr=[]:=by
 unfold xk at h⊢;dsimp only at h⊢;split at h<;>first|cases h|skip
 rfl
theorem Q2:∀(l:List Oper) (k:Nat) (done:List zW) (σ:St),(∀j o,l[j]?=some o->ops[k+j]?=some o)->qZ ops done->(Kz cx nb bf inl (number k l) done σ).run=some aV ->
  ∃g:List (Fp×Nat),g.length=l.length/\(∀j m b,g[j]?=some m->Nat.testBit m.2 b=true->Reach ops (k+j) b) /\
   ∀fp:Nat->Fp,(∀j f,g[j]?=some f->fp (k+j)=f.1)->aer cx nb bf inl ops fp k l σ aV/\∀j o f,l[j]?=some o->g[j]?=some f->loose o (fp<|k+j) f.2 done=true:=by
 intro l;induction l with
 | nil =>
   intro k done σ _ _ h;exact⟨[],rfl,λj m b h=>absurd h (by simp),λfp _=>⟨aE h,λj o f a=>absurd a (by simp)⟩⟩
 | cons o l A =>
   intro k done σ t u h;simp only[number,Kz] at h;split at h
   .cases h
   .rename_i C;obtain⟨r,D⟩:=aw h;obtain⟨bA,E,F⟩:=bind_some D;simp only[dF] at r;have v:ops[k]?=some o:=t 0 o rfl;obtain⟨g,x,y,G⟩:=A (k+1) _ bA (λj s a=>by have:=t (j+1) s (by simpa using a);rw[<-this];congr 1;omega) (u.cons v) F;refine⟨(xk cx nb o σ,mask done o)::g,by simp[x],λj m b a c=>?_,λfp i=>?_⟩
    .cases j with
     | zero=>obtain rfl:=aE a;exact Db u v c
     | succ j=>have:=y j m b (by simpa using a) c;rw[show k+(j+1)=k+1+j by omega];exact this
    have n:fp k=xk cx nb o σ:=i 0 _ rfl;obtain⟨H,z⟩:=G fp λj f a=>by have:=i (j+1) f (by simpa using a);rw[<-this];congr 1;omega
    refine⟨⟨C,λc=>by rw[n] at c⊢;exact JU o σ c,λc=>by rw[n] at c⊢;exact acd o σ c,λe I c=>?_,λj J a=>?_,bA,by rw[n];exact E,H⟩,λj s f a p=>?_⟩
    .have:=r.2;rw[<-Array.all_toList,va] at this;have:=this e (by simpa using I);rw[c] at this;have:=CO (by simpa [Nat.blt] using this);omega
    .obtain⟨f,p⟩:∃f,g[j]?=some f:=⟨_,jE (by rw[x];exact(ix.1 a).1)⟩;rcases(Lk<|z j J f a p).1 with q|q
     .exact .inl (y j f k p q)
     .rw[n];exact .inr q
    .cases j with
     | zero =>
       obtain rfl:=aE a;obtain rfl:=aE p;rw[v7,n];exact r.1
     | succ j =>
       have:=(Lk<|z j s f (by simpa using a)<|by simpa using p).2;rw[show k+(j+1)=k+1+j by omega];exact this
theorem ace:∀(l:List Oper) (k:Nat) (listed:Array Bool) (σ:St),(∀j,l[j]?=ops[k+j]?)->listed.size=ops.size->(∀j,j<k->j<ops.size->listed.getD j false=true) ->
  (∀j,k<=j->j<ops.size->listed.getD j true=false)->Q1 ops listed->aer cx nb bf inl ops fp k l σ aV->acb cx nb bf inl ops fp (·=aV) l.length listed σ:=by
 intro l;induction l with
 | nil =>
   intro k listed σ u v x C a h;refine⟨?_,h⟩;cases H:Region.ready .any ops listed with
   | nil=>rfl
   | cons i r =>
     exfalso;have hi:i∈Region.ready .any ops listed:=by rw[H];exact oB ..
     obtain⟨D,o,G,_⟩:=mem_ready.1 hi;have g:i<ops.size:=(u9.1 G).1;rcases ud i k with t|t
     .have:=x i t g;simp[v,g] at this D;rw[this] at D;cases D
     .have:=u (i-k);rw[show k+(i-k)=i by omega,G] at this;cases this
 | cons o l I =>
   intro k listed σ u v x C a h;have t:ops[k]?=some o:=by simpa using(u 0).symm
   have g:k<ops.size:=(u9.1 t).1;obtain⟨J,K,E,L,M,bA,O,R⟩:=h;have c:k∈Region.ready .any ops listed:=mem_ready.2 ⟨C k (cD _) g,o,t,λe S y=>by
    have:=L e S y;exact x e.on this (by omega)⟩
   refine V9 t J (λb y=>?_) l.length listed σ bA a (λj T A U q=>?_) c O (I (k+1) _ bA (λj=>?_) (by simp[v]) (λj A s=>?_) (λj A s=>?_) (a.list c) R)
   .cases n:(fp k).JN with
    | true=>rw[E n] at y;cases y
    | false=>exact(K n).sub b y
   .have p:j<ops.size:=(u9.1 A).1;rcases ud j k with z|z
    .exfalso;have:=x j z p;simp[v,p] at this q;rw[this] at q;cases q
    .have F:=u (j-k);rw[show k+(j-k)=j by omega,A] at F;obtain⟨m,V⟩:∃m,j-k=m+1:=⟨j-k-1,by omega⟩;rw[V] at F;have:=M m T (by simpa using F);rw[show k+1+m=j by omega] at this;exact this
   .have:=u (j+1);rw[show k+1+j=k+(j+1) by omega,<-this];simp
   .by_cases e:j=k
    .subst e;simp[v,g]
    .rw[getD_set_ne false<|Kt e];exact x j (by omega) s
   .rw[getD_set_ne true (by omega:k≠j)];exact C j (by omega) s
theorem Ll:∀{l:List Oper} {k j:Nat} {o:Oper},l[j]?=some o->(k+j,o)∈number k l:=by
 intro l;induction l with
 | nil=>intro k j o h;cases h
 | cons p l a =>
   intro k j o h;cases j with
   | zero=>obtain rfl:=aE h;exact oB ..
   | succ j=>exact oA _ (by rw[show k+(j+1)=k+1+j by omega];exact a (by simpa using h))
theorem Lm{d:Nat}:∀{items:List (Nat×Oper)},mT d items=false->∀{i:Nat} {o:Oper},(i,o)∈items->o.dst≠some d:=λh _ _ a=>VV h _ _ a
theorem NO(z:eS P cx)(e:oT P B.G cx)(g:vq P B.G inl){Q:Exit->Act->World->Prop}(r:∀i o,ops[i]?=some o->(fp i).JN=false->Tz cx nb o (fp i))
  (A:∀o∈ops.toList,∀k,o.dst=some k->k<N):∀(n:Nat) (listed:Array Bool) (σ:St) (γ:Gh) (a:Act) (w:World),acb cx nb bf inl ops fp (·=aV) n listed σ->cQ B N γ σ a w ->
   (∀bG s w',cQ B N bG aV s w'->Ext B γ σ.mem w bG aV.mem w'->Fr (number 0 ops.toList) a s->Q .normal s w')->wpAny P .any ops Q n listed a w:=by
 intro n;induction n with
 | zero =>
   intro listed σ γ a w h p q;obtain⟨c,rfl⟩:=h;exact⟨c,q γ a w p (Ext.refl _ _ _ _) λt _=>rfl⟩
 | succ n C =>
   intro listed σ γ a w h p q;refine⟨λD=>?_,λi E=>?_⟩
   .obtain rfl:=h.1 D;exact q γ a w p (Ext.refl _ _ _ _) λt _=>rfl
   .obtain⟨o,bA,c,F,H,I⟩:=h.2 i E;have m:o∈ops.toList:=by
     have:=aa5 c;simpa using this
    have b:(i,o)∈number 0 ops.toList:=by
     have:=Ll (l:=ops.toList) (k:=0) (j:=i) (o:=o) (by simpa using c);simpa using this
    unfold wpOp;rw[c];dsimp only;have J:Region.wanted o (yielded ops a.tmps)=true:=by unfold Region.wanted;rw[F]
    rw[J];simp only[mh];refine .inl (K3 z e g p (A o m) (Bq (r i o c) H) λu v K L M=>?_);refine C _ bA u _ K I L λx O R S T U=>q x O R S (M.trans T) λt y=>?_;rw[U t y,fx (Lm y b)]
theorem cQ.draw{a:Act}{w:World}(h:cQ B N γ σ a w)(n:Nat):cQ B N γ σ a { w with drawn:=n }/\Ext B γ σ.mem w γ σ.mem { w with drawn:=n }:=by
 obtain⟨m1,c⟩:=h.ok.far (w':={ w with drawn:=n }) (I':=γ.I) ⟨rfl,rfl,rfl,cD _,λ_ _=>rfl⟩ (λ_ _ k=>k) (λb o k=>h.ok.sV b o k) (λb o k e=>absurd k e);exact⟨h.go c m1,c⟩
theorem Q3(c:P.follows .mixedOrders=true)(t:eS P cx)(g:oT P B.G cx)(m:vq P B.G inl){Q:Exit->Act->World->Prop}{id:Nat}{a:Act}{w:World}
  (u:∀o∈ops.toList,∀k,o.dst=some k->k<N) (v:(Kz cx nb bf inl (number 0 ops.toList) [] σ).run=some aV) (h:cQ B N γ σ a w)
  (y:∀bG n w',cQ B N bG aV n w'->Ext B γ σ.mem w bG aV.mem w'->Fr (number 0 ops.toList) a n->Q .normal n w'):(Code.region id ops true).wp P Q a w:=by
 refine wp_region_any c ?_;obtain⟨z,L,M,A⟩:=Q2 (ops:=ops) ops.toList 0 [] σ (λj o b=>by simpa using b) qZ.nil v
 let fp:Nat->Fp:=λi=>(z[i]?.map (·.1)).getD ⟨[],[],true,none⟩
 obtain⟨q,_⟩:=A fp λj f b=>by simp[fp,b]
 have key:∀(l:List Oper) (k:Nat) (σ:St),aer cx nb bf inl ops fp k l σ aV->∀j o,l[j]?=some o->(fp<|k+j).JN=false->Tz cx nb o (fp<|k+j):=by
  intro l;induction l with
  | nil=>intro k σ _ j o b;cases b
  | cons o l C =>
    intro k σ D j E b;obtain⟨O,F,H,R,S,bA,T,I⟩:=D;cases j with
    | zero=>obtain rfl:=aE b;exact F
    | succ j=>rw[show k+(j+1)=k+1+j by omega];exact C (k+1) bA I j E (by simpa using b)
 have hA:=ace (ops:=ops) (cx:=cx) (nb:=nb) (bf:=bf) (inl:=inl) (fp:=fp) (aV:=aV) ops.toList 0 (Array.replicate ops.size false) σ (by simp) (by simp) (λj b=>by omega)
  (λj _ b=>by simp[b]) (λi o e p=>by
   exfalso;rcases ud i ops.size with r|r<;>simp[r] at p) q
 obtain⟨J,K⟩:=h.draw (w.drawn+1);refine NO t g m (λi o p=>by have:=key _ 0 σ q i o (by simpa using p);simpa using this) u _ _ σ γ a _ (by simpa using hA) J λbG n w' s x f=>y bG n w' s (K.trans x) f
end
end Go.Ge
namespace Go.Ge
open RowKit
section
variable {cx:Ctx} {nb:Nat} {bf:List Nat} {inl:Nat->List aK->St->Tree (aK×St)} {ops:Array Oper} {fp:Nat->Fp}
abbrev Nf:=St×(Nat->Bool)
def Dc(a:Array Oper)(o:Oper)(s:Nf):Option Bool:=match o.guard with
 | none=>some true
 | some (g,want)=>match(a[g]?).bind (·.dst) with
   | none=>none
   | some dg=>bif s.2 g then some false else match s.1.slots dg with
     | .data .bool c=>some ((show Bool from c)==want)
     | _=>none
def ny(b:Ctx)(c:Nat)(e:List Nat)(inl:Nat->List aK->St->Tree (aK×St))(a:Array Oper)(f:Fp)(i:Nat)(o:Oper)(s:Nf):Option Nf:=match Dc a o s with
 | none=>none
 | some true=>(ik b c e inl f o s.1).run.map λσ=>(σ,s.2)
 | some false=>some (s.1.aS o.dst .undef,gq i s.2)
def ahE:St:={ slots:=λ_=>.undef,mem:=λ_=>none }
theorem TD(a:St)(d:Option Nat):a.aS d .undef=lay a d [] ahE:=by
 unfold lay;cases d with
 | none=>rfl
 | some k=>rfl
theorem Pp{f:Fp}{i:Nat}{o:Oper}{s k:Nf}(l:f.JN=false)(h:ny cx nb bf inl ops f i o s=some k):∃b e τ,Dc ops o s=some b/\k=(lay s.1 o.dst e τ,bif b then s.2 else gq i s.2)/\(∀x∈e,x∈f.wr) /\
  ∀a:Nf,Dc ops o a=some b->(b=true->a.1.only (tmpsOf<|eY o.op) f.rd=s.1.only (tmpsOf<|eY o.op) f.rd)->ny cx nb bf inl ops f i o a=some (lay a.1 o.dst e τ,bif b then a.2 else gq i a.2):=by
 unfold ny at h;cases hd:Dc ops o s with
 | none=>rw[hd] at h;cases h
 | some b =>
   rw[hd] at h;cases b with
   | true =>
     simp only at h;obtain⟨aV,c,rfl⟩:=uc.1 h;unfold ik at c;rw[l] at c;simp only[iD] at c;obtain⟨τ,m,n⟩:=bind_some c;obtain rfl:=aE n;refine⟨true,f.wr,τ,rfl,rfl,λx g=>g,λa j p=>?_⟩;unfold ny;rw[j];simp only;unfold ik;rw[l];simp only[iD];rw[Tree.run_bind,p rfl,m];rfl
   | false =>
     simp only at h;obtain rfl:=aE h;refine⟨false,[],ahE,rfl,by rw[TD];rfl,λx g=>(nomatch g),λa j _=>?_⟩;unfold ny;rw[j];simp only;rw[TD];rfl
theorem TE{i j:Nat}{x y:Oper}{f g:Fp}(h:zX ops i j x y f g=true):f.JN=false/\g.JN=false/\(∀b∈f.wr,b∉g.rd)/\(∀b∈g.wr,b∉f.rd)/\xn x j=true/\xn y i=true /\
  (∀d,x.dst=some d->d∉CV ops y)/\(∀d,y.dst=some d->d∉CV ops x)/\(∀d e,x.dst=some d->y.dst=some e->d≠e):=by
 simp only[zX,dF,kS] at h;obtain⟨⟨⟨⟨⟨⟨⟨m,n⟩,o⟩,p⟩,r⟩,s⟩,a⟩,k⟩:=h;refine⟨m,n,λb l=>Br o l,λb l=>Br p l,r,s,λd c=>?_,λd c=>?_,λd e c t=>?_⟩
 .rw[c] at a;simp only[dF,kS] at a;exact ju.1 a.1
 .rw[c] at k;simp only[kS] at k;exact ju.1 k
 .rw[c,t] at a;simp only[dF,kS] at a;intro q;subst q;simp at a
theorem Ln{i:Nat}{o:Oper}{s:Nf}{d:Option Nat}{m:List Nat}{n:St}{b:Bool}(c:xn o i=true)(r:∀k,d=some k->k∉CV ops o):Dc ops o (lay s.1 d m n,bif b then s.2 else gq i s.2)=Dc ops o s:=by
 unfold Dc;cases a:o.guard with
 | none=>rfl
 | some p =>
   obtain⟨g,q⟩:=p;dsimp only;cases h:(ops[g]?).bind (·.dst) with
   | none=>rfl
   | some dg =>
     dsimp only;have j:Nat.beq g i=false:=by
      unfold xn at c;rw[a] at c;simpa using c
     have t:(bif b then s.2 else gq i s.2) g=s.2 g:=by
      cases b with
      | true=>rfl
      | false=>simp only[iD,gq,j,B6]
     have u:(lay s.1 d m n).slots dg=s.1.slots dg:=by
      unfold lay;cases d with
      | none=>rfl
      | some k =>
        have l:dg≠k:=λe=>r k rfl (by
         unfold CV Pd;rw[a];dsimp only;rw[h];subst e;exact oB ..)
        simp[iF l]
     rw[t,u]
theorem acf(o:St){g h:Option Nat}{i j:List Nat}{a c:St}(q:∀d e,g=some d->h=some e->d≠e)(r:∀b∈i,b∉j):lay (lay o h j c) g i a=lay (lay o g i a) h j c:=by
 unfold lay
 congr 1
 .cases g with
  | none=>rfl
  | some k =>
    cases h with
    | none=>rfl
    | some e =>
      have l:=q k e rfl rfl;funext t;dsimp only;by_cases m:t=k
      .subst m;simp[iF l]
      .by_cases p:t=e
       .subst p;simp[iF m]
       .simp[iF m,iF p]
 .funext b;dsimp only;cases n:cK i b with
  | false=>rfl
  | true =>
    have:b∉j:=r b (nN.1 n);simp[ju.2 this]
theorem Wa{i j:Nat}{l g:Oper}{a m:Fp}{s u v:Nf}(n:zX ops i j l g a m=true)(p:∀b∈a.wr,b∈a.rd)(G:ny cx nb bf inl ops a i l s=some u)(H:ny cx nb bf inl ops m j g u=some v) :
  ∃c,ny cx nb bf inl ops m j g s=some c/\ny cx nb bf inl ops a i l c=some v:=by
 obtain⟨I,J,K,x,L,M,y,z,O⟩:=TE n;obtain⟨R,wi,S,T,U,A,V⟩:=Pp I G;subst U;obtain⟨C,W,q,D,X,E,Y⟩:=Pp J H;subst X;rw[Ln M y] at D;have F:∀{o:Oper} {k:Nat},k∉CV ops o->k∉tmpsOf (eY o.op):=λh Z=>h (mP _ Z);have hj:=Y s D λ_=>(EH (λk r=>F (y k r)) λb e=>K b (A b e)).symm;refine⟨_,hj,?_⟩;have hi:=V (lay s.1 g.dst W q,bif C then s.2 else gq j s.2) (by rw[Ln L z];exact T) λ_=>EH (λk r=>F (z k r)) (λb e=>x b (E b e));rw[hi]
 congr 1
 refine Prod.ext ?_ ?_
 .exact acf s.1 O (λb e t=>x b (E b t) (p b<|A b e))
 .dsimp only;cases R<;>cases C<;>first|rfl|skip
  simp only[iD];funext k;simp only[gq];cases Nat.beq k i<;>cases Nat.beq k j<;>rfl
def Q4(b:Ctx)(c:Nat)(e:List Nat)(inl:Nat->List aK->St->Tree (aK×St))(a:Array Oper)(g:Nat->Fp)(Q:Nf->Prop):Nat->Array Bool->Nf->Prop
 | 0,listed,s=>Region.ready .any a listed=[]/\Q s
 | n+1,listed,s=>(Region.ready .any a listed=[]->Q s) /\
  ∀i∈Region.ready .any a listed,∃o h,a[i]?=some o/\ny b c e inl a (g i) i o s=some h/\Q4 b c e inl a g Q n (listed.setIfInBounds i true) h
variable {Q:Nf->Prop}
theorem Wb{i:Nat}{q:Oper}(C:ops[i]?=some q)(u:∀b∈(fp i).wr,b∈(fp i).rd):∀(n:Nat) (listed:Array Bool) (s s1:Nf),
  Q1 ops listed->(∀j r,ops[j]?=some r->j≠i->listed.getD j true=false->Reach ops j i\/zX ops i j q r (fp i) (fp j)=true) ->
  i∈Region.ready .any ops listed->ny cx nb bf inl ops (fp i) i q s=some s1->Q4 cx nb bf inl ops fp Q n (listed.setIfInBounds i true) s1->Q4 cx nb bf inl ops fp Q (n+1) listed s:=by
 intro n;induction n with
 | zero =>
   intro listed s s1 c e m z H;refine⟨λh=>(by rw[h] at m;cases m),λj t=>?_⟩;by_cases a:j=i
   .subst a;exact⟨q,s1,C,z,H⟩
   .have:=ready_mono t a;rw[H.1] at this;cases this
 | succ n E =>
   intro listed s s1 c e m z H;refine⟨λh=>(by rw[h] at m;cases m),λj t=>?_⟩;by_cases a:j=i
   .subst a;exact⟨q,s1,C,z,H⟩
   .obtain⟨r,F,o,G,I⟩:=H.2 j (ready_mono t a);obtain⟨g,J,l,D⟩:=mem_ready.1 t;rw[o] at l;obtain rfl:=aE l;have p:zX ops i j q r (fp i) (fp j)=true:=by
     rcases e j r o a g with K|p
     .exact(TC (mem_ready.1 m).1<|K.ready c t).elim
     .exact p
    obtain⟨v,L,M⟩:=Wa p u z G;refine⟨r,v,o,L,E (listed.setIfInBounds j true) v F (c.list t) (λk O R A x=>e k O R A ?_) (ready_mono m<|Kt a) M ?_⟩
    .by_cases y:j=k
     .subst y;exact g
     .rw[getD_set_ne true y] at x;exact x
    .rw[afv _ _ a];exact I
end
end Go.Ge
namespace Go.Ge
open RowKit
section
variable {P:Program} {B:qA} {N:Nat} {γ:Gh} {cx:Ctx} {nb:Nat} {bf:List Nat} {inl:Nat->List aK->St->Tree (aK×St)} {σ aV:St} {ops:Array Oper} {fp:Nat->Fp}
theorem acg{a:St}{d:Nat}{v:aK}(h:a.slots d=v):a.put d v=a:=by
 unfold St.put;obtain⟨c,e⟩:=a
 congr 1
 funext t;cases b:Nat.beq t d with
 | true=>obtain rfl:=eT b;exact h.symm
 | false=>rfl
def aes(cx:Ctx)(nb:Nat)(bf:List Nat)(inl:Nat->List aK->St->Tree (aK×St))(ops:Array Oper)(fp:Nat->Fp):Nat->List Oper->Nf->Nf->Prop
 | _,[],s,s'=>s=s'
 | k,o::l,s,s'=>(((fp k).JN=false->Tz cx nb o (fp k))/\((fp k).JN=true->(fp k).wr=[]))/\(∀e∈o.after,Region.binds .any e=true->e.on<k) /\
  (∀j a,l[j]?=some a->Reach ops (k+1+j) k\/zX ops k (k+1+j) o a (fp k) (fp<|k+1+j)=true) /\
  ∃b,ny cx nb bf inl ops (fp k) k o s=some b/\aes cx nb bf inl ops fp (k+1) l b s'
theorem HX{i:Nat}{o:Oper}{f a:Fp}{k m c:Nat}{b:Oper}{r:List zW}(h:CW ops i o f m ((k,b,a,c)::r)=true):(Nat.testBit m k=true\/zX ops k i b o a f=true)/\CW ops i o f m r=true:=by
 simp only[CW,dF,x7] at h;exact h
theorem Lo{i:Nat}{o:Oper}{r:List (Nat×Oper)}{a:List zW}{j:Nat->Bool}(h:(sS cx nb bf inl ops ((i,o)::r) a σ j).run=some aV) :
  ∃m:Nf,CW ops i o (xk cx nb o σ) (mask a o) a=true/\(∀e∈o.after,Region.binds .any e=true->e.on<i)/\ny cx nb bf inl ops (xk cx nb o σ) i o (σ,j)=some m /\
   (sS cx nb bf inl ops r ((i,o,xk cx nb o σ,mask a o)::a) m.1 m.2).run=some aV:=by
 simp only[sS] at h;obtain⟨C,k⟩:=aw h;simp only[dF] at C;obtain⟨z,u⟩:=C;have s:∀e∈o.after,Region.binds .any e=true->e.on<i:=λe D E=>by
  rw[<-Array.all_toList,va] at u;have:=u e (by simpa using D);rw[E] at this;have:=CO (by simpa [Nat.blt] using this);omega
 suffices ∃m:Nf,ny cx nb bf inl ops (xk cx nb o σ) i o (σ,j)=some m/\(sS cx nb bf inl ops r ((i,o,xk cx nb o σ,mask a o)::a) m.1 m.2).run=some aV by
  obtain⟨m,F,G⟩:=this;exact⟨m,z,s,F,G⟩
 split at k
 .rename_i y;obtain⟨bA,t,v⟩:=bind_some k;refine⟨(bA,j),?_,v⟩;have hd:Dc ops o (σ,j)=some true:=by unfold Dc;rw[y]
  unfold ny;rw[hd];dsimp only;rw[t];rfl
 .rename_i g b y;split at k
  .cases k
  .rename_i H x;cases n:j g with
   | true =>
     rw[n] at k;refine⟨(σ.aS o.dst .undef,gq i j),?_,k⟩;have hd:Dc ops o (σ,j)=some false:=by unfold Dc;rw[y];dsimp only;rw[x];dsimp only;rw[n];rfl
     unfold ny;rw[hd]
   | false =>
     rw[n] at k;simp only[iD] at k;split at k
     .rename_i c l;change Bool at c;have p:=fP k;have hd:Dc ops o (σ,j)=some (c==b):=by unfold Dc;rw[y];dsimp only;rw[x];dsimp only;rw[n];simp only[iD];rw[l]
      have q:=acg l;have run:∀{bA:St},(ik cx nb bf inl (xk cx nb o σ) o σ).run=some bA->(c==b)=true->ny cx nb bf inl ops (xk cx nb o σ) i o (σ,j)=some (bA,j):=λt A=>by
       unfold ny;rw[hd,A];dsimp only;rw[t];rfl
      have skip:(c==b)=false->ny cx nb bf inl ops (xk cx nb o σ) i o (σ,j)=some (σ.aS o.dst .undef,gq i j):=λA=>by
       unfold ny;rw[hd,A]
      cases c with
      | true =>
        simp only[eG] at p;rw[q] at p;cases b with
        | true=>obtain⟨bA,t,v⟩:=bind_some p;exact⟨(bA,j),run t rfl,v⟩
        | false=>exact⟨_,skip rfl,p⟩
      | false =>
        simp only[iD] at p;rw[q] at p;cases b with
        | true=>exact⟨_,skip rfl,p⟩
        | false=>obtain⟨bA,t,v⟩:=bind_some p;exact⟨(bA,j),run t rfl,v⟩
     .cases k
theorem NP:∀(l:List Oper) (k:Nat) (done:List zW) (σ:St) (i:Nat->Bool),(∀j o,l[j]?=some o->ops[k+j]?=some o)->qZ ops done->(sS cx nb bf inl ops (number k l) done σ i).run=some aV ->
  ∃(e:List (Fp×Nat)) (g:Nat->Bool),e.length=l.length/\(∀j m b,e[j]?=some m->Nat.testBit m.2 b=true->Reach ops (k+j) b) /\
   ∀fp:Nat->Fp,(∀j f,e[j]?=some f->fp (k+j)=f.1)->aes cx nb bf inl ops fp k l (σ,i) (aV,g)/\∀j o f,l[j]?=some o->e[j]?=some f->CW ops (k+j) o (fp<|k+j) f.2 done=true:=by
 intro l;induction l with
 | nil =>
   intro k done σ i _ _ h;obtain rfl:=aE h;exact⟨[],i,rfl,λj m b h=>absurd h (by simp),λfp _=>⟨rfl,λj o f a=>absurd a (by simp)⟩⟩
 | cons o l D =>
   intro k done σ i v x h;obtain⟨t,E,F,G,H⟩:=Lo (r:=number (k+1) l) h;have y:ops[k]?=some o:=v 0 o rfl;obtain⟨e,g,z,A,I⟩:=D (k+1) _ t.1 t.2 (λj u a=>by have:=v (j+1) u (by simpa using a);rw[<-this];congr 1;omega) (x.cons y) H;refine⟨(xk cx nb o σ,mask done o)::e,g,by simp[z],λj m b a c=>?_,λfp n=>?_⟩
   .cases j with
    | zero=>obtain rfl:=aE a;exact Db x y c
    | succ j=>have:=A j m b (by simpa using a) c;rw[show k+(j+1)=k+1+j by omega];exact this
   have p:fp k=xk cx nb o σ:=n 0 _ rfl;obtain⟨J,C⟩:=I fp λj f a=>by have:=n (j+1) f (by simpa using a);rw[<-this];congr 1;omega
   refine⟨⟨⟨λc=>by rw[p] at c⊢;exact JU o σ c,λc=>by rw[p] at c⊢;exact acd o σ c⟩,F,λj K a=>?_,t,by rw[p];exact G,J⟩,λj u f a s=>?_⟩
   .obtain⟨f,s⟩:∃f,e[j]?=some f:=⟨_,jE (by rw[z];exact(ix.1 a).1)⟩;rcases(HX<|C j K f a s).1 with q|q
    .exact .inl (A j f k s q)
    .rw[p];exact .inr q
   .cases j with
    | zero =>
      obtain rfl:=aE a;obtain rfl:=aE s;rw[v7,p];exact E
    | succ j =>
      have:=(HX<|C j u f (by simpa using a)<|by simpa using s).2;rw[show k+(j+1)=k+1+j by omega];exact this
theorem ach{s':Nf}:∀(l:List Oper) (k:Nat) (listed:Array Bool) (s:Nf),(∀j,l[j]?=ops[k+j]?)->listed.size=ops.size->(∀j,j<k->j<ops.size->listed.getD j false=true) ->
  (∀j,k<=j->j<ops.size->listed.getD j true=false)->Q1 ops listed->aes cx nb bf inl ops fp k l s s'->Q4 cx nb bf inl ops fp (·=s') l.length listed s:=by
 intro l;induction l with
 | nil =>
   intro k listed s v x y D a h;refine⟨?_,h⟩;cases J:Region.ready .any ops listed with
   | nil=>rfl
   | cons i r =>
     exfalso;have hi:i∈Region.ready .any ops listed:=by rw[J];exact oB ..
     obtain⟨E,o,G,_⟩:=mem_ready.1 hi;have g:i<ops.size:=(u9.1 G).1;rcases ud i k with u|u
     .have:=y i u g;simp[x,g] at this E;rw[this] at E;cases E
     .have:=v (i-k);rw[show k+(i-k)=i by omega,G] at this;cases this
 | cons o l K =>
   intro k listed s v x y D a h;have u:ops[k]?=some o:=by simpa using(v 0).symm
   have g:k<ops.size:=(u9.1 u).1;obtain⟨H,L,M,I,O,R⟩:=h;have c:k∈Region.ready .any ops listed:=mem_ready.2 ⟨D k (cD _) g,o,u,λe S z=>by
    have:=L e S z;exact y e.on this (by omega)⟩
   refine Wb u (λb z=>by
    cases n:(fp k).JN with
    | true=>rw[H.2 n] at z;cases z
    | false=>exact(H.1 n).sub b z) l.length listed s I a (λj T C U q=>?_) c O (K (k+1) _ I (λj=>?_) (by simp[x]) (λj C t=>?_) (λj C t=>?_) (a.list c) R)
   .have p:j<ops.size:=(u9.1 C).1;rcases ud j k with A|A
    .exfalso;have:=y j A p;simp[x,p] at this q;rw[this] at q;cases q
    .have F:=v (j-k);rw[show k+(j-k)=j by omega,C] at F;obtain⟨m,V⟩:∃m,j-k=m+1:=⟨j-k-1,by omega⟩;rw[V] at F;have:=M m T (by simpa using F);rw[show k+1+m=j by omega] at this;exact this
   .have:=v (j+1);rw[show k+1+j=k+(j+1) by omega,<-this];simp
   .by_cases e:j=k
    .subst e;simp[x,g]
    .rw[getD_set_ne false<|Kt e];exact y j (by omega) t
   .rw[getD_set_ne true (by omega:k≠j)];exact D j (by omega) t
theorem Wc(a:∀f b σ v aV,(inl f b σ).run=some (v,aV)->bj σ aV):∀(l:List Oper) (k:Nat) (done:List zW) (σ aV:St) (e:Nat->Bool),(sS cx nb bf inl ops (number k l) done σ e).run=some aV->bj σ aV:=by
 intro l;induction l with
 | nil=>intro k done σ aV e h;obtain rfl:=aE h;exact bj.refl _
 | cons o l g =>
   intro k done σ aV e h;obtain⟨n,p,q,c,i⟩:=Lo (r:=number (k+1) l) h;refine bj.trans ?_ (g _ _ _ _ _ i);unfold ny at c;split at c
   .cases c
   .obtain⟨bA,j,rfl⟩:=uc.1 c;exact Af a bA (Bq (λm=>JU o σ m) j)
   .obtain rfl:=aE c;exact bj.aS _ _ _
end
end Go.Ge
namespace Go.Ge
open RowKit
section
variable {P:Program} {B:qA} {N:Nat} {γ:Gh} {cx:Ctx} {nb:Nat} {bf:List Nat} {inl:Nat->List aK->St->Tree (aK×St)} {σ aV:St} {ops:Array Oper} {fp:Nat->Fp}
theorem Wd{l:List Oper}{j:Nat}{o:Oper}{d:Nat}(h:l[j]?=some o)(a:o.dst=some d):d∈kC.FY l:=by
 induction l generalizing j with
 | nil=>cases h
 | cons p l b =>
   cases j with
   | zero=>obtain rfl:=aE h;simp only[kC.FY,a];exact oB ..
   | succ j =>
     have:=b (j:=j) (by simpa using h);simp only[kC.FY];split
     .exact oA _ this
     .exact this
theorem Lq:∀{l:List Oper},kC l=true->∀{i j:Nat} {x y:Oper} {d:Nat},i<j->l[i]?=some x->l[j]?=some y->x.dst=some d->y.dst≠some d:=by
 intro l;induction l with
 | nil=>intro _ i j x y d _ h;cases h
 | cons p l k =>
   intro h i j x y d n c o e g;simp only[kC,dF] at h;obtain⟨m,rfl⟩:∃m,j=m+1:=⟨j-1,by omega⟩;have a:l[m]?=some y:=by simpa using o
   cases i with
   | zero =>
     obtain rfl:=aE c;have b:=h.1;rw[e] at b;simp only[kS] at b;exact ju.1 b (Wd a g)
   | succ i=>exact k h.2 (i:=i) (j:=m) (by omega) (by simpa using c) a e g
theorem We(h:kC ops.toList=true){i j:Nat}{x y:Oper}{d:Nat}(a:i≠j)(c:ops[i]?=some x)(e:ops[j]?=some y)(g:x.dst=some d):y.dst≠some d:=by
 rcases Nat.lt_or_gt_of_ne a with b|b
 .exact Lq h b (by simpa using c) (by simpa using e) g
 .intro k;exact Lq h b (by simpa using e) (by simpa using c) k g
def Wf(c:Array Oper)(e:Nat->Bool)(b:Array Bool)(a:Act):Prop:=∀k,e k=true->yielded c a.tmps k=none/\b.getD k true=true
theorem vv{a:Act}{i k:Nat}{o:Oper}{v:Value}(b:kC ops.toList=true)(e:ops[i]?=some o)(c:k≠i):yielded ops (a.put o.dst v).tmps k=yielded ops a.tmps k:=by
 unfold yielded;cases g:ops[k]? with
 | none=>rfl
 | some y =>
   simp only[HA];cases hd:y.dst with
   | none=>rfl
   | some h =>
     simp only[HA];have:o.dst≠some h:=We b c g e hd;rw[fx this]
theorem Wf.run{j:Nat->Bool}{b:Array Bool}{a:Act}{i:Nat}{o:Oper}{v:Value}(h:Wf ops j b a)(g:kC ops.toList=true)(n:ops[i]?=some o)(l:b.getD i true=false):Wf ops j (b.setIfInBounds i true) (a.put o.dst v):=λk p=>by
 obtain⟨q,m⟩:=h k p;have c:k≠i:=λe=>by subst e;rw[m] at l;cases l
 exact⟨by rw[vv g n c];exact q,by rw[getD_set_ne true<|Kt c];exact m⟩
theorem Wf.skip{e:Nat->Bool}{b:Array Bool}{a:Act}{i:Nat}{o:Oper}(h:Wf ops e b a)(g:kC ops.toList=true)(m:ops[i]?=some o)(p:b.getD i true=false):Wf ops (gq i e) (b.setIfInBounds i true) (a.put o.dst Go.undef):=λk n=>by
 by_cases c:k=i
 .subst c;refine⟨ED m,?_⟩;rcases ud k b.size with j|j
  .simp[j]
  .simp[SB j] at p
 .have l:e k=true:=by
   simp only[gq,iF c,B6] at n;exact n
  obtain⟨q,r⟩:=h k l;exact⟨by rw[vv g m c];exact q,by rw[getD_set_ne true<|Kt c];exact r⟩
theorem NQ(hc:eS P cx)(F:oT P B.G cx)(H:vq P B.G inl){Q:Exit->Act->World->Prop}(I:kC ops.toList=true)(M:∀i o,ops[i]?=some o->(fp i).JN=false->Tz cx nb o (fp i))
  (hd:∀o∈ops.toList,∀k,o.dst=some k->k<N):∀(n:Nat) (listed:Array Bool) (s:Nf) (γ:Gh) (a:Act) (w:World),Q4 cx nb bf inl ops fp (λs=>s.1=aV) n listed s->cQ B N γ s.1 a w->Wf ops s.2 listed a ->
   (∀bG O w',cQ B N bG aV O w'->Ext B γ s.1.mem w bG aV.mem w'->Fr (number 0 ops.toList) a O->Q .normal O w')->wpAny P .any ops Q n listed a w:=by
 intro n;induction n with
 | zero =>
   intro listed s γ a w h E u z;obtain⟨x,R⟩:=h;rw[<-R] at z;exact⟨x,z γ a w E (Ext.refl _ _ _ _) λt _=>rfl⟩
 | succ n ih =>
   intro listed s γ a w h E u z;refine⟨λh0=>?_,λi hi=>?_⟩
   .have R:=h.1 h0;rw[<-R] at z;exact z γ a w E (Ext.refl _ _ _ _) λt _=>rfl
   .obtain⟨o,s1,x,J,h4⟩:=h.2 i hi;have K:=(mem_ready.1 hi).1;have y:o∈ops.toList:=by
     have:=aa5 x;simpa using this
    have m:(i,o)∈number 0 ops.toList:=by
     have:=Ll (l:=ops.toList) (k:=0) (j:=i) (o:=o) (by simpa using x);simpa using this
    have hw:∀b,Dc ops o s=some b->Region.wanted o (yielded ops a.tmps)=b:=by
     intro b e;unfold Dc at e;cases q:o.guard with
     | none =>
       rw[q] at e;obtain rfl:=aE e;unfold Region.wanted;rw[q]
     | some p =>
       obtain⟨g,L⟩:=p;rw[q] at e;dsimp only at e;split at e
       .cases e
       .rename_i dg S;cases T:s.2 g with
        | true =>
          rw[T] at e;obtain rfl:=aE e;unfold Region.wanted;rw[q];simp only[(u g T).1];rfl
        | false =>
          rw[T] at e;simp only[iD] at e;split at e
          .rename_i c A;change Bool at c;obtain rfl:=aE e;have C:=HV E A;unfold Region.wanted;rw[q];simp only[yielded,S,HA,C];cases c<;>cases L<;>rfl
          .cases e
    unfold wpOp;rw[x];dsimp only;unfold ny at J;split at J
    .cases J
    .rename_i r;obtain⟨bA,q1,rfl⟩:=uc.1 J;rw[hw true r];simp only[mh];refine .inl (K3 hc F H E (hd o y) (Bq (M i o x) q1) λU v w1 s1 x1=>?_);refine ih _ (bA,s.2) U _ w1 h4 s1 (u.run I x K) λD V W X Y Z=>z D V W X (x1.trans Y) λt C=>?_;rw[Z t C,fx (Lm C m)]
    .rename_i r;obtain rfl:=aE J;rw[hw false r];simp only[Kn,sR];have hs1:cQ B N γ (s.1.aS o.dst .undef) (a.put o.dst Go.undef) w:=E.uo (hd o y) ⟨_,rfl⟩;have hm:(s.1.aS o.dst .undef).mem=s.1.mem:=by cases o.dst<;>rfl
     refine ih _ (s.1.aS o.dst .undef,gq i s.2) γ _ w h4 hs1 (u.skip I x K) λD V W X Y Z=>z D V W X (by rw[<-hm];exact Y) λt C=>?_;rw[Z t C,fx (Lm C m)]
theorem Q4.mono{Q Q':Nf->Prop}(a:∀s,Q s->Q' s):∀{n:Nat} {listed:Array Bool} {s:Nf},Q4 cx nb bf inl ops fp Q n listed s->Q4 cx nb bf inl ops fp Q' n listed s:=by
 intro n;induction n with
 | zero=>intro listed s h;exact⟨h.1,a _ h.2⟩
 | succ n b =>
   intro listed s h;refine⟨λc=>a _ (h.1 c),λi e=>?_⟩;obtain⟨o,g,j,k,l⟩:=h.2 i e;exact⟨o,g,j,k,b l⟩
theorem Q5(c:P.follows .mixedOrders=true)(z:eS P cx)(g:oT P B.G cx)(m:vq P B.G inl){Q:Exit->Act->World->Prop}{id:Nat}{a:Act}{w:World}(p:kC ops.toList=true)
  (A:∀o∈ops.toList,∀k,o.dst=some k->k<N) (C:(sS cx nb bf inl ops (number 0 ops.toList) [] σ λ_=>false).run=some aV) (h:cQ B N γ σ a w)
  (D:∀bG n w',cQ B N bG aV n w'->Ext B γ σ.mem w bG aV.mem w'->Fr (number 0 ops.toList) a n->Q .normal n w'):(Code.region id ops true).wp P Q a w:=by
 refine wp_region_any c ?_;obtain⟨E,q,S,T,F⟩:=NP (ops:=ops) ops.toList 0 [] σ (λ_=>false) (λj o b=>by simpa using b) qZ.nil C
 let fp:Nat->Fp:=λi=>(E[i]?.map (·.1)).getD ⟨[],[],true,none⟩
 obtain⟨v,_⟩:=F fp λj f b=>by simp[fp,b]
 have key:∀(l:List Oper) (k:Nat) (s s':Nf),aes cx nb bf inl ops fp k l s s'->∀j o,l[j]?=some o->(fp<|k+j).JN=false->Tz cx nb o (fp<|k+j):=by
  intro l;induction l with
  | nil=>intro k s s' _ j o b;cases b
  | cons o l H =>
    intro k s s' I j J b;obtain⟨K,U,V,r,W,L⟩:=I;cases j with
    | zero=>obtain rfl:=aE b;exact K.1
    | succ j=>rw[show k+(j+1)=k+1+j by omega];exact H (k+1) r s' L j J (by simpa using b)
 have hA:=ach (ops:=ops) (cx:=cx) (nb:=nb) (bf:=bf) (inl:=inl) (fp:=fp) (s':=(aV,q)) ops.toList 0 (Array.replicate ops.size false) (σ,λ_=>false) (by simp) (by simp) (λj b=>by omega)
  (λj _ b=>by simp[b]) (λi o e t=>by
   exfalso;rcases ud i ops.size with y|y<;>simp[y] at t) v
 have u:=Q4.mono (Q':=λs:Nf=>s.1=aV) (λs M=>by rw[M]) hA;obtain⟨r,O⟩:=h.draw (w.drawn+1);refine NQ z g m p (λi o t=>by have:=key _ 0 _ _ v i o (by simpa using t);simpa using this) A _ _ (σ,λ_=>false) γ a _ (by simpa using u) r (λk R=>by cases R) λbG n w' s x f=>D bG n w' s (O.trans x) f
theorem TF(b:P.follows .mixedOrders=true)(m:eS P cx)(c:oT P B.G cx)(e:vq P B.G inl){Q:Exit->Act->World->Prop}{id:Nat}{a:Act}{w:World}
  (n:∀o∈ops.toList,∀k,o.dst=some k->k<N) (g:(xo cx nb bf inl ops σ).run=some aV) (h:cQ B N γ σ a w)
  (p:∀bG i w',cQ B N bG aV i w'->Ext B γ σ.mem w bG aV.mem w'->Fr (number 0 ops.toList) a i->Q .normal i w'):(Code.region id ops true).wp P Q a w:=by
 unfold xo at g;cases q:ops.any λo=>o.guard.isSome with
 | true =>
   rw[q] at g;obtain⟨j,l⟩:=aw (show(bif kC ops.toList then sS cx nb bf inl ops (number 0 ops.toList) [] σ (λ_=>false) else .fail).run=some aV from g);exact Q5 b m c e j n l h p
 | false =>
   rw[q] at g;exact Q3 b m c e n g h p
end
end Go.Ge
namespace Go.Ge
open RowKit
def tk(f:Nat->Box->Bool)(mem:Nat->Option Box):Nat->Option Box:=λb=>match mem b with|some a=>some { a with lk:=f b a }|none=>none
section
variable {P:Program} {B:qA} {N:Nat} {γ γ0:Gh} {mem m0 me m1:Nat->Option Box} {w w0:World} {f:Nat->Box->Bool}
theorem Pq{b:Nat}{a:Box}(h:mem b=some a):tk f mem b=some { a with lk:=f b a }:=by simp[tk,h]
theorem TG{b:Nat}{c:Box}(h:tk f mem b=some c):∃a,mem b=some a/\c={ a with lk:=f b a }:=by
 simp only[tk] at h;split at h
 .rename_i a e;exact⟨a,e,(aE h).symm⟩
 .cases h
theorem Ext.tk:Ext B γ mem w γ (tk f mem) w where
 below:=tV.refl _ _
 I:=λ_ _ h=>h
 pC:=λ_ _ h=>.inl h
 cells:=λ_ _ _=>rfl
 boxes:=λb c a=>⟨_,Pq a,cD _,λ_=>⟨rfl,rfl,rfl⟩⟩
theorem bu.tk(h:bu B γ mem w):bu B γ (Go.Ge.tk f mem) w:=by
 have g:∀{b},Go.Ge.tk f mem b≠none->mem b≠none:=by
  intro b e m;apply e;simp[Go.Ge.tk,m]
 exact
  { cP:=h.cP
    base:=h.base
    boxes:=λb n e=>by
     obtain⟨i,h0,rfl⟩:=TG e;exact(h.boxes b i h0).keep (Ext.tk (B:=B) (γ:=γ) (w:=w) (f:=f) (mem:=mem)) rfl (λ_ _ _=>rfl)
    inj:=λb c a k o e p j q=>h.inj b c a k o (g e) (g p) j q
    fresh:=λb a k e j=>h.fresh b a k (g e) j
    sV:=h.sV
    sep:=λb n a k l e j r=>by
     obtain⟨i,h0,rfl⟩:=TG e;exact h.sep b i a k l h0 j r }
theorem cQ.tk{b:St}{a:Act}(h:cQ B N γ b a w):cQ B N γ { b with mem:=Go.Ge.tk f b.mem } a w:=h.go Ext.tk h.ok.tk
def Mid(g h i:Nat->Option Box):Prop:=∀b c,g b=some c->∃a,i b=some a/\c.aI<=a.aI /\
 (a.aI=c.aI->∃e,h b=some e/\e.aI=c.aI/\e.buf=a.buf/\e.row=a.row)
theorem mn.down(m:Mid m0 me m1){b g:Nat}{n K j:Box->Prop}(o:mn m0 b g n)(h:mn me b g K)(p:∀c a:Box,c.buf=a.buf->c.row=a.row->K c->j a):mn m1 b g j:=by
 obtain⟨i,q,y,_⟩:=o;obtain⟨c,r,z,s⟩:=h;obtain⟨a,t,A,u⟩:=m b i q;refine⟨a,t,by omega,λe=>?_⟩;obtain⟨k,l,C,v,x⟩:=u (by omega);rw[r] at l;obtain rfl:=aE l;exact p c a v x (s<|by omega)
theorem b5.down(g:Mid m0 me m1):∀{v:aK} {m:Mode} {us vs:List Value},b5 γ0 m0 w0 v m us->b5 γ me w v m vs->b5 γ m1 w v m vs:=by
 intro v;induction v with
 | undef=>intro m us vs _ r;cases m<;>exact r
 | data t x=>intro m us vs _ r;cases m<;>exact r
 | nJ=>intro m us vs _ r;cases m<;>exact r
 | dK=>intro m us vs _ r;cases m<;>exact r
 | cell t x=>intro m us vs _ r;cases m<;>exact r
 | nl=>intro m us vs _ r;cases m<;>exact r
 | rL=>intro m us vs _ r;cases m<;>exact r
 | vk b aI =>
   intro m us vs c r;cases m with
   | many=>exact r
   | cells=>exact⟨r.1,c.2.down g r.2 λ_ _ _ _ k=>k⟩
   | val=>exact⟨r.1,c.2.down g r.2 λ_ _ _ _ k=>k⟩
 | ptr b aI p =>
   intro m us vs c r;cases m with
   | many=>exact r
   | cells=>exact⟨r.1,c.2.down g r.2 λ_ _ _ _ k=>k⟩
   | val=>exact⟨r.1,c.2.down g r.2 λ_ _ _ _ k=>k⟩
 | whole b aI =>
   intro m us vs c r;cases m with
   | many=>exact r
   | cells=>exact⟨r.1,c.2.down g r.2 λ_ _ o y k=>by rw[<-o,<-y];exact k⟩
   | val=>exact⟨r.1,c.2.down g r.2 λ_ _ o y k=>by rw[<-o,<-y];exact k⟩
 | part b aI lo n =>
   intro m us vs c r;cases m with
   | many=>exact r
   | cells=>exact⟨r.1,c.2.down g r.2 λ_ _ o y k=>by unfold Eg at k⊢;rw[<-o,<-y];exact k⟩
   | val=>exact⟨r.1,c.2.down g r.2 λ_ _ o y k=>by unfold Eg at k⊢;rw[<-o,<-y];exact k⟩
 | win b aI q e k lo n =>
   intro m us vs c r;cases m with
   | many=>exact r
   | cells=>exact⟨r.1,c.2.down g r.2 λ_ _ o y k=>k⟩
   | val=>exact⟨r.1,c.2.down g r.2 λ_ _ o y k=>k⟩
 | fn f I =>
   intro m us vs c r;cases m with
   | many=>exact r
   | cells=>obtain⟨_,_,_,s⟩:=c;obtain⟨h,j,l,H⟩:=r;exact⟨h,j,l,λi b aI C=>(s i b aI C).down g (H i b aI C) λ_ _ _ _ k=>k⟩
   | val=>obtain⟨_,_,_,s⟩:=c;obtain⟨h,j,l,H⟩:=r;exact⟨h,j,l,λi b aI C=>(s i b aI C).down g (H i b aI C) λ_ _ _ _ k=>k⟩
 | mix a b z A =>
   intro m us vs c r;cases m with
   | cells=>obtain⟨_,_,_,D,E⟩:=c;obtain⟨F,G,c,j,l⟩:=r;exact⟨F,G,c,z D j,A E l⟩
   | val=>obtain⟨_,_,_,D,E⟩:=c;obtain⟨F,G,c,j,l⟩:=r;exact⟨F,G,c,z D j,A E l⟩
   | many=>obtain⟨_,_,_,D,E⟩:=c;obtain⟨F,G,c,j,l⟩:=r;exact⟨F,G,c,z D j,A E l⟩
 | y7 u J =>
   intro m us vs c r;cases m with
   | val=>obtain⟨_,_,s⟩:=c;obtain⟨h,j,l⟩:=r;exact⟨h,j,J s l⟩
   | cells=>exact r
   | many=>exact r
def aci(M:Nat->Bool)(V:Nat->Bool->Bool)(e g h:Nat->Option Box):Prop:=∀b a,e b=some a->∃c Pr,g b=some c/\h b=some Pr/\c.buf=a.buf/\Pr.buf=a.buf/\Pr.row=c.row /\
 Pr.aI=(bif M b&&V b a.buf then a.aI+1 else a.aI)/\((M b&&V b a.buf)=false->c.aI=a.aI)
theorem aci.mid{M:Nat->Bool}{V:Nat->Bool->Bool}(h:aci M V m0 me m1):Mid m0 me m1:=λb a l=>by
 obtain⟨i,c,m,k,n,o,p,g,q⟩:=h b a l;cases j:(M b&&V b a.buf) with
 | true =>
   rw[j] at g;simp only[eG] at g;exact⟨c,k,by omega,λe=>absurd e (by omega)⟩
 | false =>
   rw[j] at g;simp only[iD] at g;exact⟨c,k,by omega,λe=>⟨i,m,q j,n.trans o.symm,p.symm⟩⟩
def Lr:Sh->aK->Prop
 | .d _,_=>True
 | .k v,u=>v=u
 | .m a b,u=>∃p q,u=.mix p q/\Lr a p/\Lr b q
theorem aet(v:aK):Lr (ad3 v) v:=by
 induction v with
 | mix a b c e=>exact⟨a,b,rfl,c,e⟩
 | data t x=>trivial
 | _=>rfl
theorem acj{t:Ty}{v:aK}{y:t.den}(h:toD t v=some y){m:Mode}{b:List Value}(a:b5 γ me w v m b):b5 γ m1 w (.data t y) m b:=by
 unfold toD at h;split at h
 .obtain⟨q,c⟩:=Ty.kz h;subst q;subst c;cases m<;>exact a
 .split at h
  .obtain rfl:=aE h;cases m with
   | many=>exact a
   | cells=>exact .inl ⟨⟨none,a⟩,rfl⟩
   | val=>exact⟨[.slice none 0 0],.inl ⟨⟨none,rfl⟩,rfl⟩,(show b=[Value.slice none 0 0] from a)⟩
  .cases h
 .cases h
theorem TH{M:Nat->Bool}{V:Nat->Bool->Bool}{r s:St}(G:aci M V r.mem s.mem m1)(hV:∀b x,V b false=true->r.mem b=some x->x.buf=false){u v:aK}(h:yg V r s u v=true){m:Mode}{us t:List Value}(S:b5 γ0 r.mem w0 u m us)(i:b5 γ s.mem w v m t) :
  b5 γ m1 w (bump M V u) m t:=by
 unfold yg at h;split at h
 .rename_i b a p b' k p';simp only[dF] at h;obtain⟨⟨T,E⟩,g⟩:=h;obtain rfl:=eT T;obtain rfl:=Vx E;have still:a=k->(M b&&V b false)=false->b5 γ m1 w (bump M V<|.ptr b a p) m t:=by
   intro e q;subst e;have e:bump M V (.ptr b a p)=.ptr b a p:=by simp only[bump,q];rfl
   rw[e];exact b5.down G.mid S i
  cases j:V b false with
  | false =>
    rw[j] at g;exact still (eT g) (by simp[j])
  | true =>
    rw[j] at g;simp only[eG] at g;split at g
    .rename_i x y J F;simp only[dF] at g;have K:=eT g.1;have L:=eT g.2;obtain⟨U,c,H,O,X,Y,Z,R,g7⟩:=G b x J;rw[F] at H;obtain rfl:=aE H;cases z:M b with
     | false=>exact still (by have:=g7 (by simp[z]);omega) (by simp[z])
     | true =>
       have e:bump M V (.ptr b a p)=.ptr b (a+1) p:=by simp only[bump,z,j];rfl
       have C:c.aI=a+1:=by rw[R,z,hV b x j J,j];simp;omega
       rw[e];cases m with
       | many=>exact i
       | cells=>exact⟨i.1,c,O,by omega,λ_=>ba F L i.2⟩
       | val=>exact⟨i.1,c,O,by omega,λ_=>ba F L i.2⟩
    .cases g
 .rename_i b a b' k;simp only[dF] at h;obtain⟨T,g⟩:=h;obtain rfl:=eT T;split at g
  .rename_i x y J F;simp only[dF] at g;obtain⟨⟨E,K⟩,L⟩:=g;have E:=eT E;have K:=eT K;obtain⟨U,c,H,O,X,Y,Z,R,g7⟩:=G b x J;rw[F] at H;obtain rfl:=aE H;have D:x.buf=true:=by rw[<-X];exact L
   have key:∀A,c.aI=A->((∃v,t=[v]/\v.oneCell'=true)/\mn s.mem b k λI=>∃e n,I.buf=true/\I.row=some (e,n) /\
     ((γ.loc b=none/\t=[.slice none 0 0])\/∃l o,γ.loc b=some (l,o)/\t=[.slice (some ⟨l,0,none⟩) n o])) ->
     ((∃v,t=[v]/\v.oneCell'=true)/\mn m1 b A λI=>∃e n,I.buf=true/\I.row=some (e,n) /\
     ((γ.loc b=none/\t=[.slice none 0 0])\/∃l o,γ.loc b=some (l,o)/\t=[.slice (some ⟨l,0,none⟩) n o])):=by
    intro A C hr;have hk:=ba F K hr.2;exact⟨hr.1,c,O,by omega,λ_=>by obtain⟨e,n,q1,q2,q3⟩:=hk;exact⟨e,n,Y.trans D,Z.trans q2,q3⟩⟩
   have C:∃A,bump M V (.whole b a)=.whole b A/\c.aI=A:=by
    unfold bump;cases z:(M b&&V b true) with
    | true=>exact⟨a+1,by simp[z],by rw[R,D,z,<-E];rfl⟩
    | false=>exact⟨a,by simp[z],by rw[R,D,z,<-E];rfl⟩
   obtain⟨A,e1,e2⟩:=C;rw[e1];cases m with
   | many=>exact i
   | cells=>exact key A e2 i
   | val=>exact key A e2 i
  .cases g
 .rename_i f ag8 f' W;simp only[dF] at h;obtain rfl:=eT h.1;obtain rfl:=Vy h.2;exact b5.down G.mid S i
 .cases m<;>exact i
 .cases m<;>exact i
 .simp only[dF] at h;obtain rfl:=eT h.1;obtain rfl:=eT h.2;exact b5.down G.mid S i
 .cases h
theorem ack{V:Nat->Bool->Bool}{a b:St}{u v:aK}:Sh.out V a b (.k u) v=bif yg V a b u v then some () else none:=rfl
theorem ahF{V:Nat->Bool->Bool}{c e:St}{a b:Sh}{v w:aK}:Sh.out V c e (.m a b) (.mix v w)=(match Sh.out V c e a v,Sh.out V c e b w with
 | some x,some y=>some ((x,y):(Sh.m a b).ty.den)
 | _,_=>none):=rfl
theorem X7{M:Nat->Bool}{V:Nat->Bool->Bool}{c g:St}(K:aci M V c.mem g.mem m1)(L:∀b x,V b false=true->c.mem b=some x->x.buf=false):∀{s:Sh} {u v:aK} {y:s.ty.den} {m:Mode} {us vs:List Value},Lr s u->Sh.out V c g s v=some y ->
  b5 γ0 c.mem w0 u m us->b5 γ g.mem w v m vs->b5 γ m1 w (s.pn M V y) m vs:=by
 intro s;induction s with
 | d t=>intro u v y m us vs _ e _ h;exact acj e h
 | k x =>
   intro u v y m us vs E e l h;obtain rfl:=E;rw[ack] at e;cases J:yg V c g x v with
   | false=>rw[J] at e;cases e
   | true=>exact TH K L J l h
 | m a b i j =>
   intro u v y m us vs E e l h;obtain⟨p,q,rfl,F,G⟩:=E;cases v with
   | mix O R =>
     rw[ahF] at e;split at e
     .rename_i S T H I;obtain rfl:=aE e;cases m with
      | cells=>obtain⟨_,_,_,n,o⟩:=l;obtain⟨r,z,A,C,D⟩:=h;exact⟨r,z,A,i F H n C,j G I o D⟩
      | val=>obtain⟨_,_,_,n,o⟩:=l;obtain⟨r,z,A,C,D⟩:=h;exact⟨r,z,A,i F H n C,j G I o D⟩
      | many=>obtain⟨_,_,_,n,o⟩:=l;obtain⟨r,z,A,C,D⟩:=h;exact⟨r,z,A,i F H n C,j G I o D⟩
     .cases e
   | _=>cases e
theorem Zu{t:Ty}{v:aK}{y:t.den}(h:toD t v=some y):(v=.data t y)\/(v=.nJ/\∃e,t=.slice e):=by
 unfold toD at h;split at h
 .obtain⟨q,a⟩:=Ty.kz h;subst q;subst a;exact .inl rfl
 .split at h
  .exact .inr ⟨rfl,_,rfl⟩
  .cases h
 .cases h
theorem X8{M:Nat->Bool}{V:Nat->Bool->Bool}{C D:St}{s:Sh}{c Pr:Box}{y:s.ty.den}(g:Sh.out V C D s c.val=some y)(G:Pr.val=s.pn M V y)(H:Pr.buf=c.buf)(j:c.buf=true->∃e l,c.val=.data (.slice e) l) :
  Pr.row=c.row/\(c.buf=true->Pr.val=c.val):=by
 have n:∀t x,c.val=.data t x->Pr.val=c.val:=by
  intro t x i;rw[i] at g;cases s with
  | d u =>
    obtain⟨q,o⟩:=Ty.kz (show Ty.to t u x=some y from g);subst q;subst o;rw[G,i];rfl
  | k z=>rw[ack] at g;unfold yg at g;cases z<;>cases g
  | m a b=>cases g
 have r:∀{b1 A:Box},b1.buf=A.buf->b1.val=A.val->b1.row=A.row:=by
  intro b1 A I J;unfold Box.row;rw[I,J]
 cases i:c.val with
 | data t x =>
   have:=n t x i;exact⟨r H this,λ_=>by rw[this,i]⟩
 | _ =>
   refine⟨?_,λh=>by obtain⟨e,l,q⟩:=j h;rw[i] at q;cases q⟩;cases o:c.buf with
   | true=>obtain⟨e,l,q⟩:=j o;rw[i] at q;cases q
   | false =>
     have K:c.row=none:=by unfold Box.row;rw[o,i]
     rw[K];unfold Box.row;rw[H,o,G];rw[i] at g;cases s with
     | d u =>
       rcases Zu (show toD u _=some y from g) with q|⟨q,e,rfl⟩
       .first|cases q|exact absurd i (by rw[q];intro k;cases k)
       .rfl
     | k z =>
       rw[ack] at g;simp only[Sh.pn];have E:∀t x,bump M V z≠.data t x:=by
        intro t x q;cases z with
        | data O R=>unfold yg at g;cases g
        | whole b v=>simp only[bump] at q;cases F:(M b&&V b true)<;>rw[F] at q<;>cases q
        | ptr b v p=>simp only[bump] at q;cases F:(M b&&V b false)<;>rw[F] at q<;>cases q
        | _=>cases q
       split<;>first|rfl|(rename_i L;exact absurd L (E _ _))
     | m a b=>rfl
end
end Go.Ge
