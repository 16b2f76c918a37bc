/- A ghost interpreter of the model's code, and that it tells the truth: part 5. It says of a function of plain data what a call of it comes to. -/
import Derived.Test.YtdpbdiikloedbaaGreatDoorGeD
set_option linter.unusedSectionVars false
namespace Go.Ge
open RowKit
def iy(w:World)(I:Nat->Nat->Prop):(A:Ty)->A.den->List Value->Prop
 | .pair t r,x,vs=>∃c b,vs=bZ t c::b/\bI w I t x.1 c/\iy w I r x.2 b
 | .unit,_,vs=>vs=[]
 | _,_,_=>False
def lU(w:World)(I:Nat->Nat->Prop)(R:Ty)(y:R.den)(v:Value):Prop:=cl ⟨I,λ_=>none⟩ (λ_=>none) w (uw R y) .val [v]
structure Holds (P:Program) (G:fm) (f:Nat) (c:xL):Prop where
 body:∃fn code,P.funcs[f]?=some fn/\(fn.name == "runtime.NumGoroutine")=false/\fn.body=some code
 calls:∀(I:Nat->Nat->Prop) (w:World) (args:Array Value) (x:c.A.den) (y:c.R.den),(∀b o,I b o->b<w.heap.size)->EH G w->iy w I c.A x args.toList->c.spec x=some y ->
  Calls P f args w λe w'=>∃v I',e=.returned v/\Below w.heap.size w w'/\(∀b o,I b o->I' b o)/\(∀b o,I' b o->b<w'.heap.size)/\(∀b o,I' b o->¬I b o->w.heap.size<=b)/\lU w' I' c.R y v
def kF(P:Program)(G:fm)(g:String)(c:xL):Prop :=
 ∀(I:Nat->Nat->Prop) (w:World) (v:Value) (i:List Value) (x:c.A.den) (y:c.R.den),(∀b o,I b o->b<w.heap.size)->EH G w->iy w I c.A x (v::i)->c.spec x=some y ->
  ∃f u,(callMethod v g i.toArray).run P w=(callFunc f (u::i).toArray).run P w/\(∃k h,P.funcs[f]?=some k/\(k.name == "runtime.NumGoroutine")=false/\k.body=some h) /\
  Calls P f (u::i).toArray w λe w'=>∃v j,e=.returned v/\Below w.heap.size w w'/\(∀b o,I b o->j b o)/\(∀b o,j b o->b<w'.heap.size)/\(∀b o,j b o->¬I b o->w.heap.size<=b)/\lU w' j c.R y v
theorem I8{P:Program}{G:fm}{b:String}{B R:Ty}:kF P G b ⟨.pair .zj B,R,λ_=>none⟩:=λI w v c x y _ _ _ h=>by cases h
theorem mB{P:Program}{G:fm}{b:String}{u f:Nat}{a r B R:Ty}{s:a.den×B.den->Option R.den}{t:r.den×B.den->Option R.den}(h:Holds P G f ⟨.pair a B,R,s⟩)
  (C:∀(v:Value) (w:World),(method (P.types.size+Made.depth) u v b).run P w=.ok (f,v) w) (D:r.isAgg=false) (E:kF P G b ⟨.pair r B,R,t⟩) :
  kF P G b ⟨.pair (.alt u a r) B,R,λx=>pick (λy=>s (y,x.2)) (λz=>t (z,x.2)) x.1⟩:=by
 intro I w v e x y i j F k;obtain⟨H,l⟩:=x;obtain⟨J,m,K,n,o⟩:=F;obtain⟨A,rfl⟩:=QW K;rcases H with p|q
 .obtain⟨O,c,rfl,L⟩:=n;refine⟨f,bZ a c,?_,h.body,h.calls I w (bZ a c::e).toArray (p,l) y i j ⟨c,e,rfl,L,o⟩ k⟩;have M:v=.iface u (bZ a c):=by
   rw[A];show bZ r [Value.iface u<|bZ a c]=_
   unfold bZ;rw[D];rfl
  rw[M];have g:=C (bZ a c) w;unfold callMethod;simp only[Sem.run_bind,run_program,Result.andThen_ok,g];simp
 .exact E I w v e (q,l) y i j ⟨J,e,by rw[A];rfl,n,o⟩ k
theorem bB.far{B:qK}{f:Gh}{e:Nat->Option bF}{w w':World}(h:bB B f e w)(g:Below w.heap.size w w'){I':Nat->Nat->Prop}(q:∀b o,f.I b o->I' b o)(m:∀b o,I' b o->b<w'.heap.size)
  (i:∀b o,I' b o->¬f.I b o->w.heap.size<=b):bB B ⟨I',f.loc⟩ e w'/\Ext B f e w ⟨I',f.loc⟩ e w':=by
 have hx:Ext B f e w ⟨I',f.loc⟩ e w' :=
  { below:=.of ⟨g.os,g.tape,g.output,g.size,λk r=>g.block k (B6 r h.base)⟩
    I:=q
    pZ:=λb o x=>by
     by_cases hi:f.I b o
     .exact .inl hi
     .exact .inr (.inl<|gj h.base<|i b o x hi)
    cells:=λb o hi=>di (g.block b<|h.tu b o hi)
    boxes:=λb n hb=>⟨n,hb,cg _,λ_=>⟨rfl,rfl,rfl⟩⟩ }
 refine⟨?_,hx⟩;exact
  { cU:=h.C5 hx
    base:=gj h.base g.size
    boxes:=λb n hb=>(h.boxes b n hb).keep hx rfl λc k l=>g.block c (h.fresh b c k (by rw[hb];simp) l).2
    inj:=h.inj
    fresh:=λb c k hb l=>by have:=h.fresh b c k hb l;exact⟨this.1,B6 this.2 g.size⟩
    tu:=m
    sep:=λb n c k j hb l hi=>by
     by_cases p:f.I c j
     .exact h.sep b n c k j hb l p
     .have s:=i c j hi p;have t:=(h.fresh b c k (by rw[hb];simp) l).2;omega }
theorem Xz{w:World}{j c:Gh}{g e:Nat->Option bF}(k:∀b o,j.I b o->c.I b o):∀{R:Ty} {y:R.den} {vs:List Value},cl j g w (zp R y) .many vs->cl c e w (zp R y) .many vs:=by
 intro R;induction R with
 | pair t r l i =>
   intro y vs h;obtain⟨v,f,m,⟨n,p,q⟩,s⟩:=h;exact⟨v,f,m,⟨n,bI.mono k (λ_ _ _=>rfl) p,q⟩,i s⟩
 | _=>intro y vs h;exact h
theorem Di(R:Ty)(y:R.den):(∃t,∃q:R=.pair t .unit,uw R y=.data t (show(Ty.pair t .unit).den from q▸y).1)\/uw R y=.yP (zp R y):=by
 cases R with
 | pair t r =>
   cases r with
   | unit=>exact .inl ⟨t,rfl,rfl⟩
   | _=>exact .inr rfl
 | _=>exact .inr rfl
theorem lU.rep{w:World}{I:Nat->Nat->Prop}{R:Ty}{y:R.den}{v:Value}(h:lU w I R y v){j:Gh}{c:Nat->Option bF}(k:∀b o,I b o->j.I b o):cl j c w (uw R y) .val [v]:=by
 unfold lU at h;rcases Di R y with ⟨t,q,e⟩|e
 .rw[e] at h⊢;obtain⟨l,f,g⟩:=h;exact⟨l,bI.mono k (λ_ _ _=>rfl) f,g⟩
 .rw[e] at h⊢;obtain⟨i,f,g⟩:=h;exact⟨i,f,Xz k g⟩
theorem I9{w j:World}{k f:Gh}{g b:Nat->Option bF}:∀{R:Ty} {y:R.den} {vs:List Value},R.flat=true->cl k g w (zp R y) .many vs->cl f b j (zp R y) .many vs:=by
 intro R;induction R with
 | pair t r l i =>
   intro y vs e h;simp only[Ty.flat,dv] at e;obtain⟨v,c,m,⟨n,o,p⟩,q⟩:=h;exact⟨v,c,m,⟨n,bI.flat e.1 o,p⟩,i e.2 q⟩
 | _=>intro y vs e h;exact h
theorem lU.flat{w j:World}{I:Nat->Nat->Prop}{R:Ty}{y:R.den}{v:Value}(h:lU w I R y v){k:Gh}{b:Nat->Option bF}(c:R.flat=true):cl k b j (uw R y) .val [v]:=by
 unfold lU at h;rcases Di R y with ⟨t,q,e⟩|e
 .rw[e] at h⊢;subst q;simp only[Ty.flat,dv] at c;obtain⟨l,f,g⟩:=h;exact⟨l,bI.flat c.1 f,g⟩
 .rw[e] at h⊢;obtain⟨i,f,g⟩:=h;exact⟨i,f,I9 c g⟩
section
variable {P:Program} {B:qK} {N:Nat} {γ:Gh} {σ bb:St} {a:Act} {w w':World} {d:Option Nat} {cx:Ctx}
theorem zx.ahq{I q:Nat->Nat->Prop}{e:Ty}{l:List e.den}{v:Value}(h:zx w I e l v)(t:∀b o,I b o->q b o)(u:∀f g k,v=.slice (some ⟨f,g,none⟩) l.length k->l≠[]->∀o,q f o) :
  bI w q (.slice e) l [v]:=by
 rcases h with ⟨rfl,m,k,n,r,s⟩|⟨f,g,k,n,r,s,y⟩
 .rcases s with rfl|⟨f,g,rfl⟩
  .exact .inl ⟨⟨m,by rw[n]⟩,rfl⟩
  .exact .inr ⟨f,g,k,by rw[n];rfl,nY _,r,λi x p=>by cases p⟩
 .refine .inr ⟨f,g,k,by rw[n],r,s,λi x p=>?_⟩;obtain⟨z,A,C,D⟩:=y i x p;exact⟨z,A,λj c E=>⟨C j c E,u f g k n (λe=>by rw[e] at p;cases p) _⟩,bI.mono t (λ_ _ _=>rfl) D⟩
theorem OK(x:bB B γ σ.mem w){e:Ty}{v:aO}{l:List e.den}{g y n z:Nat}(H:cl γ σ.mem w v .val [.slice (some ⟨g,y,none⟩) n z])(K:gd e σ v=some l)(m:l≠[]) :
  (∃q,v=.data (.slice e) q)\/(B.has g/\g<w.heap.size):=by
 rcases mz K with rfl|⟨rfl,rfl⟩|⟨b,A,I,rfl,o,h,s,C⟩|⟨b,A,R,S,I,rfl,o,h,D⟩
 .exact .inl ⟨_,rfl⟩
 .exact absurd rfl m
 .obtain⟨L,k,T,M,p⟩:=bk o h H.2;rcases p with ⟨p,E⟩|⟨i,j,p,E⟩
  .exfalso;have t:=x.boxes b I o;rw[cE,s] at t;obtain⟨U,V,f,W,r⟩:=t;rw[C] at f;cases f;rcases r with ⟨_,r⟩|⟨_,_,_,_,_,r,_⟩
   .exact m r
   .rw[p] at r;cases r
  .have f:g=i:=by
    have:=ur E;injection this with f _ _
    injection f with f
    injection f
   subst f;exact .inr (x.fresh b g j (by rw[o];simp) p)
 .obtain⟨L,k,M,p,E,X,J,j,O,Y,Z,gF,u⟩:=bk o h H.2;have F:=ur O;rcases u with u|⟨i,c,u,G⟩
  .exfalso;apply m;rcases D with ⟨_,Q,_,rfl⟩|⟨_,k0,Q,_,rfl⟩<;>simp[sub,u]
  .injection F with f _ _
   rw[G] at f;injection f with f
   injection f with f _
   subst f;exact .inr (x.fresh b g c (by rw[o];simp) u)
theorem Cj(L:bB B γ σ.mem w){m:Nat->Nat->Prop}(M:∀b o,γ.I b o->m b o)(A:∀b o,B.has b->b<w.heap.size->m b o):∀{v:aO} {t:Ty} {x:t.den} {cs:List Value},
  cl γ σ.mem w v .cells cs->qJ σ t v=some x->bI w m t x cs:=by
 have C:∀{v:aO} {e:Ty} {l:List e.den} {cs:List Value},cV v=1->(∀c,cl γ σ.mem w v .cells [c]->cl γ σ.mem w v .val [c])->(∀t x,v≠.data t x)->cl γ σ.mem w v .cells cs->gd e σ v=some l->bI w m (.slice e) l cs:=by
  intro v e l cs D i E h f;obtain⟨c,rfl⟩:=F9 h D;have hv:=i c h;refine(rm L hv f).ahq M λF O Q R G o=>?_;subst R;rcases OK L hv f G with ⟨q,j⟩|⟨H,S⟩
  .exact absurd j (E _ _)
  .exact A F o H S
 intro v;induction v with
 | data u y =>
   intro t x cs h f;have key:(∃q:u=t,x=q▸y):=by
    cases t with
    | slice e =>
      rcases mz (show gd e σ (.data u y)=some x from f) with g|⟨g,_⟩|⟨_,_,_,g,_⟩|⟨_,_,_,_,_,g,_⟩
      .injection g with T U;subst T;exact⟨rfl,(eq_of_heq U).symm⟩
      .cases g
      .cases g
      .cases g
    | _=>exact Ty.kz f
   obtain⟨q,j⟩:=key;subst q;subst j;exact bI.mono M (λ_ _ _=>rfl) h
 | mix p q J K =>
   intro t x cs h f;cases t with
   | pair s r =>
     obtain⟨V,W,rfl,D,H⟩:=h;obtain⟨y,z,X,j,rfl⟩:=Dd f;exact⟨V,W,rfl,J D X,K H j⟩
   | slice e=>exact absurd f (by intro k;cases k)
   | _=>cases f
 | oa =>
   intro t x cs h f;cases t with
   | slice e=>exact C (v:=.oa) rfl (λc k=>k) (λ_ _=>by simp) h f
   | _=>cases f
 | whole b aP =>
   intro t x cs h f;cases t with
   | slice e=>exact C (v:=.whole b aP) rfl (λc k=>k) (λ_ _=>by simp) h f
   | _=>cases f
 | part b aP lo n =>
   intro t x cs h f;cases t with
   | slice e=>exact C (v:=.part b aP lo n) rfl (λc k=>k) (λ_ _=>by simp) h f
   | _=>cases f
 | ss =>
   intro t x cs h f;obtain rfl:cs=[.nilIface]:=h;exact(pz f).1 _ _
 | _ =>
   intro t x cs h f;cases t with
   | slice e=>exact absurd f (by intro k;cases k)
   | _=>cases f
theorem Ja(m:bB B γ σ.mem w){l:Nat->Nat->Prop}(z:∀b o,γ.I b o->l b o)(i:∀b o,B.has b->b<w.heap.size->l b o){v:aO}{t:Ty}{x:t.den}{f:Value}
  (h:cl γ σ.mem w v .val [f]) (c:qJ σ t v=some x):∃cs,bI w l t x cs/\f=bZ t cs:=by
 have one:∀{v:aO},cl γ σ.mem w v .cells [f]->(∃e,t=.slice e)->qJ σ t v=some x->∃cs,bI w l t x cs/\f=bZ t cs:=by
  intro v j F c;obtain⟨e,rfl⟩:=F;exact⟨[f],Cj m z i j c,rfl⟩
 cases v with
 | data u y =>
   obtain⟨cs,A,C⟩:=dQ.1 h;have j:=Cj m z i (v:=.data u y) (cs:=cs) A c;refine⟨cs,j,?_⟩;rw[C];have:u.isAgg=t.isAgg:=by
    cases t with
    | slice e =>
      rcases mz (show gd e σ (.data u y)=some x from c) with g|⟨g,_⟩|⟨_,_,_,g,_⟩|⟨_,_,_,_,_,g,_⟩
      .injection g with G J;rw[G]
      .cases g
      .cases g
      .cases g
    | _=>obtain⟨q,_⟩:=Ty.kz c;rw[q]
   unfold bZ;rw[this]
 | mix p q =>
   obtain⟨D,E,H,A,C⟩:=h;obtain rfl:f=_:=by simpa using H
   have j:=Cj m z i (v:=.mix p q) (cs:=D++E) ⟨D,E,rfl,A,C⟩ c;refine⟨_,j,?_⟩;cases t with
   | pair s r=>rfl
   | slice e=>exact absurd c (by intro k;cases k)
   | _=>cases c
 | oa=>cases t with
   | slice e=>exact one h ⟨e,rfl⟩ c
   | _=>cases c
 | whole b aP=>cases t with
   | slice e=>exact one h ⟨e,rfl⟩ c
   | _=>cases c
 | part b aP lo n=>cases t with
   | slice e=>exact one h ⟨e,rfl⟩ c
   | _=>cases c
 | ss =>
   have h:[f]=[Value.nilIface]:=h;obtain rfl:f=.nilIface:=by simpa using h
   exact⟨[.nilIface],(pz c).1 _ _,(pz c).2.2.1.symm⟩
 | _=>cases t with
   | slice e=>exact absurd c (by intro k;cases k)
   | _=>cases c
def lV(e:Gh)(b:Nat->Option bF)(w:World)(c:List aO)(xs:List Value):Prop:=xs.length=c.length/\∀(i:Nat) v x,c[i]?=some v->xs[i]?=some x->cl e b w v .val [x]
theorem lV.cons{b:Nat->Option bF}{v:aO}{e:List aO}{c:List Value}(h:lV γ b w (v::e) c):∃x r,c=x::r/\cl γ b w v .val [x]/\lV γ b w e r:=by
 cases c with
 | nil=>cases h.1
 | cons x r=>exact⟨x,r,rfl,h.2 0 v x rfl rfl,by simpa using h.1,λi f g j k=>h.2 (i+1) f g j k⟩
theorem lV.ext{c b:Nat->Option bF}{e:Gh}{f:List aO}{g:List Value}(h:lV γ c w f g)(j:Ext B γ c w e b w'):lV e b w' f g:=⟨h.1,λi v x k l=>(h.2 i v x k l).ext j⟩
theorem Lw(j:bB B γ σ.mem w){I':Nat->Nat->Prop}(k:∀b o,γ.I b o->I' b o)(g:∀b o,B.has b->b<w.heap.size->I' b o):∀{A:Ty} {x:A.den} {vs:List aO} {e:List Value},
  lV γ σ.mem w vs e->iv σ A vs=some x->iy w I' A x e:=by
 intro A;induction A with
 | pair t r l i =>
   intro x vs e h c;cases vs with
   | nil=>cases c
   | cons v vs =>
     obtain⟨y,f,rfl,m,n⟩:=h.cons;simp only[iv] at c;split at c
     .rename_i p q s u;obtain rfl:=aI c;obtain⟨z,C,D⟩:=Ja j k g m s;exact⟨z,f,by rw[D],C,i n u⟩
     .cases c
 | unit =>
   intro x vs e h c;cases vs with
   | nil=>exact wN.1 h.1
   | cons v vs=>cases c
 | _=>intro x vs e h c;cases vs<;>cases c
theorem iy.mono{I I':Nat->Nat->Prop}(f:∀b o,I b o->I' b o)(g:∀b o,I b o->w'.cell? ⟨b,o,none⟩=w.cell? ⟨b,o,none⟩):∀{A:Ty} {x:A.den} {c:List Value},iy w I A x c->iy w' I' A x c:=by
 intro A;induction A with
 | pair t r i e=>intro x c h;obtain⟨j,rest,k,l,m⟩:=h;exact⟨j,rest,k,bI.mono f g l,e m⟩
 | _=>intro x c h;exact h
theorem rO:∀{A:Ty} {x:A.den} {vs:List aO} {xs:List Value} {σ bb:St} {γ:Gh},cW B N γ σ a w->lV γ σ.mem w vs xs->kA σ A vs=some (x,bb) ->
  ∃bQ,cW B N bQ bb a w/\Ext B γ σ.mem w bQ bb.mem w/\iy w bQ.I A x xs:=by
 intro A;induction A with
 | pair t r l f =>
   intro x vs xs σ bb γ h e b;cases vs with
   | nil=>cases b
   | cons v vs =>
     obtain⟨y,c,rfl,m,n⟩:=e.cons;simp only[kA] at b;split at b
     .rename_i p bG o;split at b
      .rename_i q cf s;obtain⟨rfl,rfl⟩:=br (aI b);obtain⟨u,z,k,C,D,g⟩:=mA h m o;obtain g:y=_:=by simpa using g
       obtain⟨i,E,j,F⟩:=f z (n.ext k) s;exact⟨i,E,k.trans j,C,c,by rw[g],bI.mono j.I j.cells D,F⟩
      .cases b
     .cases b
 | unit =>
   intro x vs xs σ bb γ h e b;cases vs with
   | nil=>obtain⟨rfl,rfl⟩:=br (aI b);exact⟨γ,h,Ext.refl _ _ _ _,wN.1 e.1⟩
   | cons v vs=>cases b
 | _=>intro x vs xs σ bb γ h e b;cases vs<;>cases b
def aan(w:World)(I:Nat->Nat->Prop)(e:Ty)(g:Nat)(l:List e.den)(L:Option (Nat×Nat))(v:Value):Prop :=
 0<e.size/\((L=none/\l=[]/\v=.slice none 0 0)\/∃c b f tid h,L=some (c,b)/\v=.slice (some ⟨c,0,none⟩) l.length b/\w.heap[c]?=some (.cells f tid h)/\ThB e f h/\(g=0\/tid=g) /\
  l.length<=b/\b<=maxLen/\f.size=b*e.size/\(∀o,¬I c o)/\∀(i:Nat) (x:e.den),l[i]?=some x->bI w I e x ((f.toList.drop<|i*e.size).take e.size))
def zC(w:World)(I:Nat->Nat->Prop):(o:OT)->o.den->List Value->List Nat->List (Option<|Nat×Nat)->Prop
 | .zl t,x,cs,b,ls=>bI w I t x cs/\b=[]/\ls=[]
 | .buf e g,l,cs,b,ls=>∃L v,cs=[v]/\b=[]/\ls=[L]/\aan w I e g l L v
 | .ref tid o,u,cs,b,ls=>∃c r,cs=[.pointer<|some ⟨c,0,none⟩]/\b=c::r/\(∀h,¬I c h)/\∃f i j,w.heap[c]?=some (.cells f i j)/\lT f j/\(tid=0\/i=tid)/\zC w I o u f.toList r ls
 | .pair p q,u,cs,b,ls=>∃k m n s y z,cs=k++m/\b=n++s/\ls=y++z/\zC w I p u.1 k n y/\zC w I q u.2 m s z
 | .unit,_,cs,b,ls=>cs=[]/\b=[]/\ls=[]
def cQ(b:List Nat)(c:List (Option<|Nat×Nat)):List Nat:=b++c.filterMap λL=>L.map (·.1)
def Rm(w:World)(I:Nat->Nat->Prop):List Bool->(A:Ty)->(U:OT)->A.den->List Value->List Value->Prop
 | [],A,U,_,vs,lS=>A=.unit/\U=.unit/\vs=[]/\lS=[]
 | false::ps,A,U,x,vs,lS=>match A,x with
   | .pair t A,x=>∃c b,vs=bZ t c::b/\bI w I t x.1 c/\Rm w I ps A U x.2 b lS
   | _,_=>False
 | true::ps,A,U,x,vs,lS=>match U with
   | .pair (.ref _ _) U=>∃v b r,vs=v::b/\lS=v::r/\Rm w I ps A U x b r
   | _=>False
structure eN (P:Program) (G:fm) (f:Nat) (c:xQ):Prop where
 body:∃fn code,P.funcs[f]?=some fn/\(fn.name == "runtime.NumGoroutine")=false/\fn.body=some code
 calls:∀(I:Nat->Nat->Prop) (w:World) (args:Array Value) (lS:List Value) (bs:List Nat) (ls:List (Option<|Nat×Nat)) (x:c.A.den) (u:c.U.den) (y:c.R.den×c.U.den),(∀b o,I b o->b<w.heap.size)->EH G w->(∀b Q,G b Q->b∉cQ bs ls) ->
  Rm w I c.ps c.A c.U x args.toList lS->zC w I c.U u lS bs ls->(cQ bs ls).Nodup->c.spec (x,u)=some y ->
  Calls P f args w λe w'=>∃v I' ls',e=.returned v/\uD ⟨w.heap.size,(·∈cQ bs ls),G⟩ w w'/\(∀b o,I b o->I' b o)/\(∀b o,I' b o->b<w'.heap.size)/\(∀b o,I' b o->¬I b o->w.heap.size<=b\/b∈cQ bs ls)/\lU w' I' c.R y.1 v /\
   zC w' I' c.U y.2 lS bs ls'/\(cQ bs ls').Nodup/\∀blk∈cQ [] ls',blk∈cQ bs ls\/w.heap.size<=blk
structure vn (og:Option Nat) (w w':World):Prop where
 os:w'.os=w.os
 tape:w'.tape=w.tape
 output:w'.output=w.output
 size:w.heap.size<=w'.heap.size
 block:∀k,k<w.heap.size->og≠some k->w'.heap[k]?=w.heap[k]?
 cell:∀k o,k<w.heap.size->w'.cell? ⟨k,o,none⟩=w.cell? ⟨k,o,none⟩
def vy(w:World)(I:Nat->Nat->Prop)(e:Ty)(l:List e.den)(L:Option (Nat×Nat))(v:Value):Prop :=
 (L=none/\l=[]/\v=.slice none 0 0)\/∃c b f tid g,L=some (c,b)/\v=.slice (some ⟨c,0,none⟩) l.length b/\w.heap[c]?=some (.cells f tid g)/\ThB e f g /\
  l.length<=b/\b<=maxLen/\f.size=b*e.size/\(∀o,¬I c o)/\∀(i:Nat) (x:e.den),l[i]?=some x->bI w I e x ((f.toList.drop<|i*e.size).take e.size)
structure kG (w:World) (I:Nat->Nat->Prop) (X:Nat->Prop) (w':World) (I':Nat->Nat->Prop):Prop where
 below:uD ⟨w.heap.size,X,vv⟩ w w'
 held:∀b o,I b o->I' b o
 tu:∀b o,I' b o->b<w'.heap.size
 pZ:∀b o,I' b o->¬I b o->w.heap.size<=b
def gk(P:Program)(f:Nat):Xk->Prop
 | .chk T=>(∃fn h,P.funcs[f]?=some fn/\(fn.name == "runtime.NumGoroutine")=false/\fn.body=some h) /\
  ∀(w:World) (b:Nat) (p v:Value) (n:Nat×Nat),w.heap[b]?=some (.cells #[p,v] T n)->¬(n.1<=0/\0<n.2)->(p=.pointer none\/p=.pointer (some ⟨b,0,none⟩)) ->
   Calls P f #[.pointer<|some ⟨b,0,none⟩] w λe w'=>e=.returned (.tuple #[])/\(w'=w\/w'=w.setRow b #[.pointer<|some ⟨b,0,none⟩,v])
 | .str T E=>(∃fn h,P.funcs[f]?=some fn/\(fn.name == "runtime.NumGoroutine")=false/\fn.body=some h) /\
  ∀(w:World) (b:Nat) (p v:Value) (n:Nat×Nat) (l:aq) (r:Option Nat),w.heap[b]?=some (.cells #[p,v] T n) ->
   ((r=none/\v=.slice none 0 0/\l=[])\/∃(g cap:Nat) (cur:Array Value) (fr':Nat×Nat),r=some g/\v=.slice (some ⟨g,0,none⟩) l.length cap/\w.heap[g]?=some (.cells cur E fr')/\l.length<=cap/\cap<=maxLen/\cur.size=cap/\∀(j:Nat) (x:UInt8),l[j]?=some x->cur[j]?=some (Value.int .u8 x.toNat)) ->
   Calls P f #[.pointer<|some ⟨b,0,none⟩] w λe w'=>e=.returned (.string ⟨l.toArray⟩)/\vn r w w'
 | .clone e=>(∃fn h,P.funcs[f]?=some fn/\(fn.name == "runtime.NumGoroutine")=false/\fn.body=some h) /\
  ∀(I:Nat->Nat->Prop) (w:World) (args:Array Value) (l:List e.den),(∀b o,I b o->b<w.heap.size)->iy w I (.pair (.slice e) .unit) (l,()) args.toList->fits (len l)=true ->
   Calls P f args w λq w'=>∃v m L,q=.returned v/\kG w I (λ_=>False) w' m/\vy w' m e l L v/\∀i c,L=some (i,c)->w.heap.size<=i
 | .own e A res spec=>(∃fn h,P.funcs[f]?=some fn/\(fn.name == "runtime.NumGoroutine")=false/\fn.body=some h) /\
  ∀(I:Nat->Nat->Prop) (w:World) (args:Array Value) (v:Value) (rest:List Value) (l l':List e.den) (L:Option (Nat×Nat)) (x:A.den),(∀b o,I b o->b<w.heap.size)->args.toList=v::rest->vy w I e l L v->iy w I A x rest->spec l x=some l' ->
   Calls P f args w λq w'=>∃m,kG w I (λk=>∃c,L=some (k,c)) w' m /\
    match res with
    | true=>∃s t,q=.returned s/\vy w' m e l' t s/\∀i c,t=some (i,c)->(∃c,L=some (i,c))\/w.heap.size<=i
    | false=>q=.returned (.tuple #[])/\l'.length=l.length/\vy w' m e l' L v
 | .CR g=>(∃fn h,P.funcs[f]?=some fn/\(fn.name == "runtime.NumGoroutine")=false/\fn.body=some h) /\
  ∃T,∀(w:World) (v:Value),Calls P f #[v] w λq w'=>q=.returned (.func (.func g) #[] #[.pointer<|some ⟨w.heap.size,0,none⟩])/\w'=w.alloc (.cells v.cells T)
structure pA (P:Program) (G:fm) (cx:Ctx):Prop where
 Zl:∀f c,find cx.Zl f=some c->Holds P G f c
 TP:∀f c,find cx.TP f=some c->eN P G f c
 Lo:∀f s,find cx.Lo f=some s->gk P f s
 inv:∀name c,Q1 cx.inv name=some c->kF P G name c
theorem Dj{l:List Nat}{t:Nat}:cP l t=true↔t∈l:=by
 induction l with
 | nil=>simp[cP]
 | cons i r b =>
   simp only[cP,wc,fP,b];constructor
   .rintro(h|h)
    .exact .inl (eT h)
    .exact .inr h
   .rintro(h|h)
    .subst h;exact .inl (by simp)
    .exact .inr h
theorem ES{l:List Nat}:IG l=true↔l.Nodup:=by
 induction l with
 | nil=>simp[IG]
 | cons b r c =>
   simp only[IG,dv,jL,zn,c];constructor
   .rintro⟨h,k⟩;exact⟨λq=>(by rw[Dj.2 q] at h;cases h),k⟩
   .rintro⟨h,k⟩;refine⟨?_,k⟩;cases e:cP r b with
    | false=>rfl
    | true=>exact absurd (Dj.1 e) h
theorem zC.len{w:World}{I:Nat->Nat->Prop}:∀{o:OT} {u:o.den} {cs:List Value} {b:List Nat} {ls:List (Option<|Nat×Nat)},zC w I o u cs b ls->b.length=o.nr/\ls.length=o.nb:=by
 intro o;induction o with
 | zl t=>intro u cs b ls h;rw[h.2.1,h.2.2];exact⟨rfl,rfl⟩
 | buf e i=>intro u cs b ls h;obtain⟨L,v,_,rfl,rfl,_⟩:=h;exact⟨rfl,rfl⟩
 | ref tid o j =>
   intro u cs b ls h;obtain⟨k,r,_,rfl,_,l,n,s,_,_,_,c⟩:=h;have:=j c;exact⟨by simp[OT.nr,this.1],this.2⟩
 | pair p q f g =>
   intro u cs b ls h;obtain⟨x,y,z,A,C,D,_,rfl,rfl,c,m⟩:=h;have:=f c;have:=g m;simp_all[OT.nr,OT.nb]
 | unit=>intro u cs b ls h;rw[h.2.1,h.2.2];exact⟨rfl,rfl⟩
def Gd(c:Nat->Option bF):(o:OT)->o.den->List (Nat×Nat)->List (Nat×Nat)->Prop
 | .zl _,_,_,_=>True
 | .buf e f,l,_,M=>∃b v r,M=(b,v)::r/\c b=some { val:=.data (.slice e) l,tid:=f,buf:=true,ro:=false,lk:=false,aP:=v }
 | .ref tid o,u,N,M=>∃b v r,N=(b,v)::r/\c b=some { val:=IF o u r M,tid,buf:=false,ro:=false,lk:=false,aP:=v }/\Gd c o u r M
 | .pair p q,u,N,M=>Gd c p u.1 (N.take p.nr) (M.take p.nb)/\Gd c q u.2 (N.drop p.nr) (M.drop p.nb)
 | .unit,_,_,_=>True
theorem pe:∀{o:OT} {u:o.den} {N M:List (Nat×Nat)} {c:Nat} {f:bF},iH o u N M c=some f->c∈bq N M:=by
 intro o;induction o with
 | zl t=>intro u N M c f h;cases h
 | buf e l =>
   intro u N M c f h;cases M with
   | nil=>cases h
   | cons p r =>
     unfold iH at h;cases g:Nat.beq c p.1 with
     | true=>rw[eT g];simp[bq]
     | false=>dsimp only at h;rw[g] at h;cases h
 | ref tid o s =>
   intro u N M c f h;cases N with
   | nil=>cases h
   | cons p r =>
     unfold iH at h;cases g:Nat.beq c p.1 with
     | true=>rw[eT g];simp[bq]
     | false =>
       dsimp only at h;rw[g] at h;have:=s h;unfold bq at this⊢;simp only[sX,zi,fP];exact .inr this
 | pair p q i j =>
   intro u N M c f h;unfold iH at h;have k:∀{n m:Nat},(c∈bq (N.take n) (M.take m)->c∈bq N M)/\(c∈bq (N.drop n) (M.drop m)->c∈bq N M):=by
    intro n m;unfold bq;simp only[pO,pQ];constructor
    .rintro(⟨a,b,rfl⟩|⟨a,b,rfl⟩)
     .exact .inl ⟨a,CO b,rfl⟩
     .exact .inr ⟨a,CO b,rfl⟩
    .rintro(⟨a,b,rfl⟩|⟨a,b,rfl⟩)
     .exact .inl ⟨a,FU b,rfl⟩
     .exact .inr ⟨a,FU b,rfl⟩
   split at h
   .rename_i x v;exact k.1 (i v)
   .exact k.2 (j h)
 | unit=>intro u N M c f h;cases h
theorem XA{c:Nat->Option bF}{t:Ty}{v:aO}{x:t.den}{b:Value}(f:cl γ c w v .val [b])(h:toD t v=some x):∃g,bI w γ.I t x g/\b=bZ t g:=by
 unfold toD at h;split at h
 .rename_i u y;obtain⟨q,i⟩:=Ty.kz h;subst q;subst i;exact dQ.1 f
 .split at h
  .rename_i e;obtain rfl:=aI h;obtain rfl:b=_:=by simpa [cl] using f
   exact⟨[.slice none 0 0],.inl ⟨⟨none,rfl⟩,rfl⟩,rfl⟩
  .cases h
 .cases h
theorem Rn{t:Ty}{v:aO}{x:t.den}(h:toS t v=some x):v=.data t x:=by
 unfold toS at h;split at h
 .obtain⟨q,b⟩:=Ty.kz h;subst q;subst b;rfl
 .cases h
theorem Ro{k:Nat->Option bF}:∀{o:OT} {u:o.den} {N M:List (Nat×Nat)},N.length=o.nr->M.length=o.nb->(bq N M).Nodup->(∀c f,iH o u N M c=some f->k c=some f)->Gd k o u N M:=by
 intro o;induction o with
 | zl t=>intro u N M _ _ _ _;trivial
 | buf e H =>
   intro u N M _ l _ h;cases M with
   | nil=>cases l
   | cons p r=>exact⟨p.1,p.2,r,rfl,h p.1 _ (by unfold iH;dsimp only;rw[CQ];rfl)⟩
 | ref tid o I =>
   intro u N M n l i h;cases N with
   | nil=>cases n
   | cons p r =>
     refine⟨p.1,p.2,r,rfl,h p.1 _ (by unfold iH;dsimp only;rw[CQ];rfl),I (by simpa [OT.nr] using n) l ?_ λc f j=>?_⟩
     .unfold bq at i⊢;simp only[sX,zi,zn] at i;exact i.2
     .refine h c f ?_;have s:Nat.beq c p.1=false:=by
       cases v:Nat.beq c p.1 with
       | false=>rfl
       | true =>
         have y:=pe j;rw[eT v] at y;unfold bq at i y;simp only[sX,zi,zn] at i;exact absurd y i.1
      unfold iH;dsimp only;rw[s];exact j
 | pair p q z A =>
   intro u N M n l i h;have J:N.take p.nr++N.drop p.nr=N:=uu ..;have K:M.take p.nb++M.drop p.nb=M:=uu ..;simp only[OT.nr,OT.nb] at n l;have g:((N.take p.nr).map (·.1)++(N.drop p.nr).map (·.1)++((M.take p.nb).map (·.1)++(M.drop p.nb).map (·.1))).Nodup:=by
    rw[<-xO,<-xO,J,K];exact i
   have d1:(bq (N.take p.nr)<|M.take p.nb).Nodup:=by
    unfold bq;refine g.sublist ?_;exact List.Sublist.append (adU _ _) (adU _ _)
   have d2:(bq (N.drop p.nr)<|M.drop p.nb).Nodup:=by
    unfold bq;refine g.sublist ?_;exact List.Sublist.append (Zs _ _) (Zs _ _)
   have m:∀c,c∈bq (N.take p.nr) (M.take p.nb)->c∉bq (N.drop p.nr) (M.drop p.nb):=by
    intro c C D;unfold bq at C D;rw[Br] at g;obtain⟨E,F,G⟩:=g;rw[Br] at E F;rcases pO.1 C with a|a<;>rcases pO.1 D with b|b
    .exact E.2.2 c a c b rfl
    .exact G c (mZ _ a) c (mY _ b) rfl
    .exact G c (mY _ b) c (mZ _ a) rfl
    .exact F.2.2 c a c b rfl
   refine⟨z (by rw[fB];omega) (by rw[fB];omega) d1 λc f j=>h c f ?_,A (by rw[kx];omega) (by rw[kx];omega) d2 λc f j=>h c f ?_⟩
   .show(match iH p u.1 (N.take p.nr) (M.take p.nb) c with|some x=>some x|none=>_)=some f
    rw[j]
   .show(match iH p u.1 (N.take p.nr) (M.take p.nb) c with|some x=>some x|none=>iH q u.2 (N.drop p.nr) (M.drop p.nb) c)=some f
    cases v:iH p u.1 (N.take p.nr) (M.take p.nb) c with
    | none=>exact j
    | some x=>exact absurd (pe j) (m c<|pe v)
 | unit=>intro u N M _ _ _ _;trivial
def iJ(γ:Gh)(N:List (Nat×Nat))(b:List Nat):Prop:=N.map (λp=>(γ.loc p.1).map (·.1))=b.map some
def p6(γ:Gh)(M:List (Nat×Nat))(b:List (Option<|Nat×Nat)):Prop:=M.map (λp=>γ.loc p.1)=b
theorem iJ.split{N:List (Nat×Nat)}{b c:List Nat}{n:Nat}(h:iJ γ N (b++c))(e:b.length=n):iJ γ (N.take n) b/\iJ γ (N.drop n) c:=by
 unfold iJ at h⊢;rw[ZT,ZU,h,xO,F1 (by simp[e]),F0 (by simp[e])];exact⟨rfl,rfl⟩
theorem p6.split{M:List (Nat×Nat)}{b c:List (Option<|Nat×Nat)}{n:Nat}(h:p6 γ M (b++c))(e:b.length=n):p6 γ (M.take n) b/\p6 γ (M.drop n) c:=by
 unfold p6 at h⊢;rw[ZT,ZU,h,F1 e,F0 e];exact⟨rfl,rfl⟩
theorem aan.rep{j:Nat->Option bF}{e:Ty}{n:Nat}{l:List e.den}{L:Option (Nat×Nat)}{v:Value}{b k:Nat}{bx:bF}(h:aan w γ.I e n l L v)
  (f:γ.loc b=L) (s:j b=some bx) (g:bx.aP=k) (c:bx.buf=true) (i:bx.val=.data (.slice e) l):cl γ j w (.whole b k) .cells [v]:=by
 rcases h.2 with ⟨o,p,q⟩|⟨m,r,t,tid,u,o,p,q,x,y,z,A,C,D⟩
 .exact⟨⟨v,rfl,by rw[q];rfl⟩,eE s g ⟨e,l.length,c,bF.dk c i,.inl ⟨by rw[<-o];exact f,by rw[q]⟩⟩⟩
 .exact⟨⟨v,rfl,by rw[p];rfl⟩,eE s g ⟨e,l.length,c,bF.dk c i,.inr ⟨m,r,by rw[<-o];exact f,by rw[p]⟩⟩⟩
theorem Wi{k:Nat->Option bF}:∀{o:OT} {u:o.den} {cs:List Value} {c:List Nat} {ls:List (Option<|Nat×Nat)} {N M:List (Nat×Nat)},zC w γ.I o u cs c ls->iJ γ N c->p6 γ M ls->Gd k o u N M ->
  cl γ k w (IF o u N M) .cells cs:=by
 intro o;induction o with
 | zl t=>intro u cs c ls N M h _ _ _;exact h.1
 | buf e x =>
   intro u cs c ls N M h f g i;obtain⟨L,v,rfl,rfl,rfl,j⟩:=h;obtain⟨b,y,r,rfl,l⟩:=i;unfold p6 at g;simp only[sX,MX] at g;exact j.rep g.1 l rfl rfl rfl
 | ref tid o K =>
   intro u cs c ls N M h f g i;obtain⟨m,r,rfl,rfl,_,z,O,Q,_,_,_,j⟩:=h;obtain⟨b,y,R,rfl,l,_⟩:=i;unfold iJ at f;simp only[sX,MX] at f;obtain⟨q,A,C⟩:=qY.1 f.1;refine⟨⟨_,rfl,rfl⟩,eE l rfl ⟨m,q.2,?_,rfl⟩⟩;rw[A,<-C]
 | pair p q n s =>
   intro u cs c ls N M h f g i;obtain⟨D,E,S,T,U,V,rfl,rfl,rfl,j,F⟩:=h;obtain⟨G,H⟩:=f.split j.len.1;obtain⟨m1,J⟩:=g.split j.len.2;exact⟨D,E,rfl,n j G m1 i.1,s F H J i.2⟩
 | unit=>intro u cs c ls N M h _ _ _;rw[h.1];exact rfl
theorem M9{F:Nat->Option bF}:∀{o:OT} {u:o.den} {cs:List Value} {n:List Nat} {ls:List (Option<|Nat×Nat)} {N M:List (Nat×Nat)},zC w γ.I o u cs n ls->iJ γ N n->p6 γ M ls->Gd F o u N M ->
  ∀{c:Nat} {s:bF},iH o u N M c=some s->cE γ F w c s/\s.ro=false/\∀blk k,γ.loc c=some (blk,k)->blk∈cQ n ls/\(∃x,w.heap[blk]?=some x)/\∀o,¬γ.I blk o:=by
 intro o;induction o with
 | zl t=>intro u cs n ls N M _ _ _ _ c s h;cases h
 | buf e Xj =>
   intro u cs n ls N M h y j E c s f;obtain⟨L,v,rfl,rfl,rfl,l⟩:=h;obtain⟨b,vr,r,rfl,hb⟩:=E;unfold p6 at j;simp only[sX,MX] at j;unfold iH at f;dsimp only at f;cases G:Nat.beq c b with
   | false=>rw[G] at f;cases f
   | true =>
     rw[G] at f;obtain rfl:=eT G;obtain rfl:=aI f;refine⟨?_,rfl,λblk k i=>?_⟩
     .unfold cE;refine⟨e,u,rfl,l.1,?_⟩;rcases l.2 with ⟨z,U,H⟩|⟨g,J,m,tid,V,z,U,H,Y,Z,q6,q7,q8,q9,K⟩
      .exact .inl ⟨by rw[j.1];exact z,U⟩
      .exact .inr ⟨g,J,m,tid,V,by rw[j.1];exact z,H,Y,Z,q6,q7,q8,K⟩
     .rcases l.2 with ⟨z,U,H⟩|⟨g,J,m,tid,V,z,U,H,Y,Z,q6,q7,q8,q9,K⟩
      .rw[j.1,z] at i;cases i
      .rw[j.1,z] at i;obtain⟨rfl,rfl⟩:=br (aI i);exact⟨by simp[cQ,z],⟨_,H⟩,q9⟩
 | ref tid o ih =>
   intro u cs n ls N M h y j E c s f;obtain⟨blk,r,rfl,rfl,A,m,t',V,k1,k2,k3,l⟩:=h;obtain⟨b,vr,r',rfl,hb,O⟩:=E;unfold iJ at y;simp only[sX,MX] at y;obtain⟨q,G,he⟩:=qY.1 y.1;have Q:γ.loc b=some (blk,q.2):=by rw[G,<-he]
   unfold iH at f;dsimp only at f;cases C:Nat.beq c b with
   | false =>
     rw[C] at f;obtain⟨R,S,D⟩:=ih l y.2 j O f;refine⟨R,S,λg k i=>?_⟩;obtain⟨j1,j2⟩:=D g k i;refine⟨?_,j2⟩;unfold cQ at j1⊢;exact nX _ j1
   | true =>
     rw[C] at f;obtain rfl:=eT C;obtain rfl:=aI f;refine⟨?_,rfl,λg k i=>?_⟩
     .unfold cE;exact⟨blk,q.2,m,t',V,Q,k1,k2,k3,Wi l y.2 j O⟩
     .rw[Q] at i;obtain⟨rfl,rfl⟩:=br (aI i);exact⟨by simp[cQ],⟨_,k1⟩,A⟩
 | pair p q W X =>
   intro u cs n ls N M h y j E c s f;obtain⟨c1,c2,b1,b2,l1,l2,rfl,rfl,rfl,l,h2⟩:=h;obtain⟨n1,n2⟩:=y.split l.len.1;obtain⟨m1,m2⟩:=j.split l.len.2;have T:∀{blk},(blk∈cQ b1 l1\/blk∈cQ b2 l2)->blk∈cQ (b1++b2) (l1++l2):=by
    intro blk;unfold cQ;simp only[adZ,pO];rintro((a|a)|(a|a))
    .exact .inl (.inl a)
    .exact .inr (.inl a)
    .exact .inl (.inr a)
    .exact .inr (.inr a)
   unfold iH at f;split at f
   .rename_i x hx;obtain rfl:=aI f;obtain⟨R,S,D⟩:=W l n1 m1 E.1 hx;exact⟨R,S,λblk k i=>⟨T<|.inl (D blk k i).1,(D blk k i).2⟩⟩
   .obtain⟨R,S,D⟩:=X h2 n2 m2 E.2 f;exact⟨R,S,λblk k i=>⟨T<|.inr (D blk k i).1,(D blk k i).2⟩⟩
 | unit=>intro u cs n ls N M _ _ _ _ c s h;cases h
def Handed(c:Nat->Option bF)(p:Nat×Nat):Prop:=∃b,c p.1=some b/\b.aP=p.2/\b.lk=false/\b.ro=false
theorem OL{e:Nat->Option bF}(h:bB B γ e w){b c k:Nat}{f:bF}(i:e b=some f)(g:f.ro=false)(j:γ.loc b=some (c,k))(o:Nat):¬γ.I c o:=λl=>by
 have:=(h.sep b f c k o i j l).1;rw[g] at this;cases this
theorem Na{G:Nat->Option bF}(X:bB B γ G w):∀{o:OT} {v:aO} {cs:List Value} {u:o.den} {N M:List (Nat×Nat)},cl γ G w v .cells cs->dE G o v=some (u,N,M) ->
  ∃U,iJ γ N U/\zC w γ.I o u cs U (M.map λp=>γ.loc p.1)/\∀p∈N++M,Handed G p:=by
 intro o;induction o with
 | zl t =>
   intro v cs u N M C h;unfold dE at h;split at h
   .rename_i x hx;obtain⟨rfl,q⟩:=br (aI h);obtain⟨rfl,rfl⟩:=br q;rw[Rn hx] at C;exact⟨[],rfl,⟨C,rfl,rfl⟩,λp F=>by cases F⟩
   .cases h
 | buf e Xj =>
   intro v cs u N M C h;unfold dE at h;split at h
   case h_2=>cases h
   rename_i b H;split at h
   case h_2=>cases h
   rename_i i J;cases g:(Nat.beq i.aP H&&i.buf&&!i.lk&&!i.ro&&Nat.beq i.tid Xj&&Nat.blt 0 e.size) with
   | false=>rw[g] at h;cases h
   | true =>
     rw[g] at h;simp only[dv,jL] at g;obtain⟨⟨⟨⟨⟨c,s⟩,Q⟩,D⟩,f⟩,R⟩:=g;have c:=eT c;have f:=eT f;have R:0<e.size:=by simpa using R
     simp only[eC] at h;split at h
     case h_2=>cases h
     rename_i t l0 O;split at h
     case h_2=>cases h
     rename_i l hl;obtain⟨rfl,q⟩:=br (aI h);obtain⟨rfl,rfl⟩:=br q;obtain⟨rfl,rfl⟩:=jM hl;obtain⟨v,rfl⟩:∃v,cs=[v]:=by obtain⟨⟨v,e,_⟩,_⟩:=C;exact⟨v,e⟩
     obtain⟨e',n,k1,Y,E⟩:=bk J c C.2;rw[bF.dk s O] at Y;obtain⟨rfl,rfl⟩:=br (aI Y);have j:=X.boxes b i J;unfold cE at j;rw[s] at j;obtain⟨t2,l2,K,a2,m⟩:=j;rw[O] at K;injection K with K a4
     injection K with K
     subst K;obtain rfl:=eq_of_heq a4;refine⟨[],rfl,⟨γ.loc b,v,rfl,rfl,rfl,R,?_⟩,λp F=>?_⟩
     .rcases E with ⟨E,k4⟩|⟨blk,S,E,k4⟩
      .rcases m with ⟨m,T⟩|⟨blk,S,L,tid,Z,m,_⟩
       .exact .inl ⟨m,T,ur k4⟩
       .rw[E] at m;cases m
      .rcases m with ⟨m,T⟩|⟨V,acw,L,tid,Z,m,T,a6,a7,a8,a9,a10,a11⟩
       .rw[E] at m;cases m
       .rw[E] at m;obtain⟨rfl,rfl⟩:=br (aI m);exact .inr ⟨blk,S,L,tid,Z,E,ur k4,T,a6,by rw[<-f];exact a7,a8,a9,a10,λo=>OL X J D E o,a11⟩
     .simp only[sW,wO] at F;subst F;exact⟨i,J,c,Q,D⟩
 | ref tid o ih =>
   intro v cs u N M C h;unfold dE at h;split at h
   case h_2=>cases h
   rename_i b H;split at h
   case h_2=>cases h
   rename_i i J;cases g:(Nat.beq i.aP H&&!i.buf&&!i.lk&&!i.ro&&Nat.beq i.tid tid) with
   | false=>rw[g] at h;cases h
   | true =>
     rw[g] at h;simp only[dv,jL] at g;obtain⟨⟨⟨⟨c,s⟩,Q⟩,D⟩,f⟩:=g;have c:=eT c;have f:=eT f;simp only[eC] at h;split at h
     case h_2=>cases h
     rename_i u1 N1 M1 A;obtain⟨rfl,q⟩:=br (aI h);obtain⟨rfl,rfl⟩:=br q;obtain⟨blk,k,j1,j2⟩:=bk J c C.2;simp only[cG] at j2;have j:=X.boxes b i J;unfold cE at j;rw[s] at j;obtain⟨V,S,L,t',Z,K,a2,m,a4,T⟩:=j;rw[j1] at K;obtain⟨rfl,rfl⟩:=br (aI K);obtain⟨U,W,g2,g3⟩:=ih T A;refine⟨blk::U,?_,⟨blk,U,j2,rfl,λo=>OL X J D j1 o,L,t',Z,a2,m,by rw[<-f];exact a4,g2⟩,λp F=>?_⟩
     .unfold iJ at W⊢;simp only[sX,W,j1];rfl
     .rcases fP.1 (by simpa using F:p∈(b,H)::(N1++M1)) with rfl|F
      .exact⟨i,J,c,Q,D⟩
      .exact g3 p F
 | pair p q ihp ihq =>
   intro v cs u N M C h;unfold dE at h;split at h
   case h_2=>cases h
   rename_i a b;split at h
   case h_2=>cases h
   rename_i x N1 M1 y N2 M2 h1 h2;obtain⟨rfl,z⟩:=br (aI h);obtain⟨rfl,rfl⟩:=br z;obtain⟨c1,c2,rfl,v1,v2⟩:=C;obtain⟨b1,W,g2,g3⟩:=ihp v1 h1;obtain⟨b2,k1,Y,E⟩:=ihq v2 h2;refine⟨b1++b2,?_,⟨c1,c2,b1,b2,M1.map λp=>γ.loc p.1,M2.map λp=>γ.loc p.1,rfl,rfl,by rw[xO],g2,Y⟩,λr A=>?_⟩
   .unfold iJ at W k1⊢;rw[xO,xO,W,k1]
   .simp only[pO] at A;rcases A with (A|A)|(A|A)
    .exact g3 r (mZ _ A)
    .exact E r (mZ _ A)
    .exact g3 r (mY _ A)
    .exact E r (mY _ A)
 | unit =>
   intro v cs u N M C h;unfold dE at h;split at h
   case h_2=>cases h
   obtain⟨rfl,z⟩:=br (aI h);obtain⟨rfl,rfl⟩:=br z;exact⟨[],rfl,⟨C,rfl,rfl⟩,λp F=>by cases F⟩
theorem ET{g:Nat->Option bF}:∀{o:OT} {v:aO} {u:o.den} {N M:List (Nat×Nat)},dE g o v=some (u,N,M)->N.length=o.nr/\M.length=o.nb:=by
 intro o;induction o with
 | zl t =>
   intro v u N M h;unfold dE at h;split at h
   .obtain⟨_,q⟩:=br (aI h);obtain⟨rfl,rfl⟩:=br q;exact⟨rfl,rfl⟩
   .cases h
 | buf e i =>
   intro v u N M h;unfold dE at h;split at h
   case h_2=>cases h
   split at h
   case h_2=>cases h
   rename_i c l;cases f:(Nat.beq c.aP _&&c.buf&&!c.lk&&!c.ro&&Nat.beq c.tid i&&Nat.blt 0 e.size) with
   | false=>rw[f] at h;cases h
   | true =>
     rw[f] at h;simp only[eC] at h;split at h
     case h_2=>cases h
     split at h
     case h_2=>cases h
     obtain⟨_,q⟩:=br (aI h);obtain⟨rfl,rfl⟩:=br q;exact⟨rfl,rfl⟩
 | ref tid o m =>
   intro v u N M h;unfold dE at h;split at h
   case h_2=>cases h
   split at h
   case h_2=>cases h
   rename_i c l;cases f:(Nat.beq c.aP _&&!c.buf&&!c.lk&&!c.ro&&Nat.beq c.tid tid) with
   | false=>rw[f] at h;cases h
   | true =>
     rw[f] at h;simp only[eC] at h;split at h
     case h_2=>cases h
     rename_i D n r s;obtain⟨_,q⟩:=br (aI h);obtain⟨rfl,rfl⟩:=br q;have:=m s;exact⟨by simp[OT.nr,this.1],this.2⟩
 | pair p q j k =>
   intro v u N M h;unfold dE at h;split at h
   case h_2=>cases h
   split at h
   case h_2=>cases h
   rename_i x n r y E F A C;obtain⟨_,z⟩:=br (aI h);obtain⟨rfl,rfl⟩:=br z;have a:=j A;have b:=k C;simp[OT.nr,OT.nb,a.1,a.2,b.1,b.2]
 | unit =>
   intro v u N M h;unfold dE at h;split at h
   case h_2=>cases h
   obtain⟨_,z⟩:=br (aI h);obtain⟨rfl,rfl⟩:=br z;exact⟨rfl,rfl⟩
def aO.aev:aO->Option (Ty×Nat)
 | .data (.arr n e) _=>some (e,n)
 | _=>none
theorem aao{b:bF}(h:b.buf=false):b.row=b.val.aev:=by
 unfold bF.row;rw[h];cases hv:b.val with
 | data t x=>cases t<;>rfl
 | _=>rfl
theorem T7{b:Nat->Option bF}{o:OT}{v:aO}{u y:o.den}{N M c f:List (Nat×Nat)}(h:dE b o v=some (u,N,M)):(IF o y c f).aev=v.aev:=by
 unfold dE at h;cases o with
 | zl t =>
   dsimp only at h;split at h
   .rename_i x g;rw[Rn g];cases t<;>rfl
   .cases h
 | buf e i =>
   dsimp only at h;split at h
   case h_2=>cases h
   cases f<;>rfl
 | ref tid o =>
   dsimp only at h;split at h
   case h_2=>cases h
   cases c<;>rfl
 | pair p q =>
   dsimp only at h;split at h
   case h_2=>cases h
   rfl
 | unit =>
   dsimp only at h;split at h
   case h_2=>cases h
   rfl
theorem Nb{r:Nat->Option bF}:∀{o:OT} {v:aO} {u y:o.den} {N M:List (Nat×Nat)} {c:Nat} {l:bF},dE r o v=some (u,N,M)->iH o y N (M.map λp=>(p.1,p.2+1)) c=some l ->
  (∃cx,(c,cx.aP)∈N/\r c=some cx/\l.aP=cx.aP/\l.buf=cx.buf/\l.row=cx.row)\/∃cx,(c,cx.aP)∈M/\r c=some cx/\l.aP=cx.aP+1:=by
 intro o;induction o with
 | zl t=>intro v u y N M c l _ h;cases h
 | buf e C =>
   intro v u y N M c l h i;unfold dE at h;split at h
   case h_2=>cases h
   rename_i b s;split at h
   case h_2=>cases h
   rename_i k D;cases f:(Nat.beq k.aP s&&k.buf&&!k.lk&&!k.ro&&Nat.beq k.tid C&&Nat.blt 0 e.size) with
   | false=>rw[f] at h;cases h
   | true =>
     rw[f] at h;simp only[dv] at f;have j:=eT f.1.1.1.1.1;simp only[eC] at h;split at h
     case h_2=>cases h
     split at h
     case h_2=>cases h
     obtain⟨_,q⟩:=br (aI h);obtain⟨rfl,rfl⟩:=br q;unfold iH at i;simp only[sX,List.map_nil] at i;cases A:Nat.beq c b with
     | false=>rw[A] at i;cases i
     | true =>
       rw[A] at i;obtain rfl:=eT A;obtain rfl:=aI i;exact .inr ⟨k,by rw[j];simp,D,by rw[j]⟩
 | ref tid o I =>
   intro v u y N M c l h i;unfold dE at h;split at h
   case h_2=>cases h
   rename_i b s;split at h
   case h_2=>cases h
   rename_i k D;cases f:(Nat.beq k.aP s&&!k.buf&&!k.lk&&!k.ro&&Nat.beq k.tid tid) with
   | false=>rw[f] at h;cases h
   | true =>
     rw[f] at h;simp only[dv,jL] at f;have j:=eT f.1.1.1.1;simp only[eC] at h;split at h
     case h_2=>cases h
     rename_i Q J K G;obtain⟨_,q⟩:=br (aI h);obtain⟨rfl,rfl⟩:=br q;unfold iH at i;dsimp only at i;cases A:Nat.beq c b with
     | false =>
       rw[A] at i;rcases I G i with ⟨cx,m,n⟩|g
       .exact .inl ⟨cx,nX _ m,n⟩
       .exact .inr g
     | true =>
       rw[A] at i;obtain rfl:=eT A;obtain rfl:=aI i;refine .inl ⟨k,by rw[j];simp,D,j.symm,f.1.1.1.2.symm,?_⟩;rw[aao f.1.1.1.2,aao rfl];exact T7 G
 | pair p q E F =>
   intro v u y N M c l h i;unfold dE at h;split at h
   case h_2=>cases h
   split at h
   case h_2=>cases h
   rename_i x J K R S T H L;obtain⟨_,z⟩:=br (aI h);obtain⟨rfl,rfl⟩:=br z;have a:=ET H;unfold iH at i;rw[xO,F1 a.1,F0 a.1,F1 (by simp[a.2]),F0 (by simp[a.2])] at i;split at i
   .rename_i x O;obtain rfl:=aI i;rcases E H O with ⟨cx,m,n⟩|⟨cx,m,n⟩
    .exact .inl ⟨cx,mZ _ m,n⟩
    .exact .inr ⟨cx,mZ _ m,n⟩
   .rcases F L i with ⟨cx,m,n⟩|⟨cx,m,n⟩
    .exact .inl ⟨cx,mY _ m,n⟩
    .exact .inr ⟨cx,mY _ m,n⟩
 | unit=>intro v u y N M c l _ h;cases h
theorem EU:∀{o:OT} {u:o.den} {N M:List (Nat×Nat)} {c:Nat},N.length=o.nr->M.length=o.nb->c∈bq N M->∃m,iH o u N M c=some m:=by
 intro o;induction o with
 | zl t =>
   intro u N M c f g b;rw[wN.1 f,wN.1 g] at b;cases b
 | buf e s =>
   intro u N M c f g b;rw[wN.1 f] at b
   match M,g,b with
   | [p],_,b =>
     have:c=p.1:=by simpa [bq] using b
     subst this;exact⟨_,by unfold iH;dsimp only;rw[CQ];rfl⟩
 | ref tid o v =>
   intro u N M c f g b;cases N with
   | nil=>cases f
   | cons p r =>
     unfold iH;dsimp only;cases i:Nat.beq c p.1 with
     | true=>exact⟨_,rfl⟩
     | false =>
       refine v (by simpa [OT.nr] using f) g ?_;unfold bq at b⊢;simp only[sX,zi,fP] at b;rcases b with rfl|b
       .rw[CQ] at i;cases i
       .exact b
 | pair p q j k =>
   intro u N M c f g b;simp only[OT.nr,OT.nb] at f g;have y:N.take p.nr++N.drop p.nr=N:=uu ..;have z:M.take p.nb++M.drop p.nb=M:=uu ..;unfold iH;cases i:iH p u.1 (N.take p.nr) (M.take p.nb) c with
   | some x=>exact⟨x,rfl⟩
   | none =>
     refine k (by rw[kx];omega) (by rw[kx];omega) ?_;have h:c∉bq (N.take p.nr) (M.take p.nb):=λl=>by
      obtain⟨m,n⟩:=j (u:=u.1) (by rw[fB];omega) (by rw[fB];omega) l;rw[i] at n;cases n
     unfold bq at b h⊢;rw[<-y,<-z,xO,xO] at b;simp only[pO] at b h⊢;rcases b with (b|b)|(b|b)
     .exact absurd (.inl b) h
     .exact .inl b
     .exact absurd (.inr b) h
     .exact .inr b
 | unit =>
   intro u N M c f g b;rw[wN.1 f,wN.1 g] at b;cases b
def gZ:List (Nat×Nat)->List (Option<|Nat×Nat)->(Nat->Option (Nat×Nat))->Nat->Option (Nat×Nat)
 | (b,_)::M,L::ls,loc,c=>if c=b then L else gZ M ls loc c
 | _,_,loc,c=>loc c
theorem Ck{b:Nat->Option (Nat×Nat)}:∀{M:List (Nat×Nat)} {ls:List (Option<|Nat×Nat)} {c:Nat},c∉M.map (·.1)->gZ M ls b c=b c:=by
 intro M;induction M with
 | nil=>intro ls c _;cases ls<;>rfl
 | cons p r e =>
   intro ls c h;cases ls with
   | nil=>rfl
   | cons L ls =>
     simp only[sX,fP,F3] at h;unfold gZ;rw[aM h.1];exact e h.2
theorem x7{loc:Nat->Option (Nat×Nat)}:∀{M:List (Nat×Nat)} {ls:List (Option<|Nat×Nat)},(M.map (·.1)).Nodup->M.length=ls.length->M.map (λp=>gZ M ls loc p.1)=ls:=by
 intro M;induction M with
 | nil=>intro ls _ h;cases ls with|nil=>rfl|cons _ _=>cases h
 | cons p r f =>
   intro ls b h;cases ls with
   | nil=>cases h
   | cons L ls =>
     simp only[sX,zn] at b;have:r.map (λq=>gZ (p::r) (L::ls) loc q.1)=ls:=by
      refine tn (Il λq g=>?_) (f b.2<|by simpa using h);have c:q.1≠p.1:=λe=>b.1 (by rw[<-e];exact pQ.2 ⟨q,g,rfl⟩);show(if q.1=p.1 then L else gZ r ls loc q.1)=_
      rw[aM c]
     rw[sX,this];show(if p.1=p.1 then L else _)::ls=L::ls
     rw[aQ rfl]
theorem EV{loc:Nat->Option (Nat×Nat)}{M:List (Nat×Nat)}{e:List (Option<|Nat×Nat)}(g:(M.map (·.1)).Nodup)(h:M.length=e.length){c:Nat}(j:c∈M.map (·.1)):∃i v:Nat,M[i]?=some (c,v)/\e[i]?=some (gZ M e loc c):=by
 obtain⟨p,k,rfl⟩:=pQ.1 j;obtain⟨i,f,b⟩:=MT k;refine⟨i,p.2,by rw[fN f,b],?_⟩;have:=x7 (loc:=loc) g h
 conv=>lhs;rw[<-this]
 rw[wP,fN f,b];rfl
theorem gJ{U:OT}{y:U.den}{N M:List (Nat×Nat)}{b:St}{c:Nat}:(kB U y N M b).mem c=match iH U y N (M.map λp=>(p.1,p.2+1)) c with|some e=>some e|none=>b.mem c:=rfl
theorem uH{N M:List (Nat×Nat)}:bq N (M.map λp=>(p.1,p.2+1))=bq N M:=by
 unfold bq;rw[M0];rfl
theorem aap{c k m:Nat}:∀{l:List (Option<|Nat×Nat)} {i j:Nat},(l.filterMap λL=>L.map (·.1)).Nodup->l[i]?=some (some (c,k))->l[j]?=some (some (c,m))->i=j:=by
 intro l;induction l with
 | nil=>intro i j _ h;simp at h
 | cons L r u =>
   intro i j e n o;have g:∀(q s:Nat),r[q]?=some (some (c,s))->c∈r.filterMap λL=>L.map (·.1):=λq s v=>MV.2 ⟨_,dY v,rfl⟩;cases i with
   | zero =>
     cases j with
     | zero=>rfl
     | succ j =>
       obtain rfl:=aI (show some L=_ from n);rw[VY (f:=λL:Option (Nat×Nat)=>L.map (·.1)) (a:=some (c,k)) (b:=c) rfl] at e;exact absurd (g j m<|by simpa using o) (zn.1 e).1
   | succ i =>
     cases j with
     | zero =>
       obtain rfl:=aI (show some L=_ from o);rw[VY (f:=λL:Option (Nat×Nat)=>L.map (·.1)) (a:=some (c,m)) (b:=c) rfl] at e;exact absurd (g i k<|by simpa using n) (zn.1 e).1
     | succ j =>
       have p:(r.filterMap λL=>L.map (·.1)).Nodup:=by
        cases t:L.map (·.1) with
        | none=>rw[adV t] at e;exact e
        | some q=>rw[VY t] at e;exact(zn.1 e).2
       have:=u p (by simpa using n) (by simpa using o);omega
theorem bB.refs(h:bB B γ σ.mem w){U:OT}{V:aO}{u y:U.den}{N M:List (Nat×Nat)}{lS:List Value}{C:List Nat}{l:List (Option<|Nat×Nat)}(hr:dE σ.mem U V=some (u,N,M))(hd:(bq N M).Nodup)(hN:iJ γ N C)
  (hH:∀p∈N++M,Handed σ.mem p) {G:fm} (hw:uD ⟨w.heap.size,(·∈cQ C (M.map λp=>γ.loc p.1)),G⟩ w w') {K:Nat->Nat->Prop} (hI:∀b o,γ.I b o->K b o) (ahr:∀b o,K b o->b<w'.heap.size)
  (X:∀b o,K b o->¬γ.I b o->w.heap.size<=b\/b∈cQ C (M.map λp=>γ.loc p.1)) (ha:zC w' K U y lS C l) (O:(cQ C l).Nodup) (hfr:∀f∈cQ [] l,f∈cQ C (M.map λp=>γ.loc p.1)\/w.heap.size<=f) :
  bB B ⟨K,gZ M l γ.loc⟩ (kB U y N M σ).mem w'/\Ext B γ σ.mem w ⟨K,gZ M l γ.loc⟩ (kB U y N M σ).mem w':=by
 have hlen:=ET hr;have hal:=ha.len;have Q:M.length=l.length:=by rw[hlen.2,hal.2]
 have R:(M.map (·.1)).Nodup:=by unfold bq at hd;exact(Br.1 hd).2.1
 have hNM:∀c,c∈N.map (·.1)->c∉M.map (·.1):=λc h1 h2=>by unfold bq at hd;exact(Br.1 hd).2.2 c h1 c h2 rfl
 have hold:∀f,f∈cQ C (M.map λp=>γ.loc p.1)->∃b bx k,b∈bq N M/\σ.mem b=some bx/\bx.ro=false/\γ.loc b=some (f,k)/\(b∈N.map (·.1)->f∈C):=by
  intro f m;unfold cQ at m;rcases pO.1 m with m|m
  .have:some f∈N.map λp=>(γ.loc p.1).map (·.1):=by rw[hN];exact pQ.2 ⟨f,m,rfl⟩
   obtain⟨p,Y,S⟩:=pQ.1 this;obtain⟨q,D,S⟩:=qY.1 S;obtain⟨bx,j1,j2,j3,j4⟩:=hH p (mZ _ Y);exact⟨p.1,bx,q.2,mZ _ (pQ.2 ⟨p,Y,rfl⟩),j1,j4,by rw[D,<-S],λ_=>m⟩
  .obtain⟨L,hL,S⟩:=MV.1 m;obtain⟨p,Y,rfl⟩:=pQ.1 hL;obtain⟨q,D,S⟩:=qY.1 S;obtain⟨bx,j1,j2,j3,j4⟩:=hH p (mY _ Y);exact⟨p.1,bx,q.2,mY _ (pQ.2 ⟨p,Y,rfl⟩),j1,j4,by rw[D,<-S],λhq'=>absurd (pQ.2 ⟨p,Y,rfl⟩) (hNM _ hq')⟩
 have E:∀f∈cQ C (M.map λp=>γ.loc p.1),B.has f/\f<w.heap.size:=λf m=>by
  obtain⟨b,bx,k,_,g2,_,g4,_⟩:=hold f m;exact h.fresh b f k (by rw[g2];simp) g4
 have afF:∀f∈cQ C (M.map λp=>γ.loc p.1),∀o,¬γ.I f o:=λf m o=>by
  obtain⟨b,bx,k,_,g2,g3,g4,_⟩:=hold f m;exact OL h g2 g3 g4 o
 have t:∀k,k<w.heap.size->k∉cQ C (M.map λp=>γ.loc p.1)->w'.heap[k]?=w.heap[k]?:=λk hk m=>hw.block k λq=>by
  rcases q with q|q
  .have:w.heap.size<=k:=q;omega
  .exact m q
 have ahu:∀k,¬B.has k->k<w.heap.size:=λk hk=>QL λq=>hk (.inl<|gj h.base q);have hN':iJ ⟨K,gZ M l γ.loc⟩ N C:=by
  unfold iJ at hN⊢;rw[<-hN];refine Il λp Y=>?_;show(gZ M l γ.loc p.1).map _=_
  rw[Ck<|hNM p.1<|pQ.2 ⟨p,Y,rfl⟩]
 have hL':p6 ⟨K,gZ M l γ.loc⟩ (M.map λp=>(p.1,p.2+1)) l:=by
  unfold p6;rw[M0];exact x7 R Q
 have OM:Gd (kB U y N M σ).mem U y N (M.map λp=>(p.1,p.2+1)) :=
  Ro hlen.1 (by rw[qI];exact hlen.2) (by rw[uH];exact hd) λc bx hc=>by rw[gJ,hc]
 have F:∀{c bx},iH U y N (M.map λp=>(p.1,p.2+1)) c=some bx->_:=λ{c bx} hc=>M9 (γ:=⟨K,gZ M l γ.loc⟩) ha hN' hL' OM hc;have z:∀{c},iH U y N (M.map λp=>(p.1,p.2+1)) c=none->c∉bq N M:=λ{c} hc D=>by
  obtain⟨bx,m⟩:=EU (u:=y) (M:=M.map λp=>(p.1,p.2+1)) hlen.1 (by rw[qI];exact hlen.2) (by rw[uH];exact D);rw[hc] at m;cases m
 have r:∀{c},c∉M.map (·.1)->gZ M l γ.loc c=γ.loc c:=λhc=>Ck hc;have H:∀c,(kB U y N M σ).mem c≠none->σ.mem c≠none:=by
  intro c hc D;apply hc;rw[gJ];cases hv:iH U y N (M.map λp=>(p.1,p.2+1)) c with
  | none=>exact D
  | some bx =>
    rcases Nb hr hv with ⟨cx,_,g,_⟩|⟨cx,_,g,_⟩
    .rw[D] at g;cases g
    .rw[D] at g;cases g
 have hx:Ext B γ σ.mem w ⟨K,gZ M l γ.loc⟩ (kB U y N M σ).mem w' :=
  { below:=⟨hw.os,hw.tape,hw.output,hw.size,λk hk=>t k (ahu k hk) λm=>hk (E k m).1⟩
    I:=hI
    pZ:=λb o x=>by
     by_cases hi:γ.I b o
     .exact .inl hi
     .rcases X b o x hi with q|q
      .exact .inr (.inl<|gj h.base q)
      .exact .inr (E b q).1
    cells:=λb o hi=>di (t b (h.tu b o hi) λm=>afF b m o hi)
    boxes:=λc cx hc=>by
     rw[gJ];cases hv:iH U y N (M.map λp=>(p.1,p.2+1)) c with
     | none=>exact⟨cx,hc,cg _,λ_=>⟨r λq=>z hv (mY _ q),rfl,rfl⟩⟩
     | some bx =>
       rcases Nb hr hv with ⟨cx',g1,g2,g3,g4,g5⟩|⟨cx',g1,g2,g3⟩
       .rw[hc] at g2;obtain rfl:=aI g2;exact⟨bx,rfl,Bt g3.symm,λ_=>⟨r<|hNM c<|pQ.2 ⟨_,g1,rfl⟩,g4,g5⟩⟩
       .rw[hc] at g2;obtain rfl:=aI g2;exact⟨bx,rfl,by omega,λe=>by omega⟩ }
 have hls:∀{c f k},c∈M.map (·.1)->gZ M l γ.loc c=some (f,k)->f∈cQ [] l:=λ{c f k} hc S=>by
  obtain⟨i,v,h1,h2⟩:=EV (loc:=γ.loc) R Q hc;rw[S] at h2;unfold cQ;exact mY _ (MV.2 ⟨_,dY h2,rfl⟩)
 have J:∀{c d f k k'},c∈M.map (·.1)->σ.mem d≠none->gZ M l γ.loc c=some (f,k)->gZ M l γ.loc d=some (f,k')->c=d:=by
  intro c d f k k' hc hdm e1 Z;have m:=hls hc e1;by_cases s:d∈M.map (·.1)
  .obtain⟨i,v,i1,i2⟩:=EV (loc:=γ.loc) R Q hc;obtain⟨j,v',j1,j2⟩:=EV (loc:=γ.loc) R Q s;rw[e1] at i2;rw[Z] at j2;have hnl:(l.filterMap λL=>L.map (·.1)).Nodup:=by unfold cQ at O;exact(Br.1 O).2.1
   have hij:i=j:=by
    exact aap hnl i2 j2
   subst hij;rw[i1] at j1;exact(br<|aI j1).1
  .rw[r s] at Z;have hlt:=(h.fresh d f k' hdm Z).2;rcases hfr f m with D|D
   .obtain⟨n,bx,kn,n1,n2,n3,n4,n5⟩:=hold f D;have ahw:=h.inj n d f kn k' (by rw[n2];simp) hdm n4 Z;subst ahw;unfold bq at n1;rcases pO.1 n1 with n1|n1
    .have h1:=n5 n1;unfold cQ at O m;rw[sW] at m;exact absurd rfl ((Br.1 O).2.2 f h1 f m)
    .exact absurd n1 s
   .omega
 refine⟨?_,hx⟩;exact
  { cU:=h.C5 hx
    base:=gj h.base hw.size
    boxes:=λc cx hc=>by
     rw[gJ] at hc;cases hv:iH U y N (M.map λp=>(p.1,p.2+1)) c with
     | none =>
       rw[hv] at hc;replace hc:σ.mem c=some cx:=hc;have hnn:=z hv;refine(h.boxes c cx hc).keep hx (r λq=>hnn (mY _ q)) λf k T=>?_;refine t f (h.fresh c f k (by rw[hc];simp) T).2 λm=>?_;obtain⟨b,bx,k',g1,g2,g3,g4,_⟩:=hold f m;have:=h.inj c b f k k' (by rw[hc];simp) (by rw[g2];simp) T g4;subst this;exact hnn g1
     | some bx =>
       rw[hv] at hc;obtain rfl:=aI hc;exact(F hv).1
    inj:=λc d f k k' hc hd' e1 Z=>by
     by_cases A:c∈M.map (·.1)
     .exact J A (H d hd') e1 Z
     .by_cases s:d∈M.map (·.1)
      .exact(J s (H c hc) Z e1).symm
      .exact h.inj c d f k k' (H c hc) (H d hd') ((r A).symm.trans e1) ((r s).symm.trans Z)
    fresh:=λc f k hc T=>by
     by_cases A:c∈M.map (·.1)
     .have m:=hls A T;obtain⟨bx,hbx⟩:=EU (u:=y) (M:=M.map λp=>(p.1,p.2+1)) hlen.1 (by rw[qI];exact hlen.2) (by rw[uH];exact mY _ A);obtain⟨_,_,g⟩:=F hbx;obtain⟨_,⟨x,hx1⟩,_⟩:=g f k T;refine⟨?_,(vk.1 hx1).1⟩;rcases hfr f m with q|q
      .exact(E f q).1
      .exact .inl (gj h.base q)
     .have:=h.fresh c f k (H c hc) ((r A).symm.trans T);exact⟨this.1,B6 this.2 hw.size⟩
    tu:=ahr
    sep:=λc cx f k W hc T hi=>by
     rw[gJ] at hc;cases hv:iH U y N (M.map λp=>(p.1,p.2+1)) c with
     | some bx =>
       obtain⟨_,_,g⟩:=F hv;exact absurd hi ((g f k T).2.2 W)
     | none =>
       rw[hv] at hc;replace hc:σ.mem c=some cx:=hc;have hl0:γ.loc c=some (f,k):=(r λq=>z hv (mY _ q)).symm.trans T;by_cases hi0:γ.I f W
       .exact h.sep c cx f k W hc hl0 hi0
       .have h2:=(h.fresh c f k (by rw[hc];simp) hl0).2;rcases X f W hi hi0 with h1|h1
        .omega
        .obtain⟨b,bx,k',g1,g2,g3,g4,_⟩:=hold f h1;have:=h.inj c b f k k' (by rw[hc];simp) (by rw[g2];simp) hl0 g4;subst this;exact absurd g1 (z hv) }
theorem EW{c:Nat->Option bF}{p q:OT}{a b:aO}{x:p.den}{y:q.den}{N M e f:List (Nat×Nat)}(g:dE c p a=some (x,N,M))(h:dE c q b=some (y,e,f)):dE c (.pair p q) (.mix a b)=some ((x,y),N++e,M++f):=by
 simp only[dE,g,h];rfl
theorem Lx:∀{ps:List Bool} {A:Ty} {U:OT} {vs:List aO} {j:List Value} {x:A.den} {u:U.den} {N M:List (Nat×Nat)},lV γ σ.mem w vs j->fS σ ps A U vs=some (x,u,N,M) ->
  ∃V c,Rm w γ.I ps A U x j c/\cl γ σ.mem w V .cells c/\dE σ.mem U V=some (u,N,M):=by
 intro ps;induction ps with
 | nil =>
   intro A U vs j x u N M k h;cases A<;>first|(cases h;done)|skip
   cases U<;>first|(cases h;done)|skip
   cases vs with
   | cons v r=>cases h
   | nil =>
     cases h;have hx:j=[]:=by have:=k.1;simpa using this
     exact⟨.data .unit (),[],⟨rfl,rfl,hx,rfl⟩,rfl,rfl⟩
 | cons p ps D =>
   intro A U vs j x u N M k h;cases p with
   | false =>
     cases A<;>first|(cases h;done)|skip
     rename_i t A;cases vs with
     | nil=>cases h
     | cons v r =>
       simp only[fS] at h;split at h
       .rename_i E F G O l m;obtain⟨rfl,q⟩:=br (aI h);obtain⟨rfl,rfl⟩:=br q;obtain⟨f,e,rfl,n,s⟩:=k.cons;obtain⟨V,c,y,z,C⟩:=D s m;obtain⟨H,J,K⟩:=XA n l;exact⟨V,c,⟨H,e,by rw[K],J,y⟩,z,C⟩
       .cases h
   | true =>
     cases U<;>first|(cases h;done)|skip
     rename_i o U;cases o<;>first|(cases h;done)|skip
     rename_i tid o;cases vs with
     | nil=>cases h
     | cons v r =>
       simp only[fS] at h;split at h
       .rename_i E Q R F G S T l m;cases h;obtain⟨f,e,rfl,n,s⟩:=k.cons;obtain⟨V,c,y,z,C⟩:=D s m;have L:∃b g,v=.ptr b g []:=by
         have i:=l;unfold dE at i;split at i
         .exact⟨_,_,rfl⟩
         .cases i
        obtain⟨b,g,rfl⟩:=L;exact⟨.mix (.ptr b g []) V,f::c,⟨f,e,c,rfl,rfl,y⟩,⟨[f],c,rfl,n,z⟩,by
         exact EW l C⟩
       .cases h
theorem Nc{f:Nat->Option bF}{N M:List (Nat×Nat)}{l:List Nat}(n:iJ γ N l)(m:∀p∈N++M,Handed f p){blk:Nat}(e:blk∈cQ l (M.map λp=>γ.loc p.1)):∃b k,(∃g,f b=some g)/\γ.loc b=some (blk,k):=by
 unfold cQ at e;rcases pO.1 e with e|e
 .have:some blk∈N.map λp=>(γ.loc p.1).map (·.1):=by rw[n];exact pQ.2 ⟨blk,e,rfl⟩
  obtain⟨p,h,c⟩:=pQ.1 this;obtain⟨q,i,c⟩:=qY.1 c;obtain⟨g,j,_⟩:=m p (mZ _ h);exact⟨p.1,q.2,⟨g,j⟩,by rw[i,<-c]⟩
 .obtain⟨L,o,c⟩:=MV.1 e;obtain⟨p,h,rfl⟩:=pQ.1 o;obtain⟨q,i,c⟩:=qY.1 c;obtain⟨g,j,_⟩:=m p (mY _ h);exact⟨p.1,q.2,⟨g,j⟩,by rw[i,<-c]⟩
theorem T8{c:Nat->Option bF}(m:bB B γ c w):∀{l:List (Nat×Nat)},(l.map (·.1)).Nodup->(∀p∈l,Handed c p)->(l.filterMap λp=>(γ.loc p.1).map (·.1)).Nodup:=by
 intro l;induction l with
 | nil=>intro _ _;exact List.nodup_nil
 | cons p r n =>
   intro e g;simp only[sX,zn] at e;have k:=n e.2 λq b=>g q (nX _ b);cases h:(γ.loc p.1).map (·.1) with
   | none=>rw[adV (f:=λp:Nat×Nat=>(γ.loc p.1).map (·.1)) h];exact k
   | some blk =>
     rw[VY (f:=λp:Nat×Nat=>(γ.loc p.1).map (·.1)) h,zn];refine⟨λb=>?_,k⟩;obtain⟨q,b,o⟩:=MV.1 b;obtain⟨x,s,i⟩:=qY.1 h;obtain⟨z,t,j⟩:=qY.1 o;obtain⟨y,u,_⟩:=g p (mo ..);obtain⟨A,v,_⟩:=g q (nX _ b);have:=m.inj p.1 q.1 blk x.2 z.2 (by rw[u];simp) (by rw[v];simp) (by rw[s,<-i]) (by rw[t,<-j]);exact e.1 (by rw[this];exact pQ.2 ⟨q,b,rfl⟩)
theorem Gf{b:Nat->Option bF}(f:bB B γ b w){N M:List (Nat×Nat)}{c:List Nat}(g:iJ γ N c)(i:∀p∈N++M,Handed b p)(j:(bq N M).Nodup):(cQ c<|M.map λp=>γ.loc p.1).Nodup:=by
 have h:=T8 f (l:=N++M) (by rw[xO];exact j) i;have e:((N++M).filterMap λp=>(γ.loc p.1).map (·.1))=cQ c (M.map λp=>γ.loc p.1):=by
  unfold cQ;rw[adZ,ZG]
  congr 1
  have k:(N.filterMap λp=>(γ.loc p.1).map (·.1))=(N.map λp=>(γ.loc p.1).map (·.1)).filterMap id:=by rw[ZG];rfl
  rw[k,g,ZG];exact List.filterMap_some
 rw[<-e];exact h
end
end Go.Ge
