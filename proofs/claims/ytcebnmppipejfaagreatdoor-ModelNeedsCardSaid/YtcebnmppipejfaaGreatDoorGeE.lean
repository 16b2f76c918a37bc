import Derived.Test.YtcebnmppipejfaaGreatDoorGeD
set_option linter.unusedVariables false
set_option linter.unusedSimpArgs false
set_option linter.unusedSectionVars false
namespace Go.Ge
open RowKit
def iq(w:World)(I:Nat->Nat->Prop):(A:Ty)->A.den->List Value->Prop
 | .pair t r,x,vs=>∃c b,vs=bW t c::b/\bB w I t x.1 c/\iq w I r x.2 b
 | .unit,_,vs=>vs=[]
 | _,_,_=>False
def lV(w:World)(I:Nat->Nat->Prop)(R:Ty)(y:R.den)(v:Value):Prop:=b5 ⟨I,λ_=>none⟩ (λ_=>none) w (ue R y) .val [v]
structure Holds (P:Program) (G:fm) (f:Nat) (c:x4):Prop where
 body:∃fn code,P.funcs[f]?=some fn/\(fn.name == "runtime.NumGoroutine")=false/\fn.body=some code
 calls:∀(I:Nat->Nat->Prop) (w:World) (args:Array Value) (x:c.A.den) (y:c.R.den),(∀b o,I b o->b<w.heap.size)->F2 G w->iq w I c.A x args.toList->c.spec x=some y ->
  Calls P f args w λe w'=>∃v I',e=.returned v/\Below w.heap.size w w'/\(∀b o,I b o->I' b o)/\(∀b o,I' b o->b<w'.heap.size)/\(∀b o,I' b o->¬I b o->w.heap.size<=b)/\lV w' I' c.R y v
def kG(P:Program)(G:fm)(g:String)(c:x4):Prop :=
 ∀(I:Nat->Nat->Prop) (w:World) (v:Value) (i:List Value) (x:c.A.den) (y:c.R.den),(∀b o,I b o->b<w.heap.size)->F2 G w->iq w I c.A x (v::i)->c.spec x=some y ->
  ∃f u,(callMethod v g i.toArray).run P w=(callFunc f (u::i).toArray).run P w/\(∃k h,P.funcs[f]?=some k/\(k.name == "runtime.NumGoroutine")=false/\k.body=some h) /\
  Calls P f (u::i).toArray w λe w'=>∃v j,e=.returned v/\Below w.heap.size w w'/\(∀b o,I b o->j b o)/\(∀b o,j b o->b<w'.heap.size)/\(∀b o,j b o->¬I b o->w.heap.size<=b)/\lV w' j c.R y v
theorem KX{P:Program}{G:fm}{b:String}{B R:Ty}:kG P G b ⟨.pair .zH B,R,λ_=>none⟩:=λI w v c x y _ _ _ h=>by cases h
theorem mu{P:Program}{G:fm}{b:String}{u f:Nat}{a r B R:Ty}{s:a.den×B.den->Option R.den}{t:r.den×B.den->Option R.den}(h:Holds P G f ⟨.pair a B,R,s⟩)
  (C:∀(v:Value) (w:World),(method (P.types.size+Made.depth) u v b).run P w=.ok (f,v) w) (D:r.isAgg=false) (E:kG P G b ⟨.pair r B,R,t⟩) :
  kG P G b ⟨.pair (.alt u a r) B,R,λx=>pick (λy=>s (y,x.2)) (λz=>t (z,x.2)) x.1⟩:=by
 intro I w v e x y i j F k;obtain⟨H,l⟩:=x;obtain⟨J,m,K,n,o⟩:=F;obtain⟨A,rfl⟩:=SM K;rcases H with p|q
 .obtain⟨O,c,rfl,L⟩:=n;refine⟨f,bW a c,?_,h.body,h.calls I w (bW a c::e).toArray (p,l) y i j ⟨c,e,rfl,L,o⟩ k⟩;have M:v=.iface u (bW a c):=by
   rw[A];show bW r [Value.iface u<|bW a c]=_
   unfold bW;rw[D];rfl
  rw[M];have g:=C (bW a c) w;unfold callMethod;simp only[Sem.run_bind,run_program,Result.andThen_ok,g];simp
 .exact E I w v e (q,l) y i j ⟨J,e,by rw[A];rfl,n,o⟩ k
theorem bu.far{B:qA}{f:Gh}{e:Nat->Option Box}{w w':World}(h:bu B f e w)(g:Below w.heap.size w w'){I':Nat->Nat->Prop}(q:∀b o,f.I b o->I' b o)(m:∀b o,I' b o->b<w'.heap.size)
  (i:∀b o,I' b o->¬f.I b o->w.heap.size<=b):bu B ⟨I',f.loc⟩ e w'/\Ext B f e w ⟨I',f.loc⟩ e w':=by
 have hx:Ext B f e w ⟨I',f.loc⟩ e w' :=
  { below:=.of ⟨g.os,g.tape,g.output,g.size,λk r=>g.block k (CP r h.base)⟩
    I:=q
    pC:=λb o x=>by
     by_cases hi:f.I b o
     .exact .inl hi
     .exact .inr (.inl<|iz h.base<|i b o x hi)
    cells:=λb o hi=>de (g.block b<|h.sV b o hi)
    boxes:=λb n hb=>⟨n,hb,cD _,λ_=>⟨rfl,rfl,rfl⟩⟩ }
 refine⟨?_,hx⟩;exact
  { cP:=h.Ei hx
    base:=iz h.base g.size
    boxes:=λb n hb=>(h.boxes b n hb).keep hx rfl λc k l=>g.block c (h.fresh b c k (by rw[hb];simp) l).2
    inj:=h.inj
    fresh:=λb c k hb l=>by have:=h.fresh b c k hb l;exact⟨this.1,CP this.2 g.size⟩
    sV:=m
    sep:=λb n c k j hb l hi=>by
     by_cases p:f.I c j
     .exact h.sep b n c k j hb l p
     .have s:=i c j hi p;have t:=(h.fresh b c k (by rw[hb];simp) l).2;omega }
theorem Zi{w:World}{j c:Gh}{g e:Nat->Option Box}(k:∀b o,j.I b o->c.I b o):∀{R:Ty} {y:R.den} {vs:List Value},b5 j g w (zS R y) .many vs->b5 c e w (zS R y) .many vs:=by
 intro R;induction R with
 | pair t r l i =>
   intro y vs h;obtain⟨v,f,m,⟨n,p,q⟩,s⟩:=h;exact⟨v,f,m,⟨n,bB.mono k (λ_ _ _=>rfl) p,q⟩,i s⟩
 | _=>intro y vs h;exact h
theorem Ew(R:Ty)(y:R.den):(∃t,∃q:R=.pair t .unit,ue R y=.data t (show(Ty.pair t .unit).den from q▸y).1)\/ue R y=.y7 (zS R y):=by
 cases R with
 | pair t r =>
   cases r with
   | unit=>exact .inl ⟨t,rfl,rfl⟩
   | _=>exact .inr rfl
 | _=>exact .inr rfl
theorem lV.rep{w:World}{I:Nat->Nat->Prop}{R:Ty}{y:R.den}{v:Value}(h:lV w I R y v){j:Gh}{c:Nat->Option Box}(k:∀b o,I b o->j.I b o):b5 j c w (ue R y) .val [v]:=by
 unfold lV at h;rcases Ew R y with ⟨t,q,e⟩|e
 .rw[e] at h⊢;obtain⟨l,f,g⟩:=h;exact⟨l,bB.mono k (λ_ _ _=>rfl) f,g⟩
 .rw[e] at h⊢;obtain⟨i,f,g⟩:=h;exact⟨i,f,Zi k g⟩
theorem KY{w j:World}{k f:Gh}{g b:Nat->Option Box}:∀{R:Ty} {y:R.den} {vs:List Value},R.flat=true->b5 k g w (zS R y) .many vs->b5 f b j (zS R y) .many vs:=by
 intro R;induction R with
 | pair t r l i =>
   intro y vs e h;simp only[Ty.flat,dF] at e;obtain⟨v,c,m,⟨n,o,p⟩,q⟩:=h;exact⟨v,c,m,⟨n,bB.flat e.1 o,p⟩,i e.2 q⟩
 | _=>intro y vs e h;exact h
theorem lV.flat{w j:World}{I:Nat->Nat->Prop}{R:Ty}{y:R.den}{v:Value}(h:lV w I R y v){k:Gh}{b:Nat->Option Box}(c:R.flat=true):b5 k b j (ue R y) .val [v]:=by
 unfold lV at h;rcases Ew R y with ⟨t,q,e⟩|e
 .rw[e] at h⊢;subst q;simp only[Ty.flat,dF] at c;obtain⟨l,f,g⟩:=h;exact⟨l,bB.flat c.1 f,g⟩
 .rw[e] at h⊢;obtain⟨i,f,g⟩:=h;exact⟨i,f,KY c g⟩
section
variable {P:Program} {B:qA} {N:Nat} {γ:Gh} {σ aV:St} {a:Act} {w w':World} {d:Option Nat} {cx:Ctx}
theorem z6.aiU{I q:Nat->Nat->Prop}{e:Ty}{l:List e.den}{v:Value}(h:z6 w I e l v)(t:∀b o,I b o->q b o)(u:∀f g k,v=.slice (some ⟨f,g,none⟩) l.length k->l≠[]->∀o,q f o) :
  bB w q (.slice e) l [v]:=by
 rcases h with ⟨rfl,m,k,n,r,s⟩|⟨f,g,k,n,r,s,y⟩
 .rcases s with rfl|⟨f,g,rfl⟩
  .exact .inl ⟨⟨m,by rw[n]⟩,rfl⟩
  .exact .inr ⟨f,g,k,by rw[n];rfl,pj _,r,λi x p=>by cases p⟩
 .refine .inr ⟨f,g,k,by rw[n],r,s,λi x p=>?_⟩;obtain⟨z,A,C,D⟩:=y i x p;exact⟨z,A,λj c E=>⟨C j c E,u f g k n (λe=>by rw[e] at p;cases p) _⟩,bB.mono t (λ_ _ _=>rfl) D⟩
theorem QD(x:bu B γ σ.mem w){e:Ty}{v:aK}{l:List e.den}{g y n z:Nat}(H:b5 γ σ.mem w v .val [.slice (some ⟨g,y,none⟩) n z])(K:fZ e σ v=some l)(m:l≠[]) :
  (∃q,v=.data (.slice e) q)\/(B.has g/\g<w.heap.size):=by
 rcases mq K with rfl|⟨rfl,rfl⟩|⟨b,A,I,rfl,o,h,s,C⟩|⟨b,A,R,S,I,rfl,o,h,D⟩
 .exact .inl ⟨_,rfl⟩
 .exact absurd rfl m
 .obtain⟨L,k,T,M,p⟩:=ba o h H.2;rcases p with ⟨p,E⟩|⟨i,j,p,E⟩
  .exfalso;have t:=x.boxes b I o;rw[cJ,s] at t;obtain⟨U,V,f,W,r⟩:=t;rw[C] at f;cases f;rcases r with ⟨_,r⟩|⟨_,_,_,_,_,r,_⟩
   .exact m r
   .rw[p] at r;cases r
  .have f:g=i:=by
    have:=ub E;injection this with f _ _
    injection f with f
    injection f
   subst f;exact .inr (x.fresh b g j (by rw[o];simp) p)
 .obtain⟨L,k,M,p,E,X,J,j,O,Y,Z,gF,u⟩:=ba o h H.2;have F:=ub O;rcases u with u|⟨i,c,u,G⟩
  .exfalso;apply m;rcases D with ⟨_,Q,_,rfl⟩|⟨_,k0,Q,_,rfl⟩<;>simp[sub,u]
  .injection F with f _ _
   rw[G] at f;injection f with f
   injection f with f _
   subst f;exact .inr (x.fresh b g c (by rw[o];simp) u)
theorem C5(L:bu B γ σ.mem w){m:Nat->Nat->Prop}(M:∀b o,γ.I b o->m b o)(A:∀b o,B.has b->b<w.heap.size->m b o):∀{v:aK} {t:Ty} {x:t.den} {cs:List Value},
  b5 γ σ.mem w v .cells cs->qg σ t v=some x->bB w m t x cs:=by
 have C:∀{v:aK} {e:Ty} {l:List e.den} {cs:List Value},da v=1->(∀c,b5 γ σ.mem w v .cells [c]->b5 γ σ.mem w v .val [c])->(∀t x,v≠.data t x)->b5 γ σ.mem w v .cells cs->fZ e σ v=some l->bB w m (.slice e) l cs:=by
  intro v e l cs D i E h f;obtain⟨c,rfl⟩:=HM h D;have hv:=i c h;refine(qC L hv f).aiU M λF O Q R G o=>?_;subst R;rcases QD L hv f G with ⟨q,j⟩|⟨H,S⟩
  .exact absurd j (E _ _)
  .exact A F o H S
 intro v;induction v with
 | data u y =>
   intro t x cs h f;have key:(∃q:u=t,x=q▸y):=by
    cases t with
    | slice e =>
      rcases mq (show fZ e σ (.data u y)=some x from f) with g|⟨g,_⟩|⟨_,_,_,g,_⟩|⟨_,_,_,_,_,g,_⟩
      .injection g with T U;subst T;exact⟨rfl,(eq_of_heq U).symm⟩
      .cases g
      .cases g
      .cases g
    | _=>exact Ty.kz f
   obtain⟨q,j⟩:=key;subst q;subst j;exact bB.mono M (λ_ _ _=>rfl) h
 | mix p q J K =>
   intro t x cs h f;cases t with
   | pair s r =>
     obtain⟨V,W,rfl,D,H⟩:=h;obtain⟨y,z,X,j,rfl⟩:=Er f;exact⟨V,W,rfl,J D X,K H j⟩
   | slice e=>exact absurd f (by intro k;cases k)
   | _=>cases f
 | nJ =>
   intro t x cs h f;cases t with
   | slice e=>exact C (v:=.nJ) rfl (λc k=>k) (λ_ _=>by simp) h f
   | _=>cases f
 | whole b aI =>
   intro t x cs h f;cases t with
   | slice e=>exact C (v:=.whole b aI) rfl (λc k=>k) (λ_ _=>by simp) h f
   | _=>cases f
 | part b aI lo n =>
   intro t x cs h f;cases t with
   | slice e=>exact C (v:=.part b aI lo n) rfl (λc k=>k) (λ_ _=>by simp) h f
   | _=>cases f
 | rL =>
   intro t x cs h f;obtain rfl:cs=[.nilIface]:=h;exact(oS f).1 _ _
 | _ =>
   intro t x cs h f;cases t with
   | slice e=>exact absurd f (by intro k;cases k)
   | _=>cases f
theorem KZ(m:bu B γ σ.mem w){l:Nat->Nat->Prop}(z:∀b o,γ.I b o->l b o)(i:∀b o,B.has b->b<w.heap.size->l b o){v:aK}{t:Ty}{x:t.den}{f:Value}
  (h:b5 γ σ.mem w v .val [f]) (c:qg σ t v=some x):∃cs,bB w l t x cs/\f=bW t cs:=by
 have one:∀{v:aK},b5 γ σ.mem w v .cells [f]->(∃e,t=.slice e)->qg σ t v=some x->∃cs,bB w l t x cs/\f=bW t cs:=by
  intro v j F c;obtain⟨e,rfl⟩:=F;exact⟨[f],C5 m z i j c,rfl⟩
 cases v with
 | data u y =>
   obtain⟨cs,A,C⟩:=dY.1 h;have j:=C5 m z i (v:=.data u y) (cs:=cs) A c;refine⟨cs,j,?_⟩;rw[C];have:u.isAgg=t.isAgg:=by
    cases t with
    | slice e =>
      rcases mq (show fZ e σ (.data u y)=some x from c) with g|⟨g,_⟩|⟨_,_,_,g,_⟩|⟨_,_,_,_,_,g,_⟩
      .injection g with G J;rw[G]
      .cases g
      .cases g
      .cases g
    | _=>obtain⟨q,_⟩:=Ty.kz c;rw[q]
   unfold bW;rw[this]
 | mix p q =>
   obtain⟨D,E,H,A,C⟩:=h;obtain rfl:f=_:=by simpa using H
   have j:=C5 m z i (v:=.mix p q) (cs:=D++E) ⟨D,E,rfl,A,C⟩ c;refine⟨_,j,?_⟩;cases t with
   | pair s r=>rfl
   | slice e=>exact absurd c (by intro k;cases k)
   | _=>cases c
 | nJ=>cases t with
   | slice e=>exact one h ⟨e,rfl⟩ c
   | _=>cases c
 | whole b aI=>cases t with
   | slice e=>exact one h ⟨e,rfl⟩ c
   | _=>cases c
 | part b aI lo n=>cases t with
   | slice e=>exact one h ⟨e,rfl⟩ c
   | _=>cases c
 | rL =>
   have h:[f]=[Value.nilIface]:=h;obtain rfl:f=.nilIface:=by simpa using h
   exact⟨[.nilIface],(oS c).1 _ _,(oS c).2.2.1.symm⟩
 | _=>cases t with
   | slice e=>exact absurd c (by intro k;cases k)
   | _=>cases c
def kV(e:Gh)(b:Nat->Option Box)(w:World)(c:List aK)(xs:List Value):Prop:=xs.length=c.length/\∀(i:Nat) v x,c[i]?=some v->xs[i]?=some x->b5 e b w v .val [x]
theorem kV.cons{b:Nat->Option Box}{v:aK}{e:List aK}{c:List Value}(h:kV γ b w (v::e) c):∃x r,c=x::r/\b5 γ b w v .val [x]/\kV γ b w e r:=by
 cases c with
 | nil=>cases h.1
 | cons x r=>exact⟨x,r,rfl,h.2 0 v x rfl rfl,by simpa using h.1,λi f g j k=>h.2 (i+1) f g j k⟩
theorem kV.ext{c b:Nat->Option Box}{e:Gh}{f:List aK}{g:List Value}(h:kV γ c w f g)(j:Ext B γ c w e b w'):kV e b w' f g:=⟨h.1,λi v x k l=>(h.2 i v x k l).ext j⟩
theorem Nw(j:bu B γ σ.mem w){I':Nat->Nat->Prop}(k:∀b o,γ.I b o->I' b o)(g:∀b o,B.has b->b<w.heap.size->I' b o):∀{A:Ty} {x:A.den} {vs:List aK} {e:List Value},
  kV γ σ.mem w vs e->ig σ A vs=some x->iq w I' A x e:=by
 intro A;induction A with
 | pair t r l i =>
   intro x vs e h c;cases vs with
   | nil=>cases c
   | cons v vs =>
     obtain⟨y,f,rfl,m,n⟩:=h.cons;simp only[ig] at c;split at c
     .rename_i p q s u;obtain rfl:=aE c;obtain⟨z,C,D⟩:=KZ j k g m s;exact⟨z,f,by rw[D],C,i n u⟩
     .cases c
 | unit =>
   intro x vs e h c;cases vs with
   | nil=>exact vY.1 h.1
   | cons v vs=>cases c
 | _=>intro x vs e h c;cases vs<;>cases c
theorem iq.mono{I I':Nat->Nat->Prop}(f:∀b o,I b o->I' b o)(g:∀b o,I b o->w'.cell? ⟨b,o,none⟩=w.cell? ⟨b,o,none⟩):∀{A:Ty} {x:A.den} {c:List Value},iq w I A x c->iq w' I' A x c:=by
 intro A;induction A with
 | pair t r i e=>intro x c h;obtain⟨j,rest,k,l,m⟩:=h;exact⟨j,rest,k,bB.mono f g l,e m⟩
 | _=>intro x c h;exact h
theorem qY:∀{A:Ty} {x:A.den} {vs:List aK} {xs:List Value} {σ aV:St} {γ:Gh},cQ B N γ σ a w->kV γ σ.mem w vs xs->kA σ A vs=some (x,aV) ->
  ∃bG,cQ B N bG aV a w/\Ext B γ σ.mem w bG aV.mem w/\iq w bG.I A x xs:=by
 intro A;induction A with
 | pair t r l f =>
   intro x vs xs σ aV γ h e b;cases vs with
   | nil=>cases b
   | cons v vs =>
     obtain⟨y,c,rfl,m,n⟩:=e.cons;simp only[kA] at b;split at b
     .rename_i p bA o;split at b
      .rename_i q b6 s;obtain⟨rfl,rfl⟩:=dz (aE b);obtain⟨u,z,k,C,D,g⟩:=mr h m o;obtain g:y=_:=by simpa using g
       obtain⟨i,E,j,F⟩:=f z (n.ext k) s;exact⟨i,E,k.trans j,C,c,by rw[g],bB.mono j.I j.cells D,F⟩
      .cases b
     .cases b
 | unit =>
   intro x vs xs σ aV γ h e b;cases vs with
   | nil=>obtain⟨rfl,rfl⟩:=dz (aE b);exact⟨γ,h,Ext.refl _ _ _ _,vY.1 e.1⟩
   | cons v vs=>cases b
 | _=>intro x vs xs σ aV γ h e b;cases vs<;>cases b
def abZ(w:World)(I:Nat->Nat->Prop)(e:Ty)(g:Nat)(l:List e.den)(L:Option (Nat×Nat))(v:Value):Prop :=
 0<e.size/\((L=none/\l=[]/\v=.slice none 0 0)\/∃c b f tid h,L=some (c,b)/\v=.slice (some ⟨c,0,none⟩) l.length b/\w.heap[c]?=some (.cells f tid h)/\ThB e f h/\(g=0\/tid=g) /\
  l.length<=b/\b<=maxLen/\f.size=b*e.size/\(∀o,¬I c o)/\∀(i:Nat) (x:e.den),l[i]?=some x->bB w I e x ((f.toList.drop<|i*e.size).take e.size))
def Ad(w:World)(I:Nat->Nat->Prop):(o:OT)->o.den->List Value->List Nat->List (Option<|Nat×Nat)->Prop
 | .zL t,x,cs,b,ls=>bB w I t x cs/\b=[]/\ls=[]
 | .buf e g,l,cs,b,ls=>∃L v,cs=[v]/\b=[]/\ls=[L]/\abZ w I e g l L v
 | .ref tid o,u,cs,b,ls=>∃c r,cs=[.pointer<|some ⟨c,0,none⟩]/\b=c::r/\(∀h,¬I c h)/\∃f i j,w.heap[c]?=some (.cells f i j)/\lU f j/\(tid=0\/i=tid)/\Ad w I o u f.toList r ls
 | .pair p q,u,cs,b,ls=>∃k m n s y z,cs=k++m/\b=n++s/\ls=y++z/\Ad w I p u.1 k n y/\Ad w I q u.2 m s z
 | .unit,_,cs,b,ls=>cs=[]/\b=[]/\ls=[]
 | .dK,_,cs,b,ls=>cs=[.pointer none]/\b=[]/\ls=[]
def cW(b:List Nat)(c:List (Option<|Nat×Nat)):List Nat:=b++c.filterMap λL=>L.map (·.1)
def Pg(w:World)(I:Nat->Nat->Prop):List Bool->(A:Ty)->(U:OT)->A.den->List Value->List Value->Prop
 | [],A,U,_,vs,kT=>A=.unit/\U=.unit/\vs=[]/\kT=[]
 | false::ps,A,U,x,vs,kT=>match A,x with
   | .pair t A,x=>∃c b,vs=bW t c::b/\bB w I t x.1 c/\Pg w I ps A U x.2 b kT
   | _,_=>False
 | true::ps,A,U,x,vs,kT=>match U with
   | .pair (.ref _ _) U=>∃v b r,vs=v::b/\kT=v::r/\Pg w I ps A U x b r
   | .pair .dK U=>∃v b r,vs=v::b/\kT=v::r/\Pg w I ps A U x b r
   | _=>False
structure eP (P:Program) (G:fm) (f:Nat) (c:xd):Prop where
 body:∃fn code,P.funcs[f]?=some fn/\(fn.name == "runtime.NumGoroutine")=false/\fn.body=some code
 calls:∀(I:Nat->Nat->Prop) (w:World) (args:Array Value) (kT:List Value) (bs:List Nat) (ls:List (Option<|Nat×Nat)) (x:c.A.den) (u:c.U.den) (y:c.R.den×c.U.den),(∀b o,I b o->b<w.heap.size)->F2 G w->(∀b Q,G b Q->b∉cW bs ls) ->
  Pg w I c.ps c.A c.U x args.toList kT->Ad w I c.U u kT bs ls->(cW bs ls).Nodup->c.spec (x,u)=some y ->
  Calls P f args w λe w'=>∃v I' ls',e=.returned v/\tV ⟨w.heap.size,(·∈cW bs ls),G⟩ w w'/\(∀b o,I b o->I' b o)/\(∀b o,I' b o->b<w'.heap.size)/\(∀b o,I' b o->¬I b o->w.heap.size<=b\/b∈cW bs ls)/\lV w' I' c.R y.1 v /\
   Ad w' I' c.U y.2 kT bs ls'/\(cW bs ls').Nodup/\∀blk∈cW [] ls',blk∈cW bs ls\/w.heap.size<=blk
structure vd (og:Option Nat) (w w':World):Prop where
 os:w'.os=w.os
 tape:w'.tape=w.tape
 output:w'.output=w.output
 size:w.heap.size<=w'.heap.size
 block:∀k,k<w.heap.size->og≠some k->w'.heap[k]?=w.heap[k]?
 cell:∀k o,k<w.heap.size->w'.cell? ⟨k,o,none⟩=w.cell? ⟨k,o,none⟩
def vp(w:World)(I:Nat->Nat->Prop)(e:Ty)(l:List e.den)(L:Option (Nat×Nat))(v:Value):Prop :=
 (L=none/\l=[]/\v=.slice none 0 0)\/∃c b f tid g,L=some (c,b)/\v=.slice (some ⟨c,0,none⟩) l.length b/\w.heap[c]?=some (.cells f tid g)/\ThB e f g /\
  l.length<=b/\b<=maxLen/\f.size=b*e.size/\(∀o,¬I c o)/\∀(i:Nat) (x:e.den),l[i]?=some x->bB w I e x ((f.toList.drop<|i*e.size).take e.size)
structure kH (w:World) (I:Nat->Nat->Prop) (X:Nat->Prop) (w':World) (I':Nat->Nat->Prop):Prop where
 below:tV ⟨w.heap.size,X,vl⟩ w w'
 held:∀b o,I b o->I' b o
 sV:∀b o,I' b o->b<w'.heap.size
 pC:∀b o,I' b o->¬I b o->w.heap.size<=b
def eF(P:Program)(f:Nat):Y2->Prop
 | .chk T=>(∃fn h,P.funcs[f]?=some fn/\(fn.name == "runtime.NumGoroutine")=false/\fn.body=some h) /\
  ∀(w:World) (b:Nat) (p v:Value) (n:Nat×Nat),w.heap[b]?=some (.cells #[p,v] T n)->¬(n.1<=0/\0<n.2)->(p=.pointer none\/p=.pointer (some ⟨b,0,none⟩)) ->
   Calls P f #[.pointer<|some ⟨b,0,none⟩] w λe w'=>e=.returned (.tuple #[])/\(w'=w\/w'=w.setRow b #[.pointer<|some ⟨b,0,none⟩,v])
 | .str T E=>(∃fn h,P.funcs[f]?=some fn/\(fn.name == "runtime.NumGoroutine")=false/\fn.body=some h) /\
  ∀(w:World) (b:Nat) (p v:Value) (n:Nat×Nat) (l:aq) (r:Option Nat),w.heap[b]?=some (.cells #[p,v] T n) ->
   ((r=none/\v=.slice none 0 0/\l=[])\/∃(g cap:Nat) (cur:Array Value) (fr':Nat×Nat),r=some g/\v=.slice (some ⟨g,0,none⟩) l.length cap/\w.heap[g]?=some (.cells cur E fr')/\l.length<=cap/\cap<=maxLen/\cur.size=cap/\∀(j:Nat) (x:UInt8),l[j]?=some x->cur[j]?=some (Value.int .u8 x.toNat)) ->
   Calls P f #[.pointer<|some ⟨b,0,none⟩] w λe w'=>e=.returned (.string ⟨l.toArray⟩)/\vd r w w'
 | .clone e=>(∃fn h,P.funcs[f]?=some fn/\(fn.name == "runtime.NumGoroutine")=false/\fn.body=some h) /\
  ∀(I:Nat->Nat->Prop) (w:World) (args:Array Value) (l:List e.den),(∀b o,I b o->b<w.heap.size)->iq w I (.pair (.slice e) .unit) (l,()) args.toList->fits (len l)=true ->
   Calls P f args w λq w'=>∃v m L,q=.returned v/\kH w I (λ_=>False) w' m/\vp w' m e l L v/\∀i c,L=some (i,c)->w.heap.size<=i
 | .own e A res spec=>(∃fn h,P.funcs[f]?=some fn/\(fn.name == "runtime.NumGoroutine")=false/\fn.body=some h) /\
  ∀(I:Nat->Nat->Prop) (w:World) (args:Array Value) (v:Value) (rest:List Value) (l l':List e.den) (L:Option (Nat×Nat)) (x:A.den),(∀b o,I b o->b<w.heap.size)->args.toList=v::rest->vp w I e l L v->iq w I A x rest->spec l x=some l' ->
   Calls P f args w λq w'=>∃m,kH w I (λk=>∃c,L=some (k,c)) w' m /\
    match res with
    | true=>∃s t,q=.returned s/\vp w' m e l' t s/\∀i c,t=some (i,c)->(∃c,L=some (i,c))\/w.heap.size<=i
    | false=>q=.returned (.tuple #[])/\l'.length=l.length/\vp w' m e l' L v
 | .D2 g=>(∃fn h,P.funcs[f]?=some fn/\(fn.name == "runtime.NumGoroutine")=false/\fn.body=some h) /\
  ∃T,∀(w:World) (v:Value),Calls P f #[v] w λq w'=>q=.returned (.func (.func g) #[] #[.pointer<|some ⟨w.heap.size,0,none⟩])/\w'=w.alloc (.cells v.cells T)
structure oT (P:Program) (G:fm) (cx:Ctx):Prop where
 con:∀f c,find cx.con f=some c->Holds P G f c
 Ql:∀f c,find cx.Ql f=some c->eP P G (f / 2) c
 Nn:∀f s,find cx.Nn f=some s->eF P f s
 inv:∀name c,SR cx.inv name=some c->kG P G name c
theorem Ex{l:List Nat}{t:Nat}:cK l t=true↔t∈l:=by
 induction l with
 | nil=>simp[cK]
 | cons i r b =>
   simp only[cK,x7,fY,b];constructor
   .rintro(h|h)
    .exact .inl (eT h)
    .exact .inr h
   .rintro(h|h)
    .subst h;exact .inl (by simp)
    .exact .inr h
theorem Gd{l:List Nat}:Kx l=true↔l.Nodup:=by
 induction l with
 | nil=>simp[Kx]
 | cons b r c =>
   simp only[Kx,dF,kS,DZ,c];constructor
   .rintro⟨h,k⟩;exact⟨λq=>(by rw[Ex.2 q] at h;cases h),k⟩
   .rintro⟨h,k⟩;refine⟨?_,k⟩;cases e:cK r b with
    | false=>rfl
    | true=>exact absurd (Ex.1 e) h
theorem Ad.len{w:World}{I:Nat->Nat->Prop}:∀{o:OT} {u:o.den} {cs:List Value} {b:List Nat} {ls:List (Option<|Nat×Nat)},Ad w I o u cs b ls->b.length=o.nr/\ls.length=o.nb:=by
 intro o;induction o with
 | zL t=>intro u cs b ls h;rw[h.2.1,h.2.2];exact⟨rfl,rfl⟩
 | buf e i=>intro u cs b ls h;obtain⟨L,v,_,rfl,rfl,_⟩:=h;exact⟨rfl,rfl⟩
 | ref tid o j =>
   intro u cs b ls h;obtain⟨k,r,_,rfl,_,l,n,s,_,_,_,c⟩:=h;have:=j c;exact⟨by simp[OT.nr,this.1],this.2⟩
 | pair p q f g =>
   intro u cs b ls h;obtain⟨x,y,z,A,C,D,_,rfl,rfl,c,m⟩:=h;have:=f c;have:=g m;simp_all[OT.nr,OT.nb]
 | unit=>intro u cs b ls h;rw[h.2.1,h.2.2];exact⟨rfl,rfl⟩
 | dK=>intro u cs b ls h;rw[h.2.1,h.2.2];exact⟨rfl,rfl⟩
def HQ(c:Nat->Option Box):(o:OT)->o.den->List (Nat×Nat)->List (Nat×Nat)->Prop
 | .zL _,_,_,_=>True
 | .buf e f,l,_,M=>∃b v r,M=(b,v)::r/\c b=some { val:=.data (.slice e) l,tid:=f,buf:=true,ro:=false,lk:=false,aI:=v }
 | .ref tid o,u,N,M=>∃b v r,N=(b,v)::r/\c b=some { val:=D7 o u r M,tid,buf:=false,ro:=false,lk:=false,aI:=v }/\HQ c o u r M
 | .pair p q,u,N,M=>HQ c p u.1 (N.take p.nr) (M.take p.nb)/\HQ c q u.2 (N.drop p.nr) (M.drop p.nb)
 | .unit,_,_,_=>True
 | .dK,_,_,_=>True
theorem oF:∀{o:OT} {u:o.den} {N M:List (Nat×Nat)} {c:Nat} {b:Box},iE o u N M c=some b->c∈bo N M:=by
 intro o;induction o with
 | zL t=>intro u N M c b h;cases h
 | buf e l =>
   intro u N M c b h;cases M with
   | nil=>cases h
   | cons p r =>
     unfold iE at h;cases g:Nat.beq c p.1 with
     | true=>rw[eT g];simp[bo]
     | false=>dsimp only at h;rw[g] at h;cases h
 | ref tid o s =>
   intro u N M c b h;cases N with
   | nil=>cases h
   | cons p r =>
     unfold iE at h;cases g:Nat.beq c p.1 with
     | true=>rw[eT g];simp[bo]
     | false =>
       dsimp only at h;rw[g] at h;have:=s h;unfold bo at this⊢;simp only[tg,zP,fY];exact .inr this
 | pair p q i j =>
   intro u N M c b h;unfold iE at h;have k:∀{n m:Nat},(c∈bo (N.take n) (M.take m)->c∈bo N M)/\(c∈bo (N.drop n) (M.drop m)->c∈bo N M):=by
    intro n m;unfold bo;simp only[sv,vb];constructor
    .rintro(⟨a,f,rfl⟩|⟨a,f,rfl⟩)
     .exact .inl ⟨a,Nj f,rfl⟩
     .exact .inr ⟨a,Nj f,rfl⟩
    .rintro(⟨a,f,rfl⟩|⟨a,f,rfl⟩)
     .exact .inl ⟨a,Kk f,rfl⟩
     .exact .inr ⟨a,Kk f,rfl⟩
   split at h
   .rename_i x v;exact k.1 (i v)
   .exact k.2 (j h)
 | unit=>intro u N M c b h;cases h
 | dK=>intro u N M c b h;cases h
theorem Zj{c:Nat->Option Box}{t:Ty}{v:aK}{x:t.den}{b:Value}(f:b5 γ c w v .val [b])(h:toD t v=some x):∃g,bB w γ.I t x g/\b=bW t g:=by
 unfold toD at h;split at h
 .rename_i u y;obtain⟨q,i⟩:=Ty.kz h;subst q;subst i;exact dY.1 f
 .split at h
  .rename_i e;obtain rfl:=aE h;obtain rfl:b=_:=by simpa [b5] using f
   exact⟨[.slice none 0 0],.inl ⟨⟨none,rfl⟩,rfl⟩,rfl⟩
  .cases h
 .cases h
theorem Tc{t:Ty}{v:aK}{x:t.den}(h:toS t v=some x):v=.data t x:=by
 unfold toS at h;split at h
 .obtain⟨q,b⟩:=Ty.kz h;subst q;subst b;rfl
 .cases h
theorem Td{k:Nat->Option Box}:∀{o:OT} {u:o.den} {N M:List (Nat×Nat)},N.length=o.nr->M.length=o.nb->(bo N M).Nodup->(∀c f,iE o u N M c=some f->k c=some f)->HQ k o u N M:=by
 intro o;induction o with
 | zL t=>intro u N M _ _ _ _;trivial
 | buf e H =>
   intro u N M _ l _ h;cases M with
   | nil=>cases l
   | cons p r=>exact⟨p.1,p.2,r,rfl,h p.1 _ (by unfold iE;dsimp only;rw[D1];rfl)⟩
 | ref tid o I =>
   intro u N M n l i h;cases N with
   | nil=>cases n
   | cons p r =>
     refine⟨p.1,p.2,r,rfl,h p.1 _ (by unfold iE;dsimp only;rw[D1];rfl),I (by simpa [OT.nr] using n) l ?_ λc f j=>?_⟩
     .unfold bo at i⊢;simp only[tg,zP,DZ] at i;exact i.2
     .refine h c f ?_;have s:Nat.beq c p.1=false:=by
       cases v:Nat.beq c p.1 with
       | false=>rfl
       | true =>
         have y:=oF j;rw[eT v] at y;unfold bo at i y;simp only[tg,zP,DZ] at i;exact absurd y i.1
      unfold iE;dsimp only;rw[s];exact j
 | pair p q z A =>
   intro u N M n l i h;have J:N.take p.nr++N.drop p.nr=N:=x6 ..;have K:M.take p.nb++M.drop p.nb=M:=x6 ..;simp only[OT.nr,OT.nb] at n l;have g:((N.take p.nr).map (·.1)++(N.drop p.nr).map (·.1)++((M.take p.nb).map (·.1)++(M.drop p.nb).map (·.1))).Nodup:=by
    rw[<-CR,<-CR,J,K];exact i
   have d1:(bo (N.take p.nr)<|M.take p.nb).Nodup:=by
    unfold bo;refine g.sublist ?_;exact List.Sublist.append (aft _ _) (aft _ _)
   have d2:(bo (N.drop p.nr)<|M.drop p.nb).Nodup:=by
    unfold bo;refine g.sublist ?_;exact List.Sublist.append (afr _ _) (afr _ _)
   have m:∀c,c∈bo (N.take p.nr) (M.take p.nb)->c∉bo (N.drop p.nr) (M.drop p.nb):=by
    intro c C D;unfold bo at C D;rw[Nl] at g;obtain⟨E,F,G⟩:=g;rw[Nl] at E F;rcases sv.1 C with a|a<;>rcases sv.1 D with b|b
    .exact E.2.2 c a c b rfl
    .exact G c (nB _ a) c (mP _ b) rfl
    .exact G c (mP _ b) c (nB _ a) rfl
    .exact F.2.2 c a c b rfl
   refine⟨z (by rw[gM];omega) (by rw[gM];omega) d1 λc f j=>h c f ?_,A (by rw[ma];omega) (by rw[ma];omega) d2 λc f j=>h c f ?_⟩
   .show(match iE p u.1 (N.take p.nr) (M.take p.nb) c with|some x=>some x|none=>_)=some f
    rw[j]
   .show(match iE p u.1 (N.take p.nr) (M.take p.nb) c with|some x=>some x|none=>iE q u.2 (N.drop p.nr) (M.drop p.nb) c)=some f
    cases v:iE p u.1 (N.take p.nr) (M.take p.nb) c with
    | none=>exact j
    | some x=>exact absurd (oF j) (m c<|oF v)
 | unit=>intro u N M _ _ _ _;trivial
 | dK=>intro u N M _ _ _ _;trivial
def iG(γ:Gh)(N:List (Nat×Nat))(b:List Nat):Prop:=N.map (λp=>(γ.loc p.1).map (·.1))=b.map some
def pF(γ:Gh)(M:List (Nat×Nat))(b:List (Option<|Nat×Nat)):Prop:=M.map (λp=>γ.loc p.1)=b
theorem iG.split{N:List (Nat×Nat)}{b c:List Nat}{n:Nat}(h:iG γ N (b++c))(e:b.length=n):iG γ (N.take n) b/\iG γ (N.drop n) c:=by
 unfold iG at h⊢;rw[abw,abx,h,CR,HD (by simp[e]),HB (by simp[e])];exact⟨rfl,rfl⟩
theorem pF.split{M:List (Nat×Nat)}{b c:List (Option<|Nat×Nat)}{n:Nat}(h:pF γ M (b++c))(e:b.length=n):pF γ (M.take n) b/\pF γ (M.drop n) c:=by
 unfold pF at h⊢;rw[abw,abx,h,HD e,HB e];exact⟨rfl,rfl⟩
theorem abZ.rep{j:Nat->Option Box}{e:Ty}{n:Nat}{l:List e.den}{L:Option (Nat×Nat)}{v:Value}{b k:Nat}{bx:Box}(h:abZ w γ.I e n l L v)
  (f:γ.loc b=L) (s:j b=some bx) (g:bx.aI=k) (c:bx.buf=true) (i:bx.val=.data (.slice e) l):b5 γ j w (.whole b k) .cells [v]:=by
 rcases h.2 with ⟨o,p,q⟩|⟨m,r,t,tid,u,o,p,q,x,y,z,A,C,D⟩
 .exact⟨⟨v,rfl,by rw[q];rfl⟩,dJ s g ⟨e,l.length,c,Box.df c i,.inl ⟨by rw[<-o];exact f,by rw[q]⟩⟩⟩
 .exact⟨⟨v,rfl,by rw[p];rfl⟩,dJ s g ⟨e,l.length,c,Box.df c i,.inr ⟨m,r,by rw[<-o];exact f,by rw[p]⟩⟩⟩
theorem X2{k:Nat->Option Box}:∀{o:OT} {u:o.den} {cs:List Value} {c:List Nat} {ls:List (Option<|Nat×Nat)} {N M:List (Nat×Nat)},Ad w γ.I o u cs c ls->iG γ N c->pF γ M ls->HQ k o u N M ->
  b5 γ k w (D7 o u N M) .cells cs:=by
 intro o;induction o with
 | zL t=>intro u cs c ls N M h _ _ _;exact h.1
 | buf e x =>
   intro u cs c ls N M h f g i;obtain⟨L,v,rfl,rfl,rfl,j⟩:=h;obtain⟨b,y,r,rfl,l⟩:=i;unfold pF at g;simp only[tg,O7] at g;exact j.rep g.1 l rfl rfl rfl
 | ref tid o K =>
   intro u cs c ls N M h f g i;obtain⟨m,r,rfl,rfl,_,z,O,Q,_,_,_,j⟩:=h;obtain⟨b,y,R,rfl,l,_⟩:=i;unfold iG at f;simp only[tg,O7] at f;obtain⟨q,A,C⟩:=uc.1 f.1;refine⟨⟨_,rfl,rfl⟩,dJ l rfl ⟨m,q.2,?_,rfl⟩⟩;rw[A,<-C]
 | pair p q n s =>
   intro u cs c ls N M h f g i;obtain⟨D,E,S,T,U,V,rfl,rfl,rfl,j,F⟩:=h;obtain⟨G,H⟩:=f.split j.len.1;obtain⟨m1,J⟩:=g.split j.len.2;exact⟨D,E,rfl,n j G m1 i.1,s F H J i.2⟩
 | unit=>intro u cs c ls N M h _ _ _;rw[h.1];exact rfl
 | dK=>intro u cs c ls N M h _ _ _;rw[h.1];exact rfl
theorem Ph{F:Nat->Option Box}:∀{o:OT} {u:o.den} {cs:List Value} {m:List Nat} {ls:List (Option<|Nat×Nat)} {N M:List (Nat×Nat)},Ad w γ.I o u cs m ls->iG γ N m->pF γ M ls->HQ F o u N M ->
  ∀{c:Nat} {n:Box},iE o u N M c=some n->cJ γ F w c n/\n.ro=false/\∀blk k,γ.loc c=some (blk,k)->blk∈cW m ls/\(∃x,w.heap[blk]?=some x)/\∀o,¬γ.I blk o:=by
 intro o;induction o with
 | zL t=>intro u cs m ls N M _ _ _ _ c n h;cases h
 | buf e Y1 =>
   intro u cs m ls N M h y j E c n f;obtain⟨L,v,rfl,rfl,rfl,l⟩:=h;obtain⟨b,vr,r,rfl,hb⟩:=E;unfold pF at j;simp only[tg,O7] at j;unfold iE at f;dsimp only at f;cases G:Nat.beq c b with
   | false=>rw[G] at f;cases f
   | true =>
     rw[G] at f;obtain rfl:=eT G;obtain rfl:=aE f;refine⟨?_,rfl,λblk k i=>?_⟩
     .unfold cJ;refine⟨e,u,rfl,l.1,?_⟩;rcases l.2 with ⟨z,U,H⟩|⟨g,J,s,tid,V,z,U,H,Y,Z,q6,q7,q8,q9,K⟩
      .exact .inl ⟨by rw[j.1];exact z,U⟩
      .exact .inr ⟨g,J,s,tid,V,by rw[j.1];exact z,H,Y,Z,q6,q7,q8,K⟩
     .rcases l.2 with ⟨z,U,H⟩|⟨g,J,s,tid,V,z,U,H,Y,Z,q6,q7,q8,q9,K⟩
      .rw[j.1,z] at i;cases i
      .rw[j.1,z] at i;obtain⟨rfl,rfl⟩:=dz (aE i);exact⟨by simp[cW,z],⟨_,H⟩,q9⟩
 | ref tid o ih =>
   intro u cs m ls N M h y j E c n f;obtain⟨blk,r,rfl,rfl,A,s,t',V,k1,k2,k3,l⟩:=h;obtain⟨b,vr,r',rfl,hb,O⟩:=E;unfold iG at y;simp only[tg,O7] at y;obtain⟨q,G,he⟩:=uc.1 y.1;have Q:γ.loc b=some (blk,q.2):=by rw[G,<-he]
   unfold iE at f;dsimp only at f;cases C:Nat.beq c b with
   | false =>
     rw[C] at f;obtain⟨R,S,D⟩:=ih l y.2 j O f;refine⟨R,S,λg k i=>?_⟩;obtain⟨j1,j2⟩:=D g k i;refine⟨?_,j2⟩;unfold cW at j1⊢;exact oA _ j1
   | true =>
     rw[C] at f;obtain rfl:=eT C;obtain rfl:=aE f;refine⟨?_,rfl,λg k i=>?_⟩
     .unfold cJ;exact⟨blk,q.2,s,t',V,Q,k1,k2,k3,X2 l y.2 j O⟩
     .rw[Q] at i;obtain⟨rfl,rfl⟩:=dz (aE i);exact⟨by simp[cW],⟨_,k1⟩,A⟩
 | pair p q W X =>
   intro u cs m ls N M h y j E c n f;obtain⟨c1,c2,b1,b2,l1,l2,rfl,rfl,rfl,l,h2⟩:=h;obtain⟨n1,n2⟩:=y.split l.len.1;obtain⟨m1,m2⟩:=j.split l.len.2;have T:∀{blk},(blk∈cW b1 l1\/blk∈cW b2 l2)->blk∈cW (b1++b2) (l1++l2):=by
    intro blk;unfold cW;simp only[afA,sv];rintro((a|a)|(a|a))
    .exact .inl (.inl a)
    .exact .inr (.inl a)
    .exact .inl (.inr a)
    .exact .inr (.inr a)
   unfold iE at f;split at f
   .rename_i x hx;obtain rfl:=aE f;obtain⟨R,S,D⟩:=W l n1 m1 E.1 hx;exact⟨R,S,λblk k i=>⟨T<|.inl (D blk k i).1,(D blk k i).2⟩⟩
   .obtain⟨R,S,D⟩:=X h2 n2 m2 E.2 f;exact⟨R,S,λblk k i=>⟨T<|.inr (D blk k i).1,(D blk k i).2⟩⟩
 | unit=>intro u cs m ls N M _ _ _ _ c n h;cases h
 | dK=>intro u cs m ls N M _ _ _ _ c n h;cases h
def Handed(c:Nat->Option Box)(p:Nat×Nat):Prop:=∃b,c p.1=some b/\b.aI=p.2/\b.lk=false/\b.ro=false
theorem QE{e:Nat->Option Box}(h:bu B γ e w){b c k:Nat}{f:Box}(i:e b=some f)(g:f.ro=false)(j:γ.loc b=some (c,k))(o:Nat):¬γ.I c o:=λl=>by
 have:=(h.sep b f c k o i j l).1;rw[g] at this;cases this
theorem Pj{G:Nat->Option Box}(X:bu B γ G w):∀{o:OT} {v:aK} {cs:List Value} {u:o.den} {N M:List (Nat×Nat)},b5 γ G w v .cells cs->dd G o v=some (u,N,M) ->
  ∃U,iG γ N U/\Ad w γ.I o u cs U (M.map λp=>γ.loc p.1)/\∀p∈N++M,Handed G p:=by
 intro o;induction o with
 | zL t =>
   intro v cs u N M A h;unfold dd at h;split at h
   .rename_i x hx;obtain⟨rfl,q⟩:=dz (aE h);obtain⟨rfl,rfl⟩:=dz q;rw[Tc hx] at A;exact⟨[],rfl,⟨A,rfl,rfl⟩,λp C=>by cases C⟩
   .cases h
 | buf e Y1 =>
   intro v cs u N M A h;unfold dd at h;split at h
   case h_2=>cases h
   rename_i b H;split at h
   case h_2=>cases h
   rename_i i J;cases g:(Nat.beq i.aI H&&i.buf&&!i.lk&&!i.ro&&Nat.beq i.tid Y1&&Nat.blt 0 e.size) with
   | false=>rw[g] at h;cases h
   | true =>
     rw[g] at h;simp only[dF,kS] at g;obtain⟨⟨⟨⟨⟨c,s⟩,Q⟩,E⟩,f⟩,R⟩:=g;have c:=eT c;have f:=eT f;have R:0<e.size:=by simpa using R
     simp only[eG] at h;split at h
     case h_2=>cases h
     rename_i t l0 O;split at h
     case h_2=>cases h
     rename_i l hl;obtain⟨rfl,q⟩:=dz (aE h);obtain⟨rfl,rfl⟩:=dz q;obtain⟨rfl,rfl⟩:=jP hl;obtain⟨v,rfl⟩:∃v,cs=[v]:=by obtain⟨⟨v,e,_⟩,_⟩:=A;exact⟨v,e⟩
     obtain⟨e',n,k1,Y,F⟩:=ba J c A.2;rw[Box.df s O] at Y;obtain⟨rfl,rfl⟩:=dz (aE Y);have j:=X.boxes b i J;unfold cJ at j;rw[s] at j;obtain⟨t2,l2,K,a2,m⟩:=j;rw[O] at K;injection K with K a4
     injection K with K
     subst K;obtain rfl:=eq_of_heq a4;refine⟨[],rfl,⟨γ.loc b,v,rfl,rfl,rfl,R,?_⟩,λp C=>?_⟩
     .rcases F with ⟨F,k4⟩|⟨blk,S,F,k4⟩
      .rcases m with ⟨m,T⟩|⟨blk,S,L,tid,Z,m,_⟩
       .exact .inl ⟨m,T,ub k4⟩
       .rw[F] at m;cases m
      .rcases m with ⟨m,T⟩|⟨V,aeb,L,tid,Z,m,T,a6,a7,a8,a9,a10,a11⟩
       .rw[F] at m;cases m
       .rw[F] at m;obtain⟨rfl,rfl⟩:=dz (aE m);exact .inr ⟨blk,S,L,tid,Z,F,ub k4,T,a6,by rw[<-f];exact a7,a8,a9,a10,λo=>QE X J E F o,a11⟩
     .simp only[wY,zO] at C;subst C;exact⟨i,J,c,Q,E⟩
 | ref tid o ih =>
   intro v cs u N M A h;unfold dd at h;split at h
   case h_2=>cases h
   rename_i b H;split at h
   case h_2=>cases h
   rename_i i J;cases g:(Nat.beq i.aI H&&!i.buf&&!i.lk&&!i.ro&&Nat.beq i.tid tid) with
   | false=>rw[g] at h;cases h
   | true =>
     rw[g] at h;simp only[dF,kS] at g;obtain⟨⟨⟨⟨c,s⟩,Q⟩,E⟩,f⟩:=g;have c:=eT c;have f:=eT f;simp only[eG] at h;split at h
     case h_2=>cases h
     rename_i u1 N1 M1 D;obtain⟨rfl,q⟩:=dz (aE h);obtain⟨rfl,rfl⟩:=dz q;obtain⟨blk,k,j1,j2⟩:=ba J c A.2;simp only[cL] at j2;have j:=X.boxes b i J;unfold cJ at j;rw[s] at j;obtain⟨V,S,L,t',Z,K,a2,m,a4,T⟩:=j;rw[j1] at K;obtain⟨rfl,rfl⟩:=dz (aE K);obtain⟨U,W,g2,g3⟩:=ih T D;refine⟨blk::U,?_,⟨blk,U,j2,rfl,λo=>QE X J E j1 o,L,t',Z,a2,m,by rw[<-f];exact a4,g2⟩,λp C=>?_⟩
     .unfold iG at W⊢;simp only[tg,W,j1];rfl
     .rcases fY.1 (by simpa using C:p∈(b,H)::(N1++M1)) with rfl|C
      .exact⟨i,J,c,Q,E⟩
      .exact g3 p C
 | pair p q ihp ihq =>
   intro v cs u N M A h;unfold dd at h;split at h
   case h_2=>cases h
   rename_i a b;split at h
   case h_2=>cases h
   rename_i x N1 M1 y N2 M2 h1 h2;obtain⟨rfl,z⟩:=dz (aE h);obtain⟨rfl,rfl⟩:=dz z;obtain⟨c1,c2,rfl,v1,v2⟩:=A;obtain⟨b1,W,g2,g3⟩:=ihp v1 h1;obtain⟨b2,k1,Y,F⟩:=ihq v2 h2;refine⟨b1++b2,?_,⟨c1,c2,b1,b2,M1.map λp=>γ.loc p.1,M2.map λp=>γ.loc p.1,rfl,rfl,by rw[CR],g2,Y⟩,λr D=>?_⟩
   .unfold iG at W k1⊢;rw[CR,CR,W,k1]
   .simp only[sv] at D;rcases D with (D|D)|(D|D)
    .exact g3 r (nB _ D)
    .exact F r (nB _ D)
    .exact g3 r (mP _ D)
    .exact F r (mP _ D)
 | unit =>
   intro v cs u N M A h;unfold dd at h;split at h
   case h_2=>cases h
   obtain⟨rfl,z⟩:=dz (aE h);obtain⟨rfl,rfl⟩:=dz z;exact⟨[],rfl,⟨A,rfl,rfl⟩,λp C=>by cases C⟩
 | dK =>
   intro v cs u N M A h;unfold dd at h;split at h
   case h_2=>cases h
   obtain⟨rfl,z⟩:=dz (aE h);obtain⟨rfl,rfl⟩:=dz z;exact⟨[],rfl,⟨A,rfl,rfl⟩,λp C=>by cases C⟩
theorem Gf{g:Nat->Option Box}:∀{o:OT} {v:aK} {u:o.den} {N M:List (Nat×Nat)},dd g o v=some (u,N,M)->N.length=o.nr/\M.length=o.nb:=by
 intro o;induction o with
 | zL t =>
   intro v u N M h;unfold dd at h;split at h
   .obtain⟨_,q⟩:=dz (aE h);obtain⟨rfl,rfl⟩:=dz q;exact⟨rfl,rfl⟩
   .cases h
 | buf e i =>
   intro v u N M h;unfold dd at h;split at h
   case h_2=>cases h
   split at h
   case h_2=>cases h
   rename_i c l;cases f:(Nat.beq c.aI _&&c.buf&&!c.lk&&!c.ro&&Nat.beq c.tid i&&Nat.blt 0 e.size) with
   | false=>rw[f] at h;cases h
   | true =>
     rw[f] at h;simp only[eG] at h;split at h
     case h_2=>cases h
     split at h
     case h_2=>cases h
     obtain⟨_,q⟩:=dz (aE h);obtain⟨rfl,rfl⟩:=dz q;exact⟨rfl,rfl⟩
 | ref tid o m =>
   intro v u N M h;unfold dd at h;split at h
   case h_2=>cases h
   split at h
   case h_2=>cases h
   rename_i c l;cases f:(Nat.beq c.aI _&&!c.buf&&!c.lk&&!c.ro&&Nat.beq c.tid tid) with
   | false=>rw[f] at h;cases h
   | true =>
     rw[f] at h;simp only[eG] at h;split at h
     case h_2=>cases h
     rename_i D n r s;obtain⟨_,q⟩:=dz (aE h);obtain⟨rfl,rfl⟩:=dz q;have:=m s;exact⟨by simp[OT.nr,this.1],this.2⟩
 | pair p q j k =>
   intro v u N M h;unfold dd at h;split at h
   case h_2=>cases h
   split at h
   case h_2=>cases h
   rename_i x n r y E F A C;obtain⟨_,z⟩:=dz (aE h);obtain⟨rfl,rfl⟩:=dz z;have a:=j A;have b:=k C;simp[OT.nr,OT.nb,a.1,a.2,b.1,b.2]
 | unit =>
   intro v u N M h;unfold dd at h;split at h
   case h_2=>cases h
   obtain⟨_,z⟩:=dz (aE h);obtain⟨rfl,rfl⟩:=dz z;exact⟨rfl,rfl⟩
 | dK =>
   intro v u N M h;unfold dd at h;split at h
   case h_2=>cases h
   obtain⟨_,z⟩:=dz (aE h);obtain⟨rfl,rfl⟩:=dz z;exact⟨rfl,rfl⟩
def aK.aga:aK->Option (Ty×Nat)
 | .data (.arr n e) _=>some (e,n)
 | _=>none
theorem ab0{b:Box}(h:b.buf=false):b.row=b.val.aga:=by
 unfold Box.row;rw[h];cases hv:b.val with
 | data t x=>cases t<;>rfl
 | _=>rfl
theorem VM{b:Nat->Option Box}{o:OT}{v:aK}{u y:o.den}{N M c f:List (Nat×Nat)}(h:dd b o v=some (u,N,M)):(D7 o y c f).aga=v.aga:=by
 unfold dd at h;cases o with
 | zL t =>
   dsimp only at h;split at h
   .rename_i x g;rw[Tc g];cases t<;>rfl
   .cases h
 | buf e i =>
   dsimp only at h;split at h
   case h_2=>cases h
   cases f<;>rfl
 | ref tid o =>
   dsimp only at h;split at h
   case h_2=>cases h
   cases c<;>rfl
 | pair p q =>
   dsimp only at h;split at h
   case h_2=>cases h
   rfl
 | unit =>
   dsimp only at h;split at h
   case h_2=>cases h
   rfl
 | dK =>
   dsimp only at h;split at h
   case h_2=>cases h
   rfl
theorem Pk{r:Nat->Option Box}:∀{o:OT} {v:aK} {u y:o.den} {N M:List (Nat×Nat)} {c:Nat} {l:Box},dd r o v=some (u,N,M)->iE o y N (M.map λp=>(p.1,p.2+1)) c=some l ->
  (∃cx,(c,cx.aI)∈N/\r c=some cx/\l.aI=cx.aI/\l.buf=cx.buf/\l.row=cx.row)\/∃cx,(c,cx.aI)∈M/\r c=some cx/\l.aI=cx.aI+1:=by
 intro o;induction o with
 | zL t=>intro v u y N M c l _ h;cases h
 | buf e C =>
   intro v u y N M c l h i;unfold dd at h;split at h
   case h_2=>cases h
   rename_i b s;split at h
   case h_2=>cases h
   rename_i k D;cases f:(Nat.beq k.aI s&&k.buf&&!k.lk&&!k.ro&&Nat.beq k.tid C&&Nat.blt 0 e.size) with
   | false=>rw[f] at h;cases h
   | true =>
     rw[f] at h;simp only[dF] at f;have j:=eT f.1.1.1.1.1;simp only[eG] at h;split at h
     case h_2=>cases h
     split at h
     case h_2=>cases h
     obtain⟨_,q⟩:=dz (aE h);obtain⟨rfl,rfl⟩:=dz q;unfold iE at i;simp only[tg,List.map_nil] at i;cases A:Nat.beq c b with
     | false=>rw[A] at i;cases i
     | true =>
       rw[A] at i;obtain rfl:=eT A;obtain rfl:=aE i;exact .inr ⟨k,by rw[j];simp,D,by rw[j]⟩
 | ref tid o I =>
   intro v u y N M c l h i;unfold dd at h;split at h
   case h_2=>cases h
   rename_i b s;split at h
   case h_2=>cases h
   rename_i k D;cases f:(Nat.beq k.aI s&&!k.buf&&!k.lk&&!k.ro&&Nat.beq k.tid tid) with
   | false=>rw[f] at h;cases h
   | true =>
     rw[f] at h;simp only[dF,kS] at f;have j:=eT f.1.1.1.1;simp only[eG] at h;split at h
     case h_2=>cases h
     rename_i Q J K G;obtain⟨_,q⟩:=dz (aE h);obtain⟨rfl,rfl⟩:=dz q;unfold iE at i;dsimp only at i;cases A:Nat.beq c b with
     | false =>
       rw[A] at i;rcases I G i with ⟨cx,m,n⟩|g
       .exact .inl ⟨cx,oA _ m,n⟩
       .exact .inr g
     | true =>
       rw[A] at i;obtain rfl:=eT A;obtain rfl:=aE i;refine .inl ⟨k,by rw[j];simp,D,j.symm,f.1.1.1.2.symm,?_⟩;rw[ab0 f.1.1.1.2,ab0 rfl];exact VM G
 | pair p q E F =>
   intro v u y N M c l h i;unfold dd at h;split at h
   case h_2=>cases h
   split at h
   case h_2=>cases h
   rename_i x J K R S T H L;obtain⟨_,z⟩:=dz (aE h);obtain⟨rfl,rfl⟩:=dz z;have a:=Gf H;unfold iE at i;rw[CR,HD a.1,HB a.1,HD (by simp[a.2]),HB (by simp[a.2])] at i;split at i
   .rename_i x O;obtain rfl:=aE i;rcases E H O with ⟨cx,m,n⟩|⟨cx,m,n⟩
    .exact .inl ⟨cx,nB _ m,n⟩
    .exact .inr ⟨cx,nB _ m,n⟩
   .rcases F L i with ⟨cx,m,n⟩|⟨cx,m,n⟩
    .exact .inl ⟨cx,mP _ m,n⟩
    .exact .inr ⟨cx,mP _ m,n⟩
 | unit=>intro v u y N M c l _ h;cases h
 | dK=>intro v u y N M c l _ h;cases h
theorem Gg:∀{o:OT} {u:o.den} {N M:List (Nat×Nat)} {c:Nat},N.length=o.nr->M.length=o.nb->c∈bo N M->∃m,iE o u N M c=some m:=by
 intro o;induction o with
 | zL t =>
   intro u N M c f g b;rw[vY.1 f,vY.1 g] at b;cases b
 | buf e s =>
   intro u N M c f g b;rw[vY.1 f] at b
   match M,g,b with
   | [p],_,b =>
     have:c=p.1:=by simpa [bo] using b
     subst this;exact⟨_,by unfold iE;dsimp only;rw[D1];rfl⟩
 | ref tid o v =>
   intro u N M c f g b;cases N with
   | nil=>cases f
   | cons p r =>
     unfold iE;dsimp only;cases i:Nat.beq c p.1 with
     | true=>exact⟨_,rfl⟩
     | false =>
       refine v (by simpa [OT.nr] using f) g ?_;unfold bo at b⊢;simp only[tg,zP,fY] at b;rcases b with rfl|b
       .rw[D1] at i;cases i
       .exact b
 | pair p q j k =>
   intro u N M c f g b;simp only[OT.nr,OT.nb] at f g;have y:N.take p.nr++N.drop p.nr=N:=x6 ..;have z:M.take p.nb++M.drop p.nb=M:=x6 ..;unfold iE;cases i:iE p u.1 (N.take p.nr) (M.take p.nb) c with
   | some x=>exact⟨x,rfl⟩
   | none =>
     refine k (by rw[ma];omega) (by rw[ma];omega) ?_;have h:c∉bo (N.take p.nr) (M.take p.nb):=λl=>by
      obtain⟨m,n⟩:=j (u:=u.1) (by rw[gM];omega) (by rw[gM];omega) l;rw[i] at n;cases n
     unfold bo at b h⊢;rw[<-y,<-z,CR,CR] at b;simp only[sv] at b h⊢;rcases b with (b|b)|(b|b)
     .exact absurd (.inl b) h
     .exact .inl b
     .exact absurd (.inr b) h
     .exact .inr b
 | unit =>
   intro u N M c f g b;rw[vY.1 f,vY.1 g] at b;cases b
 | dK =>
   intro u N M c f g b;rw[vY.1 f,vY.1 g] at b;cases b
def gW:List (Nat×Nat)->List (Option<|Nat×Nat)->(Nat->Option (Nat×Nat))->Nat->Option (Nat×Nat)
 | (b,_)::M,L::ls,loc,c=>if c=b then L else gW M ls loc c
 | _,_,loc,c=>loc c
theorem C6{b:Nat->Option (Nat×Nat)}:∀{M:List (Nat×Nat)} {ls:List (Option<|Nat×Nat)} {c:Nat},c∉M.map (·.1)->gW M ls b c=b c:=by
 intro M;induction M with
 | nil=>intro ls c _;cases ls<;>rfl
 | cons p r e =>
   intro ls c h;cases ls with
   | nil=>rfl
   | cons L ls =>
     simp only[tg,fY,HF] at h;unfold gW;rw[bb h.1];exact e h.2
theorem ym{loc:Nat->Option (Nat×Nat)}:∀{M:List (Nat×Nat)} {ls:List (Option<|Nat×Nat)},(M.map (·.1)).Nodup->M.length=ls.length->M.map (λp=>gW M ls loc p.1)=ls:=by
 intro M;induction M with
 | nil=>intro ls _ h;cases ls with|nil=>rfl|cons _ _=>cases h
 | cons p r f =>
   intro ls b h;cases ls with
   | nil=>cases h
   | cons L ls =>
     simp only[tg,DZ] at b;have:r.map (λq=>gW (p::r) (L::ls) loc q.1)=ls:=by
      refine w8 (Qj λq g=>?_) (f b.2<|by simpa using h);have c:q.1≠p.1:=λe=>b.1 (by rw[<-e];exact vb.2 ⟨q,g,rfl⟩);show(if q.1=p.1 then L else gW r ls loc q.1)=_
      rw[bb c]
     rw[tg,this];show(if p.1=p.1 then L else _)::ls=L::ls
     rw[bd rfl]
theorem Gi{loc:Nat->Option (Nat×Nat)}{M:List (Nat×Nat)}{e:List (Option<|Nat×Nat)}(g:(M.map (·.1)).Nodup)(h:M.length=e.length){c:Nat}(j:c∈M.map (·.1)):∃i v:Nat,M[i]?=some (c,v)/\e[i]?=some (gW M e loc c):=by
 obtain⟨p,k,rfl⟩:=vb.1 j;obtain⟨i,f,b⟩:=O1 k;refine⟨i,p.2,by rw[jE f,b],?_⟩;have:=ym (loc:=loc) g h
 conv=>lhs;rw[<-this]
 rw[Kj,jE f,b];rfl
theorem gE{U:OT}{y:U.den}{N M:List (Nat×Nat)}{b:St}{c:Nat}:(kB U y N M b).mem c=match iE U y N (M.map λp=>(p.1,p.2+1)) c with|some e=>some e|none=>b.mem c:=rfl
theorem uv{N M:List (Nat×Nat)}:bo N (M.map λp=>(p.1,p.2+1))=bo N M:=by
 unfold bo;rw[Pb];rfl
theorem ab1{c k m:Nat}:∀{l:List (Option<|Nat×Nat)} {i j:Nat},(l.filterMap λL=>L.map (·.1)).Nodup->l[i]?=some (some (c,k))->l[j]?=some (some (c,m))->i=j:=by
 intro l;induction l with
 | nil=>intro i j _ h;simp at h
 | cons L r u =>
   intro i j e n o;have g:∀(q s:Nat),r[q]?=some (some (c,s))->c∈r.filterMap λL=>L.map (·.1):=λq s v=>O5.2 ⟨_,iy v,rfl⟩;cases i with
   | zero =>
     cases j with
     | zero=>rfl
     | succ j =>
       obtain rfl:=aE (show some L=_ from n);rw[Xz (f:=λL:Option (Nat×Nat)=>L.map (·.1)) (a:=some (c,k)) (b:=c) rfl] at e;exact absurd (g j m<|by simpa using o) (DZ.1 e).1
   | succ i =>
     cases j with
     | zero =>
       obtain rfl:=aE (show some L=_ from o);rw[Xz (f:=λL:Option (Nat×Nat)=>L.map (·.1)) (a:=some (c,m)) (b:=c) rfl] at e;exact absurd (g i k<|by simpa using n) (DZ.1 e).1
     | succ j =>
       have p:(r.filterMap λL=>L.map (·.1)).Nodup:=by
        cases t:L.map (·.1) with
        | none=>rw[afu t] at e;exact e
        | some q=>rw[Xz t] at e;exact(DZ.1 e).2
       have:=u p (by simpa using n) (by simpa using o);omega
theorem bu.refs(h:bu B γ σ.mem w){U:OT}{V:aK}{u y:U.den}{N M:List (Nat×Nat)}{kT:List Value}{C:List Nat}{l:List (Option<|Nat×Nat)}(hr:dd σ.mem U V=some (u,N,M))(hd:(bo N M).Nodup)(hN:iG γ N C)
  (hH:∀p∈N++M,Handed σ.mem p) {G:fm} (hw:tV ⟨w.heap.size,(·∈cW C (M.map λp=>γ.loc p.1)),G⟩ w w') {K:Nat->Nat->Prop} (hI:∀b o,γ.I b o->K b o) (aiV:∀b o,K b o->b<w'.heap.size)
  (X:∀b o,K b o->¬γ.I b o->w.heap.size<=b\/b∈cW C (M.map λp=>γ.loc p.1)) (ha:Ad w' K U y kT C l) (O:(cW C l).Nodup) (hfr:∀f∈cW [] l,f∈cW C (M.map λp=>γ.loc p.1)\/w.heap.size<=f) :
  bu B ⟨K,gW M l γ.loc⟩ (kB U y N M σ).mem w'/\Ext B γ σ.mem w ⟨K,gW M l γ.loc⟩ (kB U y N M σ).mem w':=by
 have hlen:=Gf hr;have hal:=ha.len;have Q:M.length=l.length:=by rw[hlen.2,hal.2]
 have R:(M.map (·.1)).Nodup:=by unfold bo at hd;exact(Nl.1 hd).2.1
 have hNM:∀c,c∈N.map (·.1)->c∉M.map (·.1):=λc h1 h2=>by unfold bo at hd;exact(Nl.1 hd).2.2 c h1 c h2 rfl
 have hold:∀f,f∈cW C (M.map λp=>γ.loc p.1)->∃b bx k,b∈bo N M/\σ.mem b=some bx/\bx.ro=false/\γ.loc b=some (f,k)/\(b∈N.map (·.1)->f∈C):=by
  intro f m;unfold cW at m;rcases sv.1 m with m|m
  .have:some f∈N.map λp=>(γ.loc p.1).map (·.1):=by rw[hN];exact vb.2 ⟨f,m,rfl⟩
   obtain⟨p,Y,S⟩:=vb.1 this;obtain⟨q,D,S⟩:=uc.1 S;obtain⟨bx,j1,j2,j3,j4⟩:=hH p (nB _ Y);exact⟨p.1,bx,q.2,nB _ (vb.2 ⟨p,Y,rfl⟩),j1,j4,by rw[D,<-S],λ_=>m⟩
  .obtain⟨L,hL,S⟩:=O5.1 m;obtain⟨p,Y,rfl⟩:=vb.1 hL;obtain⟨q,D,S⟩:=uc.1 S;obtain⟨bx,j1,j2,j3,j4⟩:=hH p (mP _ Y);exact⟨p.1,bx,q.2,mP _ (vb.2 ⟨p,Y,rfl⟩),j1,j4,by rw[D,<-S],λhq'=>absurd (vb.2 ⟨p,Y,rfl⟩) (hNM _ hq')⟩
 have E:∀f∈cW C (M.map λp=>γ.loc p.1),B.has f/\f<w.heap.size:=λf m=>by
  obtain⟨b,bx,k,_,g2,_,g4,_⟩:=hold f m;exact h.fresh b f k (by rw[g2];simp) g4
 have ahn:∀f∈cW C (M.map λp=>γ.loc p.1),∀o,¬γ.I f o:=λf m o=>by
  obtain⟨b,bx,k,_,g2,g3,g4,_⟩:=hold f m;exact QE h g2 g3 g4 o
 have t:∀k,k<w.heap.size->k∉cW C (M.map λp=>γ.loc p.1)->w'.heap[k]?=w.heap[k]?:=λk hk m=>hw.block k λq=>by
  rcases q with q|q
  .have:w.heap.size<=k:=q;omega
  .exact m q
 have aiY:∀k,¬B.has k->k<w.heap.size:=λk hk=>XJ λq=>hk (.inl<|iz h.base q);have hN':iG ⟨K,gW M l γ.loc⟩ N C:=by
  unfold iG at hN⊢;rw[<-hN];refine Qj λp Y=>?_;show(gW M l γ.loc p.1).map _=_
  rw[C6<|hNM p.1<|vb.2 ⟨p,Y,rfl⟩]
 have hL':pF ⟨K,gW M l γ.loc⟩ (M.map λp=>(p.1,p.2+1)) l:=by
  unfold pF;rw[Pb];exact ym R Q
 have QF:HQ (kB U y N M σ).mem U y N (M.map λp=>(p.1,p.2+1)) :=
  Td hlen.1 (by rw[CS];exact hlen.2) (by rw[uv];exact hd) λc bx hc=>by rw[gE,hc]
 have F:∀{c bx},iE U y N (M.map λp=>(p.1,p.2+1)) c=some bx->_:=λ{c bx} hc=>Ph (γ:=⟨K,gW M l γ.loc⟩) ha hN' hL' QF hc;have z:∀{c},iE U y N (M.map λp=>(p.1,p.2+1)) c=none->c∉bo N M:=λ{c} hc D=>by
  obtain⟨bx,m⟩:=Gg (u:=y) (M:=M.map λp=>(p.1,p.2+1)) hlen.1 (by rw[CS];exact hlen.2) (by rw[uv];exact D);rw[hc] at m;cases m
 have r:∀{c},c∉M.map (·.1)->gW M l γ.loc c=γ.loc c:=λhc=>C6 hc;have H:∀c,(kB U y N M σ).mem c≠none->σ.mem c≠none:=by
  intro c hc D;apply hc;rw[gE];cases hv:iE U y N (M.map λp=>(p.1,p.2+1)) c with
  | none=>exact D
  | some bx =>
    rcases Pk hr hv with ⟨cx,_,g,_⟩|⟨cx,_,g,_⟩
    .rw[D] at g;cases g
    .rw[D] at g;cases g
 have hx:Ext B γ σ.mem w ⟨K,gW M l γ.loc⟩ (kB U y N M σ).mem w' :=
  { below:=⟨hw.os,hw.tape,hw.output,hw.size,λk hk=>t k (aiY k hk) λm=>hk (E k m).1⟩
    I:=hI
    pC:=λb o x=>by
     by_cases hi:γ.I b o
     .exact .inl hi
     .rcases X b o x hi with q|q
      .exact .inr (.inl<|iz h.base q)
      .exact .inr (E b q).1
    cells:=λb o hi=>de (t b (h.sV b o hi) λm=>ahn b m o hi)
    boxes:=λc cx hc=>by
     rw[gE];cases hv:iE U y N (M.map λp=>(p.1,p.2+1)) c with
     | none=>exact⟨cx,hc,cD _,λ_=>⟨r λq=>z hv (mP _ q),rfl,rfl⟩⟩
     | some bx =>
       rcases Pk hr hv with ⟨cx',g1,g2,g3,g4,g5⟩|⟨cx',g1,g2,g3⟩
       .rw[hc] at g2;obtain rfl:=aE g2;exact⟨bx,rfl,zR g3.symm,λ_=>⟨r<|hNM c<|vb.2 ⟨_,g1,rfl⟩,g4,g5⟩⟩
       .rw[hc] at g2;obtain rfl:=aE g2;exact⟨bx,rfl,by omega,λe=>by omega⟩ }
 have hls:∀{c f k},c∈M.map (·.1)->gW M l γ.loc c=some (f,k)->f∈cW [] l:=λ{c f k} hc S=>by
  obtain⟨i,v,h1,h2⟩:=Gi (loc:=γ.loc) R Q hc;rw[S] at h2;unfold cW;exact mP _ (O5.2 ⟨_,iy h2,rfl⟩)
 have J:∀{c d f k k'},c∈M.map (·.1)->σ.mem d≠none->gW M l γ.loc c=some (f,k)->gW M l γ.loc d=some (f,k')->c=d:=by
  intro c d f k k' hc hdm e1 Z;have m:=hls hc e1;by_cases s:d∈M.map (·.1)
  .obtain⟨i,v,i1,i2⟩:=Gi (loc:=γ.loc) R Q hc;obtain⟨j,v',j1,j2⟩:=Gi (loc:=γ.loc) R Q s;rw[e1] at i2;rw[Z] at j2;have hnl:(l.filterMap λL=>L.map (·.1)).Nodup:=by unfold cW at O;exact(Nl.1 O).2.1
   have hij:i=j:=by
    exact ab1 hnl i2 j2
   subst hij;rw[i1] at j1;exact(dz<|aE j1).1
  .rw[r s] at Z;have hlt:=(h.fresh d f k' hdm Z).2;rcases hfr f m with D|D
   .obtain⟨n,bx,kn,n1,n2,n3,n4,n5⟩:=hold f D;have ai0:=h.inj n d f kn k' (by rw[n2];simp) hdm n4 Z;subst ai0;unfold bo at n1;rcases sv.1 n1 with n1|n1
    .have h1:=n5 n1;unfold cW at O m;rw[wY] at m;exact absurd rfl ((Nl.1 O).2.2 f h1 f m)
    .exact absurd n1 s
   .omega
 refine⟨?_,hx⟩;exact
  { cP:=h.Ei hx
    base:=iz h.base hw.size
    boxes:=λc cx hc=>by
     rw[gE] at hc;cases hv:iE U y N (M.map λp=>(p.1,p.2+1)) c with
     | none =>
       rw[hv] at hc;replace hc:σ.mem c=some cx:=hc;have hnn:=z hv;refine(h.boxes c cx hc).keep hx (r λq=>hnn (mP _ q)) λf k T=>?_;refine t f (h.fresh c f k (by rw[hc];simp) T).2 λm=>?_;obtain⟨b,bx,k',g1,g2,g3,g4,_⟩:=hold f m;have:=h.inj c b f k k' (by rw[hc];simp) (by rw[g2];simp) T g4;subst this;exact hnn g1
     | some bx =>
       rw[hv] at hc;obtain rfl:=aE hc;exact(F hv).1
    inj:=λc d f k k' hc hd' e1 Z=>by
     by_cases A:c∈M.map (·.1)
     .exact J A (H d hd') e1 Z
     .by_cases s:d∈M.map (·.1)
      .exact(J s (H c hc) Z e1).symm
      .exact h.inj c d f k k' (H c hc) (H d hd') ((r A).symm.trans e1) ((r s).symm.trans Z)
    fresh:=λc f k hc T=>by
     by_cases A:c∈M.map (·.1)
     .have m:=hls A T;obtain⟨bx,hbx⟩:=Gg (u:=y) (M:=M.map λp=>(p.1,p.2+1)) hlen.1 (by rw[CS];exact hlen.2) (by rw[uv];exact mP _ A);obtain⟨_,_,g⟩:=F hbx;obtain⟨_,⟨x,hx1⟩,_⟩:=g f k T;refine⟨?_,(u9.1 hx1).1⟩;rcases hfr f m with q|q
      .exact(E f q).1
      .exact .inl (iz h.base q)
     .have:=h.fresh c f k (H c hc) ((r A).symm.trans T);exact⟨this.1,CP this.2 hw.size⟩
    sV:=aiV
    sep:=λc cx f k W hc T hi=>by
     rw[gE] at hc;cases hv:iE U y N (M.map λp=>(p.1,p.2+1)) c with
     | some bx =>
       obtain⟨_,_,g⟩:=F hv;exact absurd hi ((g f k T).2.2 W)
     | none =>
       rw[hv] at hc;replace hc:σ.mem c=some cx:=hc;have hl0:γ.loc c=some (f,k):=(r λq=>z hv (mP _ q)).symm.trans T;by_cases hi0:γ.I f W
       .exact h.sep c cx f k W hc hl0 hi0
       .have h2:=(h.fresh c f k (by rw[hc];simp) hl0).2;rcases X f W hi hi0 with h1|h1
        .omega
        .obtain⟨b,bx,k',g1,g2,g3,g4,_⟩:=hold f h1;have:=h.inj c b f k k' (by rw[hc];simp) (by rw[g2];simp) hl0 g4;subst this;exact absurd g1 (z hv) }
theorem xv{c:Nat->Option Box}{p q:OT}{a b:aK}{x:p.den}{y:q.den}{N M e f:List (Nat×Nat)}(g:dd c p a=some (x,N,M))(h:dd c q b=some (y,e,f)):dd c (.pair p q) (.mix a b)=some ((x,y),N++e,M++f):=by
 simp only[dd,g,h];rfl
theorem Nx:∀{ps:List Bool} {A:Ty} {U:OT} {vs:List aK} {j:List Value} {x:A.den} {u:U.den} {N M:List (Nat×Nat)},kV γ σ.mem w vs j->eC σ ps A U vs=some (x,u,N,M) ->
  ∃V c,Pg w γ.I ps A U x j c/\b5 γ σ.mem w V .cells c/\dd σ.mem U V=some (u,N,M):=by
 intro ps;induction ps with
 | nil =>
   intro A U vs j x u N M k h;cases A<;>first|(cases h;done)|skip
   cases U<;>first|(cases h;done)|skip
   cases vs with
   | cons v r=>cases h
   | nil =>
     cases h;have hx:j=[]:=by have:=k.1;simpa using this
     exact⟨.data .unit (),[],⟨rfl,rfl,hx,rfl⟩,rfl,rfl⟩
 | cons p ps D =>
   intro A U vs j x u N M k h;cases p with
   | false =>
     cases A<;>first|(cases h;done)|skip
     rename_i t A;cases vs with
     | nil=>cases h
     | cons v r =>
       simp only[eC] at h;split at h
       .rename_i G E F O C l;obtain⟨rfl,q⟩:=dz (aE h);obtain⟨rfl,rfl⟩:=dz q;obtain⟨e,f,rfl,m,n⟩:=k.cons;obtain⟨V,c,s,y,z⟩:=D n l;obtain⟨H,J,K⟩:=Zj m C;exact⟨V,c,⟨H,f,by rw[K],J,s⟩,y,z⟩
       .cases h
   | true =>
     cases U<;>first|(cases h;done)|skip
     rename_i o U;cases o<;>first|(cases h;done)|skip
     case dK =>
      cases vs with
      | nil=>cases h
      | cons v r =>
        cases v<;>first|(cases h;done)|skip
        simp only[eC] at h;split at h
        .rename_i E F q l;cases h;obtain⟨e,f,rfl,m,n⟩:=k.cons;obtain⟨V,c,s,y,z⟩:=D n l;exact⟨.mix .dK V,e::c,⟨e,f,c,rfl,rfl,s⟩,⟨[e],c,rfl,m,y⟩,xv (p:=.dK) (q:=U) (x:=()) (N:=[]) (M:=[]) rfl z⟩
        .cases h
     rename_i tid o;cases vs with
     | nil=>cases h
     | cons v r =>
       simp only[eC] at h;split at h
       .rename_i G Q R E F S T C l;cases h;obtain⟨e,f,rfl,m,n⟩:=k.cons;obtain⟨V,c,s,y,z⟩:=D n l;have L:∃b g,v=.ptr b g []:=by
         have i:=C;unfold dd at i;split at i
         .exact⟨_,_,rfl⟩
         .cases i
        obtain⟨b,g,rfl⟩:=L;exact⟨.mix (.ptr b g []) V,e::c,⟨e,f,c,rfl,rfl,s⟩,⟨[e],c,rfl,m,y⟩,by
         exact xv C z⟩
       .cases h
theorem Pl{f:Nat->Option Box}{N M:List (Nat×Nat)}{l:List Nat}(n:iG γ N l)(m:∀p∈N++M,Handed f p){blk:Nat}(e:blk∈cW l (M.map λp=>γ.loc p.1)):∃b k,(∃g,f b=some g)/\γ.loc b=some (blk,k):=by
 unfold cW at e;rcases sv.1 e with e|e
 .have:some blk∈N.map λp=>(γ.loc p.1).map (·.1):=by rw[n];exact vb.2 ⟨blk,e,rfl⟩
  obtain⟨p,h,c⟩:=vb.1 this;obtain⟨q,i,c⟩:=uc.1 c;obtain⟨g,j,_⟩:=m p (nB _ h);exact⟨p.1,q.2,⟨g,j⟩,by rw[i,<-c]⟩
 .obtain⟨L,o,c⟩:=O5.1 e;obtain⟨p,h,rfl⟩:=vb.1 o;obtain⟨q,i,c⟩:=uc.1 c;obtain⟨g,j,_⟩:=m p (mP _ h);exact⟨p.1,q.2,⟨g,j⟩,by rw[i,<-c]⟩
theorem VN{c:Nat->Option Box}(m:bu B γ c w):∀{l:List (Nat×Nat)},(l.map (·.1)).Nodup->(∀p∈l,Handed c p)->(l.filterMap λp=>(γ.loc p.1).map (·.1)).Nodup:=by
 intro l;induction l with
 | nil=>intro _ _;exact List.nodup_nil
 | cons p r n =>
   intro e g;simp only[tg,DZ] at e;have k:=n e.2 λq b=>g q (oA _ b);cases h:(γ.loc p.1).map (·.1) with
   | none=>rw[afu (f:=λp:Nat×Nat=>(γ.loc p.1).map (·.1)) h];exact k
   | some blk =>
     rw[Xz (f:=λp:Nat×Nat=>(γ.loc p.1).map (·.1)) h,DZ];refine⟨λb=>?_,k⟩;obtain⟨q,b,o⟩:=O5.1 b;obtain⟨x,s,i⟩:=uc.1 h;obtain⟨z,t,j⟩:=uc.1 o;obtain⟨y,u,_⟩:=g p (oB ..);obtain⟨A,v,_⟩:=g q (oA _ b);have:=m.inj p.1 q.1 blk x.2 z.2 (by rw[u];simp) (by rw[v];simp) (by rw[s,<-i]) (by rw[t,<-j]);exact e.1 (by rw[this];exact vb.2 ⟨q,b,rfl⟩)
theorem HR{b:Nat->Option Box}(f:bu B γ b w){N M:List (Nat×Nat)}{c:List Nat}(g:iG γ N c)(i:∀p∈N++M,Handed b p)(j:(bo N M).Nodup):(cW c<|M.map λp=>γ.loc p.1).Nodup:=by
 have h:=VN f (l:=N++M) (by rw[CR];exact j) i;have e:((N++M).filterMap λp=>(γ.loc p.1).map (·.1))=cW c (M.map λp=>γ.loc p.1):=by
  unfold cW;rw[afA,abd]
  congr 1
  have k:(N.filterMap λp=>(γ.loc p.1).map (·.1))=(N.map λp=>(γ.loc p.1).map (·.1)).filterMap id:=by rw[abd];rfl
  rw[k,g,abd];exact List.filterMap_some
 rw[<-e];exact h
end
end Go.Ge
