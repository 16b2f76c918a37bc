/- A ghost interpreter of the model's code, and that it tells the truth: part 5. It says of a function of plain data what a call of it comes to. -/
import Derived.Test.YtpmecibilnjeiaaGreatDoorGeD
set_option linter.unusedVariables false
set_option linter.unusedSimpArgs false
set_option linter.unusedSectionVars false
namespace Go.Ge
open RowKit
def iL(w:World)(I:Nat->Nat->Prop):(A:Ty)->A.den->List Value->Prop
 | .pair t r,x,vs=>∃c b,vs=bW t c::b/\bD w I t x.1 c/\iL w I r x.2 b
 | .unit,_,vs=>vs=[]
 | _,_,_=>False
def kX(w:World)(I:Nat->Nat->Prop)(R:Ty)(y:R.den)(v:Value):Prop:=cf ⟨I,λ_=>none⟩ (λ_=>none) w (ug R y) .val [v]
structure Holds (P:Program) (G:fD) (f:Nat) (c:xC):Prop where
 body:∃fn code,P.funcs[f]?=some fn/\(fn.name == "runtime.NumGoroutine")=false/\fn.body=some code
 calls:∀(I:Nat->Nat->Prop) (w:World) (args:Array Value) (x:c.A.den) (y:c.R.den),(∀b o,I b o->b<w.heap.size)->EP G w->iL w I c.A x args.toList->c.spec x=some y ->
  Calls P f args w λe w'=>∃v I',e=.returned v/\Below w.heap.size w w'/\(∀b o,I b o->I' b o)/\(∀b o,I' b o->b<w'.heap.size)/\(∀b o,I' b o->¬I b o->w.heap.size<=b)/\kX w' I' c.R y v
def kY(P:Program)(G:fD)(g:String)(c:xC):Prop :=
 ∀(I:Nat->Nat->Prop) (w:World) (v:Value) (i:List Value) (x:c.A.den) (y:c.R.den),(∀b o,I b o->b<w.heap.size)->EP G w->iL w I c.A x (v::i)->c.spec x=some y ->
  ∃f u,(callMethod v g i.toArray).run P w=(callFunc f (u::i).toArray).run P w/\(∃k h,P.funcs[f]?=some k/\(k.name == "runtime.NumGoroutine")=false/\k.body=some h) /\
  Calls P f (u::i).toArray w λe w'=>∃v j,e=.returned v/\Below w.heap.size w w'/\(∀b o,I b o->j b o)/\(∀b o,j b o->b<w'.heap.size)/\(∀b o,j b o->¬I b o->w.heap.size<=b)/\kX w' j c.R y v
theorem I8{P:Program}{G:fD}{b:String}{B R:Ty}:kY P G b ⟨.pair .za B,R,λ_=>none⟩:=λI w v c x y _ _ _ h=>by cases h
theorem mT{P:Program}{G:fD}{b:String}{u f:Nat}{a r B R:Ty}{s:a.den×B.den->Option R.den}{t:r.den×B.den->Option R.den}(h:Holds P G f ⟨.pair a B,R,s⟩)
  (C:∀(v:Value) (w:World),(method (P.types.size+Made.depth) u v b).run P w=.ok (f,v) w) (D:r.isAgg=false) (E:kY P G b ⟨.pair r B,R,t⟩) :
  kY P G b ⟨.pair (.alt u a r) B,R,λx=>pick (λy=>s (y,x.2)) (λz=>t (z,x.2)) x.1⟩:=by
 intro I w v e x y i j F k;obtain⟨H,l⟩:=x;obtain⟨J,m,K,n,o⟩:=F;obtain⟨A,rfl⟩:=MY K;rcases H with p|q
 .obtain⟨O,c,rfl,L⟩:=n;refine⟨f,bW a c,?_,h.body,h.calls I w (bW a c::e).toArray (p,l) y i j ⟨c,e,rfl,L,o⟩ k⟩;have M:v=.iface u (bW a c):=by
   rw[A];show bW r [Value.iface u<|bW a c]=_
   unfold bW;rw[D];rfl
  rw[M];have g:=C (bW a c) w;unfold callMethod;simp only[Sem.run_bind,run_program,Result.andThen_ok,g];simp
 .exact E I w v e (q,l) y i j ⟨J,e,by rw[A];rfl,n,o⟩ k
theorem bu.far{B:qM}{f:Gh}{e:Nat->Option bB}{w w':World}(h:bu B f e w)(g:Below w.heap.size w w'){I':Nat->Nat->Prop}(q:∀b o,f.I b o->I' b o)(m:∀b o,I' b o->b<w'.heap.size)
  (i:∀b o,I' b o->¬f.I b o->w.heap.size<=b):bu B ⟨I',f.loc⟩ e w'/\Ext B f e w ⟨I',f.loc⟩ e w':=by
 have hx:Ext B f e w ⟨I',f.loc⟩ e w' :=
  { below:=.of ⟨g.os,g.tape,g.output,g.size,λk r=>g.block k (A9 r h.base)⟩
    I:=q
    ox:=λb o x=>by
     by_cases hi:f.I b o
     .exact .inl hi
     .exact .inr (.inl<|fM h.base<|i b o x hi)
    cells:=λb o hi=>di (g.block b<|h.sg b o hi)
    boxes:=λb n hb=>⟨n,hb,bZ _,λ_=>⟨rfl,rfl,rfl⟩⟩ }
 refine⟨?_,hx⟩;exact
  { cT:=h.C2 hx
    base:=fM h.base g.size
    boxes:=λb n hb=>(h.boxes b n hb).keep hx rfl λc k l=>g.block c (h.fresh b c k (by rw[hb];simp) l).2
    inj:=h.inj
    fresh:=λb c k hb l=>by have:=h.fresh b c k hb l;exact⟨this.1,A9 this.2 g.size⟩
    sg:=m
    sep:=λb n c k j hb l hi=>by
     by_cases p:f.I c j
     .exact h.sep b n c k j hb l p
     .have s:=i c j hi p;have t:=(h.fresh b c k (by rw[hb];simp) l).2;omega }
theorem WX{w:World}{j c:Gh}{g e:Nat->Option bB}(k:∀b o,j.I b o->c.I b o):∀{R:Ty} {y:R.den} {vs:List Value},cf j g w (zj R y) .many vs->cf c e w (zj R y) .many vs:=by
 intro R;induction R with
 | pair t r l i =>
   intro y vs h;obtain⟨v,f,m,⟨n,p,q⟩,s⟩:=h;exact⟨v,f,m,⟨n,bD.mono k (λ_ _ _=>rfl) p,q⟩,i s⟩
 | _=>intro y vs h;exact h
theorem Df(R:Ty)(y:R.den):(∃t,∃q:R=.pair t .unit,ug R y=.data t (show(Ty.pair t .unit).den from q▸y).1)\/ug R y=.yC (zj R y):=by
 cases R with
 | pair t r =>
   cases r with
   | unit=>exact .inl ⟨t,rfl,rfl⟩
   | _=>exact .inr rfl
 | _=>exact .inr rfl
theorem kX.rep{w:World}{I:Nat->Nat->Prop}{R:Ty}{y:R.den}{v:Value}(h:kX w I R y v){j:Gh}{c:Nat->Option bB}(k:∀b o,I b o->j.I b o):cf j c w (ug R y) .val [v]:=by
 unfold kX at h;rcases Df R y with ⟨t,q,e⟩|e
 .rw[e] at h⊢;obtain⟨l,f,g⟩:=h;exact⟨l,bD.mono k (λ_ _ _=>rfl) f,g⟩
 .rw[e] at h⊢;obtain⟨i,f,g⟩:=h;exact⟨i,f,WX k g⟩
theorem I9{w j:World}{k f:Gh}{g b:Nat->Option bB}:∀{R:Ty} {y:R.den} {vs:List Value},R.flat=true->cf k g w (zj R y) .many vs->cf f b j (zj R y) .many vs:=by
 intro R;induction R with
 | pair t r l i =>
   intro y vs e h;simp only[Ty.flat,dv] at e;obtain⟨v,c,m,⟨n,o,p⟩,q⟩:=h;exact⟨v,c,m,⟨n,bD.flat e.1 o,p⟩,i e.2 q⟩
 | _=>intro y vs e h;exact h
theorem kX.flat{w j:World}{I:Nat->Nat->Prop}{R:Ty}{y:R.den}{v:Value}(h:kX w I R y v){k:Gh}{b:Nat->Option bB}(c:R.flat=true):cf k b j (ug R y) .val [v]:=by
 unfold kX at h;rcases Df R y with ⟨t,q,e⟩|e
 .rw[e] at h⊢;subst q;simp only[Ty.flat,dv] at c;obtain⟨l,f,g⟩:=h;exact⟨l,bD.flat c.1 f,g⟩
 .rw[e] at h⊢;obtain⟨i,f,g⟩:=h;exact⟨i,f,I9 c g⟩
section
variable {P:Program} {B:qM} {N:Nat} {γ:Gh} {σ bb:St} {a:Act} {w w':World} {d:Option Nat} {cx:Ctx}
theorem zr.agX{I q:Nat->Nat->Prop}{e:Ty}{l:List e.den}{v:Value}(h:zr w I e l v)(t:∀b o,I b o->q b o)(u:∀f g k,v=.slice (some ⟨f,g,none⟩) l.length k->l≠[]->∀o,q f o) :
  bD w q (.slice e) l [v]:=by
 rcases h with ⟨rfl,m,k,n,r,s⟩|⟨f,g,k,n,r,s,y⟩
 .rcases s with rfl|⟨f,g,rfl⟩
  .exact .inl ⟨⟨m,by rw[n]⟩,rfl⟩
  .exact .inr ⟨f,g,k,by rw[n];rfl,mK _,r,λi x p=>by cases p⟩
 .refine .inr ⟨f,g,k,by rw[n],r,s,λi x p=>?_⟩;obtain⟨z,A,C,D⟩:=y i x p;exact⟨z,A,λj c E=>⟨C j c E,u f g k n (λe=>by rw[e] at p;cases p) _⟩,bD.mono t (λ_ _ _=>rfl) D⟩
theorem OI(x:bu B γ σ.mem w){e:Ty}{v:aL}{l:List e.den}{g y n z:Nat}(H:cf γ σ.mem w v .val [.slice (some ⟨g,y,none⟩) n z])(K:gq e σ v=some l)(m:l≠[]) :
  (∃q,v=.data (.slice e) q)\/(B.has g/\g<w.heap.size):=by
 rcases mR K with rfl|⟨rfl,rfl⟩|⟨b,A,I,rfl,o,h,s,C⟩|⟨b,A,R,S,I,rfl,o,h,D⟩
 .exact .inl ⟨_,rfl⟩
 .exact absurd rfl m
 .obtain⟨L,k,T,M,p⟩:=bg o h H.2;rcases p with ⟨p,E⟩|⟨i,j,p,E⟩
  .exfalso;have t:=x.boxes b I o;rw[cB,s] at t;obtain⟨U,V,f,W,r⟩:=t;rw[C] at f;cases f;rcases r with ⟨_,r⟩|⟨_,_,_,_,_,r,_⟩
   .exact m r
   .rw[p] at r;cases r
  .have f:g=i:=by
    have:=ue E;injection this with f _ _
    injection f with f
    injection f
   subst f;exact .inr (x.fresh b g j (by rw[o];simp) p)
 .obtain⟨L,k,M,p,E,X,J,j,O,Y,Z,gF,u⟩:=bg o h H.2;have F:=ue O;rcases u with u|⟨i,c,u,G⟩
  .exfalso;apply m;rcases D with ⟨_,Q,_,rfl⟩|⟨_,k0,Q,_,rfl⟩<;>simp[sub,u]
  .injection F with f _ _
   rw[G] at f;injection f with f
   injection f with f _
   subst f;exact .inr (x.fresh b g c (by rw[o];simp) u)
theorem B6(L:bu B γ σ.mem w){m:Nat->Nat->Prop}(M:∀b o,γ.I b o->m b o)(A:∀b o,B.has b->b<w.heap.size->m b o):∀{v:aL} {t:Ty} {x:t.den} {cs:List Value},
  cf γ σ.mem w v .cells cs->qK σ t v=some x->bD w m t x cs:=by
 have C:∀{v:aL} {e:Ty} {l:List e.den} {cs:List Value},cV v=1->(∀c,cf γ σ.mem w v .cells [c]->cf γ σ.mem w v .val [c])->(∀t x,v≠.data t x)->cf γ σ.mem w v .cells cs->gq e σ v=some l->bD w m (.slice e) l cs:=by
  intro v e l cs D i E h f;obtain⟨c,rfl⟩:=F5 h D;have hv:=i c h;refine(ri L hv f).agX M λF O Q R G o=>?_;subst R;rcases OI L hv f G with ⟨q,j⟩|⟨H,S⟩
  .exact absurd j (E _ _)
  .exact A F o H S
 intro v;induction v with
 | data u y =>
   intro t x cs h f;have key:(∃q:u=t,x=q▸y):=by
    cases t with
    | slice e =>
      rcases mR (show gq e σ (.data u y)=some x from f) with g|⟨g,_⟩|⟨_,_,_,g,_⟩|⟨_,_,_,_,_,g,_⟩
      .injection g with T U;subst T;exact⟨rfl,(eq_of_heq U).symm⟩
      .cases g
      .cases g
      .cases g
    | _=>exact Ty.kR f
   obtain⟨q,j⟩:=key;subst q;subst j;exact bD.mono M (λ_ _ _=>rfl) h
 | mix p q J K =>
   intro t x cs h f;cases t with
   | pair s r =>
     obtain⟨V,W,rfl,D,H⟩:=h;obtain⟨y,z,X,j,rfl⟩:=Da f;exact⟨V,W,rfl,J D X,K H j⟩
   | slice e=>exact absurd f (by intro k;cases k)
   | _=>cases f
 | oq =>
   intro t x cs h f;cases t with
   | slice e=>exact C (v:=.oq) rfl (λc k=>k) (λ_ _=>by simp) h f
   | _=>cases f
 | whole b aM =>
   intro t x cs h f;cases t with
   | slice e=>exact C (v:=.whole b aM) rfl (λc k=>k) (λ_ _=>by simp) h f
   | _=>cases f
 | part b aM lo n =>
   intro t x cs h f;cases t with
   | slice e=>exact C (v:=.part b aM lo n) rfl (λc k=>k) (λ_ _=>by simp) h f
   | _=>cases f
 | sf =>
   intro t x cs h f;obtain rfl:cs=[.nilIface]:=h;exact(pB f).1 _ _
 | _ =>
   intro t x cs h f;cases t with
   | slice e=>exact absurd f (by intro k;cases k)
   | _=>cases f
theorem Ja(m:bu B γ σ.mem w){l:Nat->Nat->Prop}(z:∀b o,γ.I b o->l b o)(i:∀b o,B.has b->b<w.heap.size->l b o){v:aL}{t:Ty}{x:t.den}{f:Value}
  (h:cf γ σ.mem w v .val [f]) (c:qK σ t v=some x):∃cs,bD w l t x cs/\f=bW t cs:=by
 have one:∀{v:aL},cf γ σ.mem w v .cells [f]->(∃e,t=.slice e)->qK σ t v=some x->∃cs,bD w l t x cs/\f=bW t cs:=by
  intro v j F c;obtain⟨e,rfl⟩:=F;exact⟨[f],B6 m z i j c,rfl⟩
 cases v with
 | data u y =>
   obtain⟨cs,A,C⟩:=dS.1 h;have j:=B6 m z i (v:=.data u y) (cs:=cs) A c;refine⟨cs,j,?_⟩;rw[C];have:u.isAgg=t.isAgg:=by
    cases t with
    | slice e =>
      rcases mR (show gq e σ (.data u y)=some x from c) with g|⟨g,_⟩|⟨_,_,_,g,_⟩|⟨_,_,_,_,_,g,_⟩
      .injection g with G J;rw[G]
      .cases g
      .cases g
      .cases g
    | _=>obtain⟨q,_⟩:=Ty.kR c;rw[q]
   unfold bW;rw[this]
 | mix p q =>
   obtain⟨D,E,H,A,C⟩:=h;obtain rfl:f=_:=by simpa using H
   have j:=B6 m z i (v:=.mix p q) (cs:=D++E) ⟨D,E,rfl,A,C⟩ c;refine⟨_,j,?_⟩;cases t with
   | pair s r=>rfl
   | slice e=>exact absurd c (by intro k;cases k)
   | _=>cases c
 | oq=>cases t with
   | slice e=>exact one h ⟨e,rfl⟩ c
   | _=>cases c
 | whole b aM=>cases t with
   | slice e=>exact one h ⟨e,rfl⟩ c
   | _=>cases c
 | part b aM lo n=>cases t with
   | slice e=>exact one h ⟨e,rfl⟩ c
   | _=>cases c
 | sf =>
   have h:[f]=[Value.nilIface]:=h;obtain rfl:f=.nilIface:=by simpa using h
   exact⟨[.nilIface],(pB c).1 _ _,(pB c).2.2.1.symm⟩
 | _=>cases t with
   | slice e=>exact absurd c (by intro k;cases k)
   | _=>cases c
def lz(e:Gh)(b:Nat->Option bB)(w:World)(c:List aL)(xs:List Value):Prop:=xs.length=c.length/\∀(i:Nat) v x,c[i]?=some v->xs[i]?=some x->cf e b w v .val [x]
theorem lz.cons{b:Nat->Option bB}{v:aL}{e:List aL}{c:List Value}(h:lz γ b w (v::e) c):∃x r,c=x::r/\cf γ b w v .val [x]/\lz γ b w e r:=by
 cases c with
 | nil=>cases h.1
 | cons x r=>exact⟨x,r,rfl,h.2 0 v x rfl rfl,by simpa using h.1,λi f g j k=>h.2 (i+1) f g j k⟩
theorem lz.ext{c b:Nat->Option bB}{e:Gh}{f:List aL}{g:List Value}(h:lz γ c w f g)(j:Ext B γ c w e b w'):lz e b w' f g:=⟨h.1,λi v x k l=>(h.2 i v x k l).ext j⟩
theorem Lt(j:bu B γ σ.mem w){I':Nat->Nat->Prop}(k:∀b o,γ.I b o->I' b o)(g:∀b o,B.has b->b<w.heap.size->I' b o):∀{A:Ty} {x:A.den} {vs:List aL} {e:List Value},
  lz γ σ.mem w vs e->iI σ A vs=some x->iL w I' A x e:=by
 intro A;induction A with
 | pair t r l i =>
   intro x vs e h c;cases vs with
   | nil=>cases c
   | cons v vs =>
     obtain⟨y,f,rfl,m,n⟩:=h.cons;simp only[iI] at c;split at c
     .rename_i p q s u;obtain rfl:=aG c;obtain⟨z,C,D⟩:=Ja j k g m s;exact⟨z,f,by rw[D],C,i n u⟩
     .cases c
 | unit =>
   intro x vs e h c;cases vs with
   | nil=>exact vU.1 h.1
   | cons v vs=>cases c
 | _=>intro x vs e h c;cases vs<;>cases c
theorem iL.mono{I I':Nat->Nat->Prop}(f:∀b o,I b o->I' b o)(g:∀b o,I b o->w'.cell? ⟨b,o,none⟩=w.cell? ⟨b,o,none⟩):∀{A:Ty} {x:A.den} {c:List Value},iL w I A x c->iL w' I' A x c:=by
 intro A;induction A with
 | pair t r i e=>intro x c h;obtain⟨j,rest,k,l,m⟩:=h;exact⟨j,rest,k,bD.mono f g l,e m⟩
 | _=>intro x c h;exact h
theorem rF:∀{A:Ty} {x:A.den} {vs:List aL} {xs:List Value} {σ bb:St} {γ:Gh},cM B N γ σ a w->lz γ σ.mem w vs xs->kS σ A vs=some (x,bb) ->
  ∃bM,cM B N bM bb a w/\Ext B γ σ.mem w bM bb.mem w/\iL w bM.I A x xs:=by
 intro A;induction A with
 | pair t r l f =>
   intro x vs xs σ bb γ h e b;cases vs with
   | nil=>cases b
   | cons v vs =>
     obtain⟨y,c,rfl,m,n⟩:=e.cons;simp only[kS] at b;split at b
     .rename_i p bC o;split at b
      .rename_i q cc s;obtain⟨rfl,rfl⟩:=bk (aG b);obtain⟨u,z,k,C,D,g⟩:=mS h m o;obtain g:y=_:=by simpa using g
       obtain⟨i,E,j,F⟩:=f z (n.ext k) s;exact⟨i,E,k.trans j,C,c,by rw[g],bD.mono j.I j.cells D,F⟩
      .cases b
     .cases b
 | unit =>
   intro x vs xs σ bb γ h e b;cases vs with
   | nil=>obtain⟨rfl,rfl⟩:=bk (aG b);exact⟨γ,h,Ext.refl _ _ _ _,vU.1 e.1⟩
   | cons v vs=>cases b
 | _=>intro x vs xs σ bb γ h e b;cases vs<;>cases b
def ZJ(w:World)(I:Nat->Nat->Prop)(e:Ty)(g:Nat)(l:List e.den)(L:Option (Nat×Nat))(v:Value):Prop :=
 0<e.size/\((L=none/\l=[]/\v=.slice none 0 0)\/∃c b f tid h,L=some (c,b)/\v=.slice (some ⟨c,0,none⟩) l.length b/\w.heap[c]?=some (.cells f tid h)/\Zx e f h/\(g=0\/tid=g) /\
  l.length<=b/\b<=maxLen/\f.size=b*e.size/\(∀o,¬I c o)/\∀(i:Nat) (x:e.den),l[i]?=some x->bD w I e x ((f.toList.drop<|i*e.size).take e.size))
def zy(w:World)(I:Nat->Nat->Prop):(o:OT)->o.den->List Value->List Nat->List (Option<|Nat×Nat)->Prop
 | .zf t,x,cs,b,ls=>bD w I t x cs/\b=[]/\ls=[]
 | .buf e g,l,cs,b,ls=>∃L v,cs=[v]/\b=[]/\ls=[L]/\ZJ w I e g l L v
 | .ref tid o,u,cs,b,ls=>∃c r,cs=[.pointer<|some ⟨c,0,none⟩]/\b=c::r/\(∀h,¬I c h)/\∃f i j,w.heap[c]?=some (.cells f i j)/\mi f j/\(tid=0\/i=tid)/\zy w I o u f.toList r ls
 | .pair p q,u,cs,b,ls=>∃k m n s y z,cs=k++m/\b=n++s/\ls=y++z/\zy w I p u.1 k n y/\zy w I q u.2 m s z
 | .unit,_,cs,b,ls=>cs=[]/\b=[]/\ls=[]
 | .dM,_,cs,b,ls=>cs=[.pointer none]/\b=[]/\ls=[]
def cO(b:List Nat)(c:List (Option<|Nat×Nat)):List Nat:=b++c.filterMap λL=>L.map (·.1)
def Na(w:World)(I:Nat->Nat->Prop):List Bool->(A:Ty)->(U:OT)->A.den->List Value->List Value->Prop
 | [],A,U,_,vs,lu=>A=.unit/\U=.unit/\vs=[]/\lu=[]
 | false::ps,A,U,x,vs,lu=>match A,x with
   | .pair t A,x=>∃c b,vs=bW t c::b/\bD w I t x.1 c/\Na w I ps A U x.2 b lu
   | _,_=>False
 | true::ps,A,U,x,vs,lu=>match U with
   | .pair (.ref _ _) U=>∃v b r,vs=v::b/\lu=v::r/\Na w I ps A U x b r
   | .pair .dM U=>∃v b r,vs=v::b/\lu=v::r/\Na w I ps A U x b r
   | _=>False
structure eQ (P:Program) (G:fD) (f:Nat) (c:wO):Prop where
 body:∃fn code,P.funcs[f]?=some fn/\(fn.name == "runtime.NumGoroutine")=false/\fn.body=some code
 calls:∀(I:Nat->Nat->Prop) (w:World) (args:Array Value) (lu:List Value) (bs:List Nat) (ls:List (Option<|Nat×Nat)) (x:c.A.den) (u:c.U.den) (y:c.R.den×c.U.den),(∀b o,I b o->b<w.heap.size)->EP G w->(∀b Q,G b Q->b∉cO bs ls) ->
  Na w I c.ps c.A c.U x args.toList lu->zy w I c.U u lu bs ls->(cO bs ls).Nodup->c.spec (x,u)=some y ->
  Calls P f args w λe w'=>∃v I' ls',e=.returned v/\tX ⟨w.heap.size,(·∈cO bs ls),G⟩ w w'/\(∀b o,I b o->I' b o)/\(∀b o,I' b o->b<w'.heap.size)/\(∀b o,I' b o->¬I b o->w.heap.size<=b\/b∈cO bs ls)/\kX w' I' c.R y.1 v /\
   zy w' I' c.U y.2 lu bs ls'/\(cO bs ls').Nodup/\∀blk∈cO [] ls',blk∈cO bs ls\/w.heap.size<=blk
structure ve (og:Option Nat) (w w':World):Prop where
 os:w'.os=w.os
 tape:w'.tape=w.tape
 output:w'.output=w.output
 size:w.heap.size<=w'.heap.size
 block:∀k,k<w.heap.size->og≠some k->w'.heap[k]?=w.heap[k]?
 cell:∀k o,k<w.heap.size->w'.cell? ⟨k,o,none⟩=w.cell? ⟨k,o,none⟩
def ux(w:World)(I:Nat->Nat->Prop)(e:Ty)(l:List e.den)(L:Option (Nat×Nat))(v:Value):Prop :=
 (L=none/\l=[]/\v=.slice none 0 0)\/∃c b f tid g,L=some (c,b)/\v=.slice (some ⟨c,0,none⟩) l.length b/\w.heap[c]?=some (.cells f tid g)/\Zx e f g /\
  l.length<=b/\b<=maxLen/\f.size=b*e.size/\(∀o,¬I c o)/\∀(i:Nat) (x:e.den),l[i]?=some x->bD w I e x ((f.toList.drop<|i*e.size).take e.size)
structure kZ (w:World) (I:Nat->Nat->Prop) (X:Nat->Prop) (w':World) (I':Nat->Nat->Prop):Prop where
 below:tX ⟨w.heap.size,X,vk⟩ w w'
 held:∀b o,I b o->I' b o
 sg:∀b o,I' b o->b<w'.heap.size
 ox:∀b o,I' b o->¬I b o->w.heap.size<=b
def fK(P:Program)(f:Nat):WG->Prop
 | .chk T=>(∃fn h,P.funcs[f]?=some fn/\(fn.name == "runtime.NumGoroutine")=false/\fn.body=some h) /\
  ∀(w:World) (b:Nat) (p v:Value) (n:Nat×Nat),w.heap[b]?=some (.cells #[p,v] T n)->¬(n.1<=0/\0<n.2)->(p=.pointer none\/p=.pointer (some ⟨b,0,none⟩)) ->
   Calls P f #[.pointer<|some ⟨b,0,none⟩] w λe w'=>e=.returned (.tuple #[])/\(w'=w\/w'=w.setRow b #[.pointer<|some ⟨b,0,none⟩,v])
 | .str T E=>(∃fn h,P.funcs[f]?=some fn/\(fn.name == "runtime.NumGoroutine")=false/\fn.body=some h) /\
  ∀(w:World) (b:Nat) (p v:Value) (n:Nat×Nat) (l:ao) (r:Option Nat),w.heap[b]?=some (.cells #[p,v] T n) ->
   ((r=none/\v=.slice none 0 0/\l=[])\/∃(g cap:Nat) (cur:Array Value) (fr':Nat×Nat),r=some g/\v=.slice (some ⟨g,0,none⟩) l.length cap/\w.heap[g]?=some (.cells cur E fr')/\l.length<=cap/\cap<=maxLen/\cur.size=cap/\∀(j:Nat) (x:UInt8),l[j]?=some x->cur[j]?=some (Value.int .u8 x.toNat)) ->
   Calls P f #[.pointer<|some ⟨b,0,none⟩] w λe w'=>e=.returned (.string ⟨l.toArray⟩)/\ve r w w'
 | .clone e=>(∃fn h,P.funcs[f]?=some fn/\(fn.name == "runtime.NumGoroutine")=false/\fn.body=some h) /\
  ∀(I:Nat->Nat->Prop) (w:World) (args:Array Value) (l:List e.den),(∀b o,I b o->b<w.heap.size)->iL w I (.pair (.slice e) .unit) (l,()) args.toList->fits (len l)=true ->
   Calls P f args w λq w'=>∃v m L,q=.returned v/\kZ w I (λ_=>False) w' m/\ux w' m e l L v/\∀i c,L=some (i,c)->w.heap.size<=i
 | .own e A res spec=>(∃fn h,P.funcs[f]?=some fn/\(fn.name == "runtime.NumGoroutine")=false/\fn.body=some h) /\
  ∀(I:Nat->Nat->Prop) (w:World) (args:Array Value) (v:Value) (rest:List Value) (l l':List e.den) (L:Option (Nat×Nat)) (x:A.den),(∀b o,I b o->b<w.heap.size)->args.toList=v::rest->ux w I e l L v->iL w I A x rest->spec l x=some l' ->
   Calls P f args w λq w'=>∃m,kZ w I (λk=>∃c,L=some (k,c)) w' m /\
    match res with
    | true=>∃s t,q=.returned s/\ux w' m e l' t s/\∀i c,t=some (i,c)->(∃c,L=some (i,c))\/w.heap.size<=i
    | false=>q=.returned (.tuple #[])/\l'.length=l.length/\ux w' m e l' L v
 | .CO g=>(∃fn h,P.funcs[f]?=some fn/\(fn.name == "runtime.NumGoroutine")=false/\fn.body=some h) /\
  ∃T,∀(w:World) (v:Value),Calls P f #[v] w λq w'=>q=.returned (.func (.func g) #[] #[.pointer<|some ⟨w.heap.size,0,none⟩])/\w'=w.alloc (.cells v.cells T)
structure pC (P:Program) (G:fD) (cx:Ctx):Prop where
 YH:∀f c,find cx.YH f=some c->Holds P G f c
 Om:∀f c,find cx.Om f=some c->eQ P G (f / 2) c
 Ll:∀f s,find cx.Ll f=some s->fK P f s
 inv:∀name c,QB cx.inv name=some c->kY P G name c
theorem Dg{l:List Nat}{t:Nat}:cI l t=true↔t∈l:=by
 induction l with
 | nil=>simp[cI]
 | cons i r b =>
   simp only[cI,wJ,gd,b];constructor
   .rintro(h|h)
    .exact .inl (eX h)
    .exact .inr h
   .rintro(h|h)
    .subst h;exact .inl (by simp)
    .exact .inr h
theorem E0{l:List Nat}:IC l=true↔l.Nodup:=by
 induction l with
 | nil=>simp[IC]
 | cons b r c =>
   simp only[IC,dv,j7,CJ,c];constructor
   .rintro⟨h,k⟩;exact⟨λq=>(by rw[Dg.2 q] at h;cases h),k⟩
   .rintro⟨h,k⟩;refine⟨?_,k⟩;cases e:cI r b with
    | false=>rfl
    | true=>exact absurd (Dg.1 e) h
theorem zy.len{w:World}{I:Nat->Nat->Prop}:∀{o:OT} {u:o.den} {cs:List Value} {b:List Nat} {ls:List (Option<|Nat×Nat)},zy w I o u cs b ls->b.length=o.nr/\ls.length=o.nb:=by
 intro o;induction o with
 | zf t=>intro u cs b ls h;rw[h.2.1,h.2.2];exact⟨rfl,rfl⟩
 | buf e i=>intro u cs b ls h;obtain⟨L,v,_,rfl,rfl,_⟩:=h;exact⟨rfl,rfl⟩
 | ref tid o j =>
   intro u cs b ls h;obtain⟨k,r,_,rfl,_,l,n,s,_,_,_,c⟩:=h;have:=j c;exact⟨by simp[OT.nr,this.1],this.2⟩
 | pair p q f g =>
   intro u cs b ls h;obtain⟨x,y,z,A,C,D,_,rfl,rfl,c,m⟩:=h;have:=f c;have:=g m;simp_all[OT.nr,OT.nb]
 | unit=>intro u cs b ls h;rw[h.2.1,h.2.2];exact⟨rfl,rfl⟩
 | dM=>intro u cs b ls h;rw[h.2.1,h.2.2];exact⟨rfl,rfl⟩
def F9(c:Nat->Option bB):(o:OT)->o.den->List (Nat×Nat)->List (Nat×Nat)->Prop
 | .zf _,_,_,_=>True
 | .buf e f,l,_,M=>∃b v r,M=(b,v)::r/\c b=some { val:=.data (.slice e) l,tid:=f,buf:=true,ro:=false,lk:=false,aM:=v }
 | .ref tid o,u,N,M=>∃b v r,N=(b,v)::r/\c b=some { val:=CR o u r M,tid,buf:=false,ro:=false,lk:=false,aM:=v }/\F9 c o u r M
 | .pair p q,u,N,M=>F9 c p u.1 (N.take p.nr) (M.take p.nb)/\F9 c q u.2 (N.drop p.nr) (M.drop p.nb)
 | .unit,_,_,_=>True
 | .dM,_,_,_=>True
theorem pg:∀{o:OT} {u:o.den} {N M:List (Nat×Nat)} {c:Nat} {b:bB},iV o u N M c=some b->c∈bo N M:=by
 intro o;induction o with
 | zf t=>intro u N M c b h;cases h
 | buf e l =>
   intro u N M c b h;cases M with
   | nil=>cases h
   | cons p r =>
     unfold iV at h;cases g:Nat.beq c p.1 with
     | true=>rw[eX g];simp[bo]
     | false=>dsimp only at h;rw[g] at h;cases h
 | ref tid o s =>
   intro u N M c b h;cases N with
   | nil=>cases h
   | cons p r =>
     unfold iV at h;cases g:Nat.beq c p.1 with
     | true=>rw[eX g];simp[bo]
     | false =>
       dsimp only at h;rw[g] at h;have:=s h;unfold bo at this⊢;simp only[tq,y8,gd];exact .inr this
 | pair p q i j =>
   intro u N M c b h;unfold iV at h;have k:∀{n m:Nat},(c∈bo (N.take n) (M.take m)->c∈bo N M)/\(c∈bo (N.drop n) (M.drop m)->c∈bo N M):=by
    intro n m;unfold bo;simp only[ra,se];constructor
    .rintro(⟨a,f,rfl⟩|⟨a,f,rfl⟩)
     .exact .inl ⟨a,EE f,rfl⟩
     .exact .inr ⟨a,EE f,rfl⟩
    .rintro(⟨a,f,rfl⟩|⟨a,f,rfl⟩)
     .exact .inl ⟨a,Io f,rfl⟩
     .exact .inr ⟨a,Io f,rfl⟩
   split at h
   .rename_i x v;exact k.1 (i v)
   .exact k.2 (j h)
 | unit=>intro u N M c b h;cases h
 | dM=>intro u N M c b h;cases h
theorem WY{c:Nat->Option bB}{t:Ty}{v:aL}{x:t.den}{b:Value}(f:cf γ c w v .val [b])(h:toD t v=some x):∃g,bD w γ.I t x g/\b=bW t g:=by
 unfold toD at h;split at h
 .rename_i u y;obtain⟨q,i⟩:=Ty.kR h;subst q;subst i;exact dS.1 f
 .split at h
  .rename_i e;obtain rfl:=aG h;obtain rfl:b=_:=by simpa [cf] using f
   exact⟨[.slice none 0 0],.inl ⟨⟨none,rfl⟩,rfl⟩,rfl⟩
  .cases h
 .cases h
theorem QU{t:Ty}{v:aL}{x:t.den}(h:toS t v=some x):v=.data t x:=by
 unfold toS at h;split at h
 .obtain⟨q,b⟩:=Ty.kR h;subst q;subst b;rfl
 .cases h
theorem QV{k:Nat->Option bB}:∀{o:OT} {u:o.den} {N M:List (Nat×Nat)},N.length=o.nr->M.length=o.nb->(bo N M).Nodup->(∀c f,iV o u N M c=some f->k c=some f)->F9 k o u N M:=by
 intro o;induction o with
 | zf t=>intro u N M _ _ _ _;trivial
 | buf e H =>
   intro u N M _ l _ h;cases M with
   | nil=>cases l
   | cons p r=>exact⟨p.1,p.2,r,rfl,h p.1 _ (by unfold iV;dsimp only;rw[CM];rfl)⟩
 | ref tid o I =>
   intro u N M n l i h;cases N with
   | nil=>cases n
   | cons p r =>
     refine⟨p.1,p.2,r,rfl,h p.1 _ (by unfold iV;dsimp only;rw[CM];rfl),I (by simpa [OT.nr] using n) l ?_ λc f j=>?_⟩
     .unfold bo at i⊢;simp only[tq,y8,CJ] at i;exact i.2
     .refine h c f ?_;have s:Nat.beq c p.1=false:=by
       cases v:Nat.beq c p.1 with
       | false=>rfl
       | true =>
         have y:=pg j;rw[eX v] at y;unfold bo at i y;simp only[tq,y8,CJ] at i;exact absurd y i.1
      unfold iV;dsimp only;rw[s];exact j
 | pair p q z A =>
   intro u N M n l i h;have J:N.take p.nr++N.drop p.nr=N:=vV ..;have K:M.take p.nb++M.drop p.nb=M:=vV ..;simp only[OT.nr,OT.nb] at n l;have g:((N.take p.nr).map (·.1)++(N.drop p.nr).map (·.1)++((M.take p.nb).map (·.1)++(M.drop p.nb).map (·.1))).Nodup:=by
    rw[<-xE,<-xE,J,K];exact i
   have d1:(bo (N.take p.nr)<|M.take p.nb).Nodup:=by
    unfold bo;refine g.sublist ?_;exact List.Sublist.append (ac7 _ _) (ac7 _ _)
   have d2:(bo (N.drop p.nr)<|M.drop p.nb).Nodup:=by
    unfold bo;refine g.sublist ?_;exact List.Sublist.append (ac4 _ _) (ac4 _ _)
   have m:∀c,c∈bo (N.take p.nr) (M.take p.nb)->c∉bo (N.drop p.nr) (M.drop p.nb):=by
    intro c C D;unfold bo at C D;rw[Lk] at g;obtain⟨E,F,G⟩:=g;rw[Lk] at E F;rcases ra.1 C with a|a<;>rcases ra.1 D with b|b
    .exact E.2.2 c a c b rfl
    .exact G c (mI _ a) c (nC _ b) rfl
    .exact G c (nC _ b) c (mI _ a) rfl
    .exact F.2.2 c a c b rfl
   refine⟨z (by rw[fT];omega) (by rw[fT];omega) d1 λc f j=>h c f ?_,A (by rw[j8];omega) (by rw[j8];omega) d2 λc f j=>h c f ?_⟩
   .show(match iV p u.1 (N.take p.nr) (M.take p.nb) c with|some x=>some x|none=>_)=some f
    rw[j]
   .show(match iV p u.1 (N.take p.nr) (M.take p.nb) c with|some x=>some x|none=>iV q u.2 (N.drop p.nr) (M.drop p.nb) c)=some f
    cases v:iV p u.1 (N.take p.nr) (M.take p.nb) c with
    | none=>exact j
    | some x=>exact absurd (pg j) (m c<|pg v)
 | unit=>intro u N M _ _ _ _;trivial
 | dM=>intro u N M _ _ _ _;trivial
def iX(γ:Gh)(N:List (Nat×Nat))(b:List Nat):Prop:=N.map (λp=>(γ.loc p.1).map (·.1))=b.map some
def p8(γ:Gh)(M:List (Nat×Nat))(b:List (Option<|Nat×Nat)):Prop:=M.map (λp=>γ.loc p.1)=b
theorem iX.split{N:List (Nat×Nat)}{b c:List Nat}{n:Nat}(h:iX γ N (b++c))(e:b.length=n):iX γ (N.take n) b/\iX γ (N.drop n) c:=by
 unfold iX at h⊢;rw[Zf,Zg,h,xE,CK (by simp[e]),CI (by simp[e])];exact⟨rfl,rfl⟩
theorem p8.split{M:List (Nat×Nat)}{b c:List (Option<|Nat×Nat)}{n:Nat}(h:p8 γ M (b++c))(e:b.length=n):p8 γ (M.take n) b/\p8 γ (M.drop n) c:=by
 unfold p8 at h⊢;rw[Zf,Zg,h,CK e,CI e];exact⟨rfl,rfl⟩
theorem ZJ.rep{j:Nat->Option bB}{e:Ty}{n:Nat}{l:List e.den}{L:Option (Nat×Nat)}{v:Value}{b k:Nat}{bx:bB}(h:ZJ w γ.I e n l L v)
  (f:γ.loc b=L) (s:j b=some bx) (g:bx.aM=k) (c:bx.buf=true) (i:bx.val=.data (.slice e) l):cf γ j w (.whole b k) .cells [v]:=by
 rcases h.2 with ⟨o,p,q⟩|⟨m,r,t,tid,u,o,p,q,x,y,z,A,C,D⟩
 .exact⟨⟨v,rfl,by rw[q];rfl⟩,en s g ⟨e,l.length,c,bB.dk c i,.inl ⟨by rw[<-o];exact f,by rw[q]⟩⟩⟩
 .exact⟨⟨v,rfl,by rw[p];rfl⟩,en s g ⟨e,l.length,c,bB.dk c i,.inr ⟨m,r,by rw[<-o];exact f,by rw[p]⟩⟩⟩
theorem VH{k:Nat->Option bB}:∀{o:OT} {u:o.den} {cs:List Value} {c:List Nat} {ls:List (Option<|Nat×Nat)} {N M:List (Nat×Nat)},zy w γ.I o u cs c ls->iX γ N c->p8 γ M ls->F9 k o u N M ->
  cf γ k w (CR o u N M) .cells cs:=by
 intro o;induction o with
 | zf t=>intro u cs c ls N M h _ _ _;exact h.1
 | buf e x =>
   intro u cs c ls N M h f g i;obtain⟨L,v,rfl,rfl,rfl,j⟩:=h;obtain⟨b,y,r,rfl,l⟩:=i;unfold p8 at g;simp only[tq,MV] at g;exact j.rep g.1 l rfl rfl rfl
 | ref tid o K =>
   intro u cs c ls N M h f g i;obtain⟨m,r,rfl,rfl,_,z,O,Q,_,_,_,j⟩:=h;obtain⟨b,y,R,rfl,l,_⟩:=i;unfold iX at f;simp only[tq,MV] at f;obtain⟨q,A,C⟩:=r9.1 f.1;refine⟨⟨_,rfl,rfl⟩,en l rfl ⟨m,q.2,?_,rfl⟩⟩;rw[A,<-C]
 | pair p q n s =>
   intro u cs c ls N M h f g i;obtain⟨D,E,S,T,U,V,rfl,rfl,rfl,j,F⟩:=h;obtain⟨G,H⟩:=f.split j.len.1;obtain⟨m1,J⟩:=g.split j.len.2;exact⟨D,E,rfl,n j G m1 i.1,s F H J i.2⟩
 | unit=>intro u cs c ls N M h _ _ _;rw[h.1];exact rfl
 | dM=>intro u cs c ls N M h _ _ _;rw[h.1];exact rfl
theorem Nb{F:Nat->Option bB}:∀{o:OT} {u:o.den} {cs:List Value} {m:List Nat} {ls:List (Option<|Nat×Nat)} {N M:List (Nat×Nat)},zy w γ.I o u cs m ls->iX γ N m->p8 γ M ls->F9 F o u N M ->
  ∀{c:Nat} {n:bB},iV o u N M c=some n->cB γ F w c n/\n.ro=false/\∀blk k,γ.loc c=some (blk,k)->blk∈cO m ls/\(∃x,w.heap[blk]?=some x)/\∀o,¬γ.I blk o:=by
 intro o;induction o with
 | zf t=>intro u cs m ls N M _ _ _ _ c n h;cases h
 | buf e WE =>
   intro u cs m ls N M h y j E c n f;obtain⟨L,v,rfl,rfl,rfl,l⟩:=h;obtain⟨b,vr,r,rfl,hb⟩:=E;unfold p8 at j;simp only[tq,MV] at j;unfold iV at f;dsimp only at f;cases G:Nat.beq c b with
   | false=>rw[G] at f;cases f
   | true =>
     rw[G] at f;obtain rfl:=eX G;obtain rfl:=aG f;refine⟨?_,rfl,λblk k i=>?_⟩
     .unfold cB;refine⟨e,u,rfl,l.1,?_⟩;rcases l.2 with ⟨z,U,H⟩|⟨g,J,s,tid,V,z,U,H,Y,Z,q6,q7,q8,q9,K⟩
      .exact .inl ⟨by rw[j.1];exact z,U⟩
      .exact .inr ⟨g,J,s,tid,V,by rw[j.1];exact z,H,Y,Z,q6,q7,q8,K⟩
     .rcases l.2 with ⟨z,U,H⟩|⟨g,J,s,tid,V,z,U,H,Y,Z,q6,q7,q8,q9,K⟩
      .rw[j.1,z] at i;cases i
      .rw[j.1,z] at i;obtain⟨rfl,rfl⟩:=bk (aG i);exact⟨by simp[cO,z],⟨_,H⟩,q9⟩
 | ref tid o ih =>
   intro u cs m ls N M h y j E c n f;obtain⟨blk,r,rfl,rfl,A,s,t',V,k1,k2,k3,l⟩:=h;obtain⟨b,vr,r',rfl,hb,O⟩:=E;unfold iX at y;simp only[tq,MV] at y;obtain⟨q,G,he⟩:=r9.1 y.1;have Q:γ.loc b=some (blk,q.2):=by rw[G,<-he]
   unfold iV at f;dsimp only at f;cases C:Nat.beq c b with
   | false =>
     rw[C] at f;obtain⟨R,S,D⟩:=ih l y.2 j O f;refine⟨R,S,λg k i=>?_⟩;obtain⟨j1,j2⟩:=D g k i;refine⟨?_,j2⟩;unfold cO at j1⊢;exact oh _ j1
   | true =>
     rw[C] at f;obtain rfl:=eX C;obtain rfl:=aG f;refine⟨?_,rfl,λg k i=>?_⟩
     .unfold cB;exact⟨blk,q.2,s,t',V,Q,k1,k2,k3,VH l y.2 j O⟩
     .rw[Q] at i;obtain⟨rfl,rfl⟩:=bk (aG i);exact⟨by simp[cO],⟨_,k1⟩,A⟩
 | pair p q W X =>
   intro u cs m ls N M h y j E c n f;obtain⟨c1,c2,b1,b2,l1,l2,rfl,rfl,rfl,l,h2⟩:=h;obtain⟨n1,n2⟩:=y.split l.len.1;obtain⟨m1,m2⟩:=j.split l.len.2;have T:∀{blk},(blk∈cO b1 l1\/blk∈cO b2 l2)->blk∈cO (b1++b2) (l1++l2):=by
    intro blk;unfold cO;simp only[adf,ra];rintro((a|a)|(a|a))
    .exact .inl (.inl a)
    .exact .inr (.inl a)
    .exact .inl (.inr a)
    .exact .inr (.inr a)
   unfold iV at f;split at f
   .rename_i x hx;obtain rfl:=aG f;obtain⟨R,S,D⟩:=W l n1 m1 E.1 hx;exact⟨R,S,λblk k i=>⟨T<|.inl (D blk k i).1,(D blk k i).2⟩⟩
   .obtain⟨R,S,D⟩:=X h2 n2 m2 E.2 f;exact⟨R,S,λblk k i=>⟨T<|.inr (D blk k i).1,(D blk k i).2⟩⟩
 | unit=>intro u cs m ls N M _ _ _ _ c n h;cases h
 | dM=>intro u cs m ls N M _ _ _ _ c n h;cases h
def Handed(c:Nat->Option bB)(p:Nat×Nat):Prop:=∃b,c p.1=some b/\b.aM=p.2/\b.lk=false/\b.ro=false
theorem OJ{e:Nat->Option bB}(h:bu B γ e w){b c k:Nat}{f:bB}(i:e b=some f)(g:f.ro=false)(j:γ.loc b=some (c,k))(o:Nat):¬γ.I c o:=λl=>by
 have:=(h.sep b f c k o i j l).1;rw[g] at this;cases this
theorem Nc{G:Nat->Option bB}(X:bu B γ G w):∀{o:OT} {v:aL} {cs:List Value} {u:o.den} {N M:List (Nat×Nat)},cf γ G w v .cells cs->db G o v=some (u,N,M) ->
  ∃U,iX γ N U/\zy w γ.I o u cs U (M.map λp=>γ.loc p.1)/\∀p∈N++M,Handed G p:=by
 intro o;induction o with
 | zf t =>
   intro v cs u N M A h;unfold db at h;split at h
   .rename_i x hx;obtain⟨rfl,q⟩:=bk (aG h);obtain⟨rfl,rfl⟩:=bk q;rw[QU hx] at A;exact⟨[],rfl,⟨A,rfl,rfl⟩,λp C=>by cases C⟩
   .cases h
 | buf e WE =>
   intro v cs u N M A h;unfold db at h;split at h
   case h_2=>cases h
   rename_i b H;split at h
   case h_2=>cases h
   rename_i i J;cases g:(Nat.beq i.aM H&&i.buf&&!i.lk&&!i.ro&&Nat.beq i.tid WE&&Nat.blt 0 e.size) with
   | false=>rw[g] at h;cases h
   | true =>
     rw[g] at h;simp only[dv,j7] at g;obtain⟨⟨⟨⟨⟨c,s⟩,Q⟩,E⟩,f⟩,R⟩:=g;have c:=eX c;have f:=eX f;have R:0<e.size:=by simpa using R
     simp only[ev] at h;split at h
     case h_2=>cases h
     rename_i t l0 O;split at h
     case h_2=>cases h
     rename_i l hl;obtain⟨rfl,q⟩:=bk (aG h);obtain⟨rfl,rfl⟩:=bk q;obtain⟨rfl,rfl⟩:=j9 hl;obtain⟨v,rfl⟩:∃v,cs=[v]:=by obtain⟨⟨v,e,_⟩,_⟩:=A;exact⟨v,e⟩
     obtain⟨e',n,k1,Y,F⟩:=bg J c A.2;rw[bB.dk s O] at Y;obtain⟨rfl,rfl⟩:=bk (aG Y);have j:=X.boxes b i J;unfold cB at j;rw[s] at j;obtain⟨t2,l2,K,a2,m⟩:=j;rw[O] at K;injection K with K a4
     injection K with K
     subst K;obtain rfl:=eq_of_heq a4;refine⟨[],rfl,⟨γ.loc b,v,rfl,rfl,rfl,R,?_⟩,λp C=>?_⟩
     .rcases F with ⟨F,k4⟩|⟨blk,S,F,k4⟩
      .rcases m with ⟨m,T⟩|⟨blk,S,L,tid,Z,m,_⟩
       .exact .inl ⟨m,T,ue k4⟩
       .rw[F] at m;cases m
      .rcases m with ⟨m,T⟩|⟨V,abG,L,tid,Z,m,T,a6,a7,a8,a9,a10,a11⟩
       .rw[F] at m;cases m
       .rw[F] at m;obtain⟨rfl,rfl⟩:=bk (aG m);exact .inr ⟨blk,S,L,tid,Z,F,ue k4,T,a6,by rw[<-f];exact a7,a8,a9,a10,λo=>OJ X J E F o,a11⟩
     .simp only[sd,EF] at C;subst C;exact⟨i,J,c,Q,E⟩
 | ref tid o ih =>
   intro v cs u N M A h;unfold db at h;split at h
   case h_2=>cases h
   rename_i b H;split at h
   case h_2=>cases h
   rename_i i J;cases g:(Nat.beq i.aM H&&!i.buf&&!i.lk&&!i.ro&&Nat.beq i.tid tid) with
   | false=>rw[g] at h;cases h
   | true =>
     rw[g] at h;simp only[dv,j7] at g;obtain⟨⟨⟨⟨c,s⟩,Q⟩,E⟩,f⟩:=g;have c:=eX c;have f:=eX f;simp only[ev] at h;split at h
     case h_2=>cases h
     rename_i u1 N1 M1 D;obtain⟨rfl,q⟩:=bk (aG h);obtain⟨rfl,rfl⟩:=bk q;obtain⟨blk,k,j1,j2⟩:=bg J c A.2;simp only[cC] at j2;have j:=X.boxes b i J;unfold cB at j;rw[s] at j;obtain⟨V,S,L,t',Z,K,a2,m,a4,T⟩:=j;rw[j1] at K;obtain⟨rfl,rfl⟩:=bk (aG K);obtain⟨U,W,g2,g3⟩:=ih T D;refine⟨blk::U,?_,⟨blk,U,j2,rfl,λo=>OJ X J E j1 o,L,t',Z,a2,m,by rw[<-f];exact a4,g2⟩,λp C=>?_⟩
     .unfold iX at W⊢;simp only[tq,W,j1];rfl
     .rcases gd.1 (by simpa using C:p∈(b,H)::(N1++M1)) with rfl|C
      .exact⟨i,J,c,Q,E⟩
      .exact g3 p C
 | pair p q ihp ihq =>
   intro v cs u N M A h;unfold db at h;split at h
   case h_2=>cases h
   rename_i a b;split at h
   case h_2=>cases h
   rename_i x N1 M1 y N2 M2 h1 h2;obtain⟨rfl,z⟩:=bk (aG h);obtain⟨rfl,rfl⟩:=bk z;obtain⟨c1,c2,rfl,v1,v2⟩:=A;obtain⟨b1,W,g2,g3⟩:=ihp v1 h1;obtain⟨b2,k1,Y,F⟩:=ihq v2 h2;refine⟨b1++b2,?_,⟨c1,c2,b1,b2,M1.map λp=>γ.loc p.1,M2.map λp=>γ.loc p.1,rfl,rfl,by rw[xE],g2,Y⟩,λr D=>?_⟩
   .unfold iX at W k1⊢;rw[xE,xE,W,k1]
   .simp only[ra] at D;rcases D with (D|D)|(D|D)
    .exact g3 r (mI _ D)
    .exact F r (mI _ D)
    .exact g3 r (nC _ D)
    .exact F r (nC _ D)
 | unit =>
   intro v cs u N M A h;unfold db at h;split at h
   case h_2=>cases h
   obtain⟨rfl,z⟩:=bk (aG h);obtain⟨rfl,rfl⟩:=bk z;exact⟨[],rfl,⟨A,rfl,rfl⟩,λp C=>by cases C⟩
 | dM =>
   intro v cs u N M A h;unfold db at h;split at h
   case h_2=>cases h
   obtain⟨rfl,z⟩:=bk (aG h);obtain⟨rfl,rfl⟩:=bk z;exact⟨[],rfl,⟨A,rfl,rfl⟩,λp C=>by cases C⟩
theorem E1{g:Nat->Option bB}:∀{o:OT} {v:aL} {u:o.den} {N M:List (Nat×Nat)},db g o v=some (u,N,M)->N.length=o.nr/\M.length=o.nb:=by
 intro o;induction o with
 | zf t =>
   intro v u N M h;unfold db at h;split at h
   .obtain⟨_,q⟩:=bk (aG h);obtain⟨rfl,rfl⟩:=bk q;exact⟨rfl,rfl⟩
   .cases h
 | buf e i =>
   intro v u N M h;unfold db at h;split at h
   case h_2=>cases h
   split at h
   case h_2=>cases h
   rename_i c l;cases f:(Nat.beq c.aM _&&c.buf&&!c.lk&&!c.ro&&Nat.beq c.tid i&&Nat.blt 0 e.size) with
   | false=>rw[f] at h;cases h
   | true =>
     rw[f] at h;simp only[ev] at h;split at h
     case h_2=>cases h
     split at h
     case h_2=>cases h
     obtain⟨_,q⟩:=bk (aG h);obtain⟨rfl,rfl⟩:=bk q;exact⟨rfl,rfl⟩
 | ref tid o m =>
   intro v u N M h;unfold db at h;split at h
   case h_2=>cases h
   split at h
   case h_2=>cases h
   rename_i c l;cases f:(Nat.beq c.aM _&&!c.buf&&!c.lk&&!c.ro&&Nat.beq c.tid tid) with
   | false=>rw[f] at h;cases h
   | true =>
     rw[f] at h;simp only[ev] at h;split at h
     case h_2=>cases h
     rename_i D n r s;obtain⟨_,q⟩:=bk (aG h);obtain⟨rfl,rfl⟩:=bk q;have:=m s;exact⟨by simp[OT.nr,this.1],this.2⟩
 | pair p q j k =>
   intro v u N M h;unfold db at h;split at h
   case h_2=>cases h
   split at h
   case h_2=>cases h
   rename_i x n r y E F A C;obtain⟨_,z⟩:=bk (aG h);obtain⟨rfl,rfl⟩:=bk z;have a:=j A;have b:=k C;simp[OT.nr,OT.nb,a.1,a.2,b.1,b.2]
 | unit =>
   intro v u N M h;unfold db at h;split at h
   case h_2=>cases h
   obtain⟨_,z⟩:=bk (aG h);obtain⟨rfl,rfl⟩:=bk z;exact⟨rfl,rfl⟩
 | dM =>
   intro v u N M h;unfold db at h;split at h
   case h_2=>cases h
   obtain⟨_,z⟩:=bk (aG h);obtain⟨rfl,rfl⟩:=bk z;exact⟨rfl,rfl⟩
def aL.adR:aL->Option (Ty×Nat)
 | .data (.arr n e) _=>some (e,n)
 | _=>none
theorem ZK{b:bB}(h:b.buf=false):b.row=b.val.adR:=by
 unfold bB.row;rw[h];cases hv:b.val with
 | data t x=>cases t<;>rfl
 | _=>rfl
theorem TC{b:Nat->Option bB}{o:OT}{v:aL}{u y:o.den}{N M c f:List (Nat×Nat)}(h:db b o v=some (u,N,M)):(CR o y c f).adR=v.adR:=by
 unfold db at h;cases o with
 | zf t =>
   dsimp only at h;split at h
   .rename_i x g;rw[QU g];cases t<;>rfl
   .cases h
 | buf e i =>
   dsimp only at h;split at h
   case h_2=>cases h
   cases f<;>rfl
 | ref tid o =>
   dsimp only at h;split at h
   case h_2=>cases h
   cases c<;>rfl
 | pair p q =>
   dsimp only at h;split at h
   case h_2=>cases h
   rfl
 | unit =>
   dsimp only at h;split at h
   case h_2=>cases h
   rfl
 | dM =>
   dsimp only at h;split at h
   case h_2=>cases h
   rfl
theorem Nf{r:Nat->Option bB}:∀{o:OT} {v:aL} {u y:o.den} {N M:List (Nat×Nat)} {c:Nat} {l:bB},db r o v=some (u,N,M)->iV o y N (M.map λp=>(p.1,p.2+1)) c=some l ->
  (∃cx,(c,cx.aM)∈N/\r c=some cx/\l.aM=cx.aM/\l.buf=cx.buf/\l.row=cx.row)\/∃cx,(c,cx.aM)∈M/\r c=some cx/\l.aM=cx.aM+1:=by
 intro o;induction o with
 | zf t=>intro v u y N M c l _ h;cases h
 | buf e C =>
   intro v u y N M c l h i;unfold db at h;split at h
   case h_2=>cases h
   rename_i b s;split at h
   case h_2=>cases h
   rename_i k D;cases f:(Nat.beq k.aM s&&k.buf&&!k.lk&&!k.ro&&Nat.beq k.tid C&&Nat.blt 0 e.size) with
   | false=>rw[f] at h;cases h
   | true =>
     rw[f] at h;simp only[dv] at f;have j:=eX f.1.1.1.1.1;simp only[ev] at h;split at h
     case h_2=>cases h
     split at h
     case h_2=>cases h
     obtain⟨_,q⟩:=bk (aG h);obtain⟨rfl,rfl⟩:=bk q;unfold iV at i;simp only[tq,List.map_nil] at i;cases A:Nat.beq c b with
     | false=>rw[A] at i;cases i
     | true =>
       rw[A] at i;obtain rfl:=eX A;obtain rfl:=aG i;exact .inr ⟨k,by rw[j];simp,D,by rw[j]⟩
 | ref tid o I =>
   intro v u y N M c l h i;unfold db at h;split at h
   case h_2=>cases h
   rename_i b s;split at h
   case h_2=>cases h
   rename_i k D;cases f:(Nat.beq k.aM s&&!k.buf&&!k.lk&&!k.ro&&Nat.beq k.tid tid) with
   | false=>rw[f] at h;cases h
   | true =>
     rw[f] at h;simp only[dv,j7] at f;have j:=eX f.1.1.1.1;simp only[ev] at h;split at h
     case h_2=>cases h
     rename_i Q J K G;obtain⟨_,q⟩:=bk (aG h);obtain⟨rfl,rfl⟩:=bk q;unfold iV at i;dsimp only at i;cases A:Nat.beq c b with
     | false =>
       rw[A] at i;rcases I G i with ⟨cx,m,n⟩|g
       .exact .inl ⟨cx,oh _ m,n⟩
       .exact .inr g
     | true =>
       rw[A] at i;obtain rfl:=eX A;obtain rfl:=aG i;refine .inl ⟨k,by rw[j];simp,D,j.symm,f.1.1.1.2.symm,?_⟩;rw[ZK f.1.1.1.2,ZK rfl];exact TC G
 | pair p q E F =>
   intro v u y N M c l h i;unfold db at h;split at h
   case h_2=>cases h
   split at h
   case h_2=>cases h
   rename_i x J K R S T H L;obtain⟨_,z⟩:=bk (aG h);obtain⟨rfl,rfl⟩:=bk z;have a:=E1 H;unfold iV at i;rw[xE,CK a.1,CI a.1,CK (by simp[a.2]),CI (by simp[a.2])] at i;split at i
   .rename_i x O;obtain rfl:=aG i;rcases E H O with ⟨cx,m,n⟩|⟨cx,m,n⟩
    .exact .inl ⟨cx,mI _ m,n⟩
    .exact .inr ⟨cx,mI _ m,n⟩
   .rcases F L i with ⟨cx,m,n⟩|⟨cx,m,n⟩
    .exact .inl ⟨cx,nC _ m,n⟩
    .exact .inr ⟨cx,nC _ m,n⟩
 | unit=>intro v u y N M c l _ h;cases h
 | dM=>intro v u y N M c l _ h;cases h
theorem E2:∀{o:OT} {u:o.den} {N M:List (Nat×Nat)} {c:Nat},N.length=o.nr->M.length=o.nb->c∈bo N M->∃m,iV o u N M c=some m:=by
 intro o;induction o with
 | zf t =>
   intro u N M c f g b;rw[vU.1 f,vU.1 g] at b;cases b
 | buf e s =>
   intro u N M c f g b;rw[vU.1 f] at b
   match M,g,b with
   | [p],_,b =>
     have:c=p.1:=by simpa [bo] using b
     subst this;exact⟨_,by unfold iV;dsimp only;rw[CM];rfl⟩
 | ref tid o v =>
   intro u N M c f g b;cases N with
   | nil=>cases f
   | cons p r =>
     unfold iV;dsimp only;cases i:Nat.beq c p.1 with
     | true=>exact⟨_,rfl⟩
     | false =>
       refine v (by simpa [OT.nr] using f) g ?_;unfold bo at b⊢;simp only[tq,y8,gd] at b;rcases b with rfl|b
       .rw[CM] at i;cases i
       .exact b
 | pair p q j k =>
   intro u N M c f g b;simp only[OT.nr,OT.nb] at f g;have y:N.take p.nr++N.drop p.nr=N:=vV ..;have z:M.take p.nb++M.drop p.nb=M:=vV ..;unfold iV;cases i:iV p u.1 (N.take p.nr) (M.take p.nb) c with
   | some x=>exact⟨x,rfl⟩
   | none =>
     refine k (by rw[j8];omega) (by rw[j8];omega) ?_;have h:c∉bo (N.take p.nr) (M.take p.nb):=λl=>by
      obtain⟨m,n⟩:=j (u:=u.1) (by rw[fT];omega) (by rw[fT];omega) l;rw[i] at n;cases n
     unfold bo at b h⊢;rw[<-y,<-z,xE,xE] at b;simp only[ra] at b h⊢;rcases b with (b|b)|(b|b)
     .exact absurd (.inl b) h
     .exact .inl b
     .exact absurd (.inr b) h
     .exact .inr b
 | unit =>
   intro u N M c f g b;rw[vU.1 f,vU.1 g] at b;cases b
 | dM =>
   intro u N M c f g b;rw[vU.1 f,vU.1 g] at b;cases b
def ir:List (Nat×Nat)->List (Option<|Nat×Nat)->(Nat->Option (Nat×Nat))->Nat->Option (Nat×Nat)
 | (b,_)::M,L::ls,loc,c=>if c=b then L else ir M ls loc c
 | _,_,loc,c=>loc c
theorem B7{b:Nat->Option (Nat×Nat)}:∀{M:List (Nat×Nat)} {ls:List (Option<|Nat×Nat)} {c:Nat},c∉M.map (·.1)->ir M ls b c=b c:=by
 intro M;induction M with
 | nil=>intro ls c _;cases ls<;>rfl
 | cons p r e =>
   intro ls c h;cases ls with
   | nil=>rfl
   | cons L ls =>
     simp only[tq,gd,not_or] at h;unfold ir;rw[aX h.1];exact e h.2
theorem xS{loc:Nat->Option (Nat×Nat)}:∀{M:List (Nat×Nat)} {ls:List (Option<|Nat×Nat)},(M.map (·.1)).Nodup->M.length=ls.length->M.map (λp=>ir M ls loc p.1)=ls:=by
 intro M;induction M with
 | nil=>intro ls _ h;cases ls with|nil=>rfl|cons _ _=>cases h
 | cons p r f =>
   intro ls b h;cases ls with
   | nil=>cases h
   | cons L ls =>
     simp only[tq,CJ] at b;have:r.map (λq=>ir (p::r) (L::ls) loc q.1)=ls:=by
      refine s9 (Il λq g=>?_) (f b.2<|by simpa using h);have c:q.1≠p.1:=λe=>b.1 (by rw[<-e];exact se.2 ⟨q,g,rfl⟩);show(if q.1=p.1 then L else ir r ls loc q.1)=_
      rw[aX c]
     rw[tq,this];show(if p.1=p.1 then L else _)::ls=L::ls
     rw[aV rfl]
theorem E3{loc:Nat->Option (Nat×Nat)}{M:List (Nat×Nat)}{e:List (Option<|Nat×Nat)}(g:(M.map (·.1)).Nodup)(h:M.length=e.length){c:Nat}(j:c∈M.map (·.1)):∃i v:Nat,M[i]?=some (c,v)/\e[i]?=some (ir M e loc c):=by
 obtain⟨p,k,rfl⟩:=se.1 j;obtain⟨i,f,b⟩:=MO k;refine⟨i,p.2,by rw[gH f,b],?_⟩;have:=xS (loc:=loc) g h
 conv=>lhs;rw[<-this]
 rw[wH,gH f,b];rfl
theorem gX{U:OT}{y:U.den}{N M:List (Nat×Nat)}{b:St}{c:Nat}:(kT U y N M b).mem c=match iV U y N (M.map λp=>(p.1,p.2+1)) c with|some e=>some e|none=>b.mem c:=rfl
theorem uy{N M:List (Nat×Nat)}:bo N (M.map λp=>(p.1,p.2+1))=bo N M:=by
 unfold bo;rw[M0];rfl
theorem ZL{c k m:Nat}:∀{l:List (Option<|Nat×Nat)} {i j:Nat},(l.filterMap λL=>L.map (·.1)).Nodup->l[i]?=some (some (c,k))->l[j]?=some (some (c,m))->i=j:=by
 intro l;induction l with
 | nil=>intro i j _ h;simp at h
 | cons L r u =>
   intro i j e n o;have g:∀(q s:Nat),r[q]?=some (some (c,s))->c∈r.filterMap λL=>L.map (·.1):=λq s v=>MR.2 ⟨_,eF v,rfl⟩;cases i with
   | zero =>
     cases j with
     | zero=>rfl
     | succ j =>
       obtain rfl:=aG (show some L=_ from n);rw[Vk (f:=λL:Option (Nat×Nat)=>L.map (·.1)) (a:=some (c,k)) (b:=c) rfl] at e;exact absurd (g j m<|by simpa using o) (CJ.1 e).1
   | succ i =>
     cases j with
     | zero =>
       obtain rfl:=aG (show some L=_ from o);rw[Vk (f:=λL:Option (Nat×Nat)=>L.map (·.1)) (a:=some (c,m)) (b:=c) rfl] at e;exact absurd (g i k<|by simpa using n) (CJ.1 e).1
     | succ j =>
       have p:(r.filterMap λL=>L.map (·.1)).Nodup:=by
        cases t:L.map (·.1) with
        | none=>rw[ac8 t] at e;exact e
        | some q=>rw[Vk t] at e;exact(CJ.1 e).2
       have:=u p (by simpa using n) (by simpa using o);omega
theorem bu.refs(h:bu B γ σ.mem w){U:OT}{V:aL}{u y:U.den}{N M:List (Nat×Nat)}{lu:List Value}{C:List Nat}{l:List (Option<|Nat×Nat)}(hr:db σ.mem U V=some (u,N,M))(hd:(bo N M).Nodup)(hN:iX γ N C)
  (hH:∀p∈N++M,Handed σ.mem p) {G:fD} (hw:tX ⟨w.heap.size,(·∈cO C (M.map λp=>γ.loc p.1)),G⟩ w w') {K:Nat->Nat->Prop} (hI:∀b o,γ.I b o->K b o) (agY:∀b o,K b o->b<w'.heap.size)
  (X:∀b o,K b o->¬γ.I b o->w.heap.size<=b\/b∈cO C (M.map λp=>γ.loc p.1)) (ha:zy w' K U y lu C l) (O:(cO C l).Nodup) (hfr:∀f∈cO [] l,f∈cO C (M.map λp=>γ.loc p.1)\/w.heap.size<=f) :
  bu B ⟨K,ir M l γ.loc⟩ (kT U y N M σ).mem w'/\Ext B γ σ.mem w ⟨K,ir M l γ.loc⟩ (kT U y N M σ).mem w':=by
 have hlen:=E1 hr;have hal:=ha.len;have Q:M.length=l.length:=by rw[hlen.2,hal.2]
 have R:(M.map (·.1)).Nodup:=by unfold bo at hd;exact(Lk.1 hd).2.1
 have hNM:∀c,c∈N.map (·.1)->c∉M.map (·.1):=λc h1 h2=>by unfold bo at hd;exact(Lk.1 hd).2.2 c h1 c h2 rfl
 have hold:∀f,f∈cO C (M.map λp=>γ.loc p.1)->∃b bx k,b∈bo N M/\σ.mem b=some bx/\bx.ro=false/\γ.loc b=some (f,k)/\(b∈N.map (·.1)->f∈C):=by
  intro f m;unfold cO at m;rcases ra.1 m with m|m
  .have:some f∈N.map λp=>(γ.loc p.1).map (·.1):=by rw[hN];exact se.2 ⟨f,m,rfl⟩
   obtain⟨p,Y,S⟩:=se.1 this;obtain⟨q,D,S⟩:=r9.1 S;obtain⟨bx,j1,j2,j3,j4⟩:=hH p (mI _ Y);exact⟨p.1,bx,q.2,mI _ (se.2 ⟨p,Y,rfl⟩),j1,j4,by rw[D,<-S],λ_=>m⟩
  .obtain⟨L,hL,S⟩:=MR.1 m;obtain⟨p,Y,rfl⟩:=se.1 hL;obtain⟨q,D,S⟩:=r9.1 S;obtain⟨bx,j1,j2,j3,j4⟩:=hH p (nC _ Y);exact⟨p.1,bx,q.2,nC _ (se.2 ⟨p,Y,rfl⟩),j1,j4,by rw[D,<-S],λhq'=>absurd (se.2 ⟨p,Y,rfl⟩) (hNM _ hq')⟩
 have E:∀f∈cO C (M.map λp=>γ.loc p.1),B.has f/\f<w.heap.size:=λf m=>by
  obtain⟨b,bx,k,_,g2,_,g4,_⟩:=hold f m;exact h.fresh b f k (by rw[g2];simp) g4
 have ae4:∀f∈cO C (M.map λp=>γ.loc p.1),∀o,¬γ.I f o:=λf m o=>by
  obtain⟨b,bx,k,_,g2,g3,g4,_⟩:=hold f m;exact OJ h g2 g3 g4 o
 have t:∀k,k<w.heap.size->k∉cO C (M.map λp=>γ.loc p.1)->w'.heap[k]?=w.heap[k]?:=λk hk m=>hw.block k λq=>by
  rcases q with q|q
  .have:w.heap.size<=k:=q;omega
  .exact m q
 have ag1:∀k,¬B.has k->k<w.heap.size:=λk hk=>Vt λq=>hk (.inl<|fM h.base q);have hN':iX ⟨K,ir M l γ.loc⟩ N C:=by
  unfold iX at hN⊢;rw[<-hN];refine Il λp Y=>?_;show(ir M l γ.loc p.1).map _=_
  rw[B7<|hNM p.1<|se.2 ⟨p,Y,rfl⟩]
 have hL':p8 ⟨K,ir M l γ.loc⟩ (M.map λp=>(p.1,p.2+1)) l:=by
  unfold p8;rw[M0];exact xS R Q
 have OK:F9 (kT U y N M σ).mem U y N (M.map λp=>(p.1,p.2+1)) :=
  QV hlen.1 (by rw[sR];exact hlen.2) (by rw[uy];exact hd) λc bx hc=>by rw[gX,hc]
 have F:∀{c bx},iV U y N (M.map λp=>(p.1,p.2+1)) c=some bx->_:=λ{c bx} hc=>Nb (γ:=⟨K,ir M l γ.loc⟩) ha hN' hL' OK hc;have z:∀{c},iV U y N (M.map λp=>(p.1,p.2+1)) c=none->c∉bo N M:=λ{c} hc D=>by
  obtain⟨bx,m⟩:=E2 (u:=y) (M:=M.map λp=>(p.1,p.2+1)) hlen.1 (by rw[sR];exact hlen.2) (by rw[uy];exact D);rw[hc] at m;cases m
 have r:∀{c},c∉M.map (·.1)->ir M l γ.loc c=γ.loc c:=λhc=>B7 hc;have H:∀c,(kT U y N M σ).mem c≠none->σ.mem c≠none:=by
  intro c hc D;apply hc;rw[gX];cases hv:iV U y N (M.map λp=>(p.1,p.2+1)) c with
  | none=>exact D
  | some bx =>
    rcases Nf hr hv with ⟨cx,_,g,_⟩|⟨cx,_,g,_⟩
    .rw[D] at g;cases g
    .rw[D] at g;cases g
 have hx:Ext B γ σ.mem w ⟨K,ir M l γ.loc⟩ (kT U y N M σ).mem w' :=
  { below:=⟨hw.os,hw.tape,hw.output,hw.size,λk hk=>t k (ag1 k hk) λm=>hk (E k m).1⟩
    I:=hI
    ox:=λb o x=>by
     by_cases hi:γ.I b o
     .exact .inl hi
     .rcases X b o x hi with q|q
      .exact .inr (.inl<|fM h.base q)
      .exact .inr (E b q).1
    cells:=λb o hi=>di (t b (h.sg b o hi) λm=>ae4 b m o hi)
    boxes:=λc cx hc=>by
     rw[gX];cases hv:iV U y N (M.map λp=>(p.1,p.2+1)) c with
     | none=>exact⟨cx,hc,bZ _,λ_=>⟨r λq=>z hv (nC _ q),rfl,rfl⟩⟩
     | some bx =>
       rcases Nf hr hv with ⟨cx',g1,g2,g3,g4,g5⟩|⟨cx',g1,g2,g3⟩
       .rw[hc] at g2;obtain rfl:=aG g2;exact⟨bx,rfl,zh g3.symm,λ_=>⟨r<|hNM c<|se.2 ⟨_,g1,rfl⟩,g4,g5⟩⟩
       .rw[hc] at g2;obtain rfl:=aG g2;exact⟨bx,rfl,by omega,λe=>by omega⟩ }
 have hls:∀{c f k},c∈M.map (·.1)->ir M l γ.loc c=some (f,k)->f∈cO [] l:=λ{c f k} hc S=>by
  obtain⟨i,v,h1,h2⟩:=E3 (loc:=γ.loc) R Q hc;rw[S] at h2;unfold cO;exact nC _ (MR.2 ⟨_,eF h2,rfl⟩)
 have J:∀{c d f k k'},c∈M.map (·.1)->σ.mem d≠none->ir M l γ.loc c=some (f,k)->ir M l γ.loc d=some (f,k')->c=d:=by
  intro c d f k k' hc hdm e1 Z;have m:=hls hc e1;by_cases s:d∈M.map (·.1)
  .obtain⟨i,v,i1,i2⟩:=E3 (loc:=γ.loc) R Q hc;obtain⟨j,v',j1,j2⟩:=E3 (loc:=γ.loc) R Q s;rw[e1] at i2;rw[Z] at j2;have hnl:(l.filterMap λL=>L.map (·.1)).Nodup:=by unfold cO at O;exact(Lk.1 O).2.1
   have hij:i=j:=by
    exact ZL hnl i2 j2
   subst hij;rw[i1] at j1;exact(bk<|aG j1).1
  .rw[r s] at Z;have hlt:=(h.fresh d f k' hdm Z).2;rcases hfr f m with D|D
   .obtain⟨n,bx,kn,n1,n2,n3,n4,n5⟩:=hold f D;have ag3:=h.inj n d f kn k' (by rw[n2];simp) hdm n4 Z;subst ag3;unfold bo at n1;rcases ra.1 n1 with n1|n1
    .have h1:=n5 n1;unfold cO at O m;rw[sd] at m;exact absurd rfl ((Lk.1 O).2.2 f h1 f m)
    .exact absurd n1 s
   .omega
 refine⟨?_,hx⟩;exact
  { cT:=h.C2 hx
    base:=fM h.base hw.size
    boxes:=λc cx hc=>by
     rw[gX] at hc;cases hv:iV U y N (M.map λp=>(p.1,p.2+1)) c with
     | none =>
       rw[hv] at hc;replace hc:σ.mem c=some cx:=hc;have hnn:=z hv;refine(h.boxes c cx hc).keep hx (r λq=>hnn (nC _ q)) λf k T=>?_;refine t f (h.fresh c f k (by rw[hc];simp) T).2 λm=>?_;obtain⟨b,bx,k',g1,g2,g3,g4,_⟩:=hold f m;have:=h.inj c b f k k' (by rw[hc];simp) (by rw[g2];simp) T g4;subst this;exact hnn g1
     | some bx =>
       rw[hv] at hc;obtain rfl:=aG hc;exact(F hv).1
    inj:=λc d f k k' hc hd' e1 Z=>by
     by_cases A:c∈M.map (·.1)
     .exact J A (H d hd') e1 Z
     .by_cases s:d∈M.map (·.1)
      .exact(J s (H c hc) Z e1).symm
      .exact h.inj c d f k k' (H c hc) (H d hd') ((r A).symm.trans e1) ((r s).symm.trans Z)
    fresh:=λc f k hc T=>by
     by_cases A:c∈M.map (·.1)
     .have m:=hls A T;obtain⟨bx,hbx⟩:=E2 (u:=y) (M:=M.map λp=>(p.1,p.2+1)) hlen.1 (by rw[sR];exact hlen.2) (by rw[uy];exact nC _ A);obtain⟨_,_,g⟩:=F hbx;obtain⟨_,⟨x,hx1⟩,_⟩:=g f k T;refine⟨?_,(va.1 hx1).1⟩;rcases hfr f m with q|q
      .exact(E f q).1
      .exact .inl (fM h.base q)
     .have:=h.fresh c f k (H c hc) ((r A).symm.trans T);exact⟨this.1,A9 this.2 hw.size⟩
    sg:=agY
    sep:=λc cx f k W hc T hi=>by
     rw[gX] at hc;cases hv:iV U y N (M.map λp=>(p.1,p.2+1)) c with
     | some bx =>
       obtain⟨_,_,g⟩:=F hv;exact absurd hi ((g f k T).2.2 W)
     | none =>
       rw[hv] at hc;replace hc:σ.mem c=some cx:=hc;have hl0:γ.loc c=some (f,k):=(r λq=>z hv (nC _ q)).symm.trans T;by_cases hi0:γ.I f W
       .exact h.sep c cx f k W hc hl0 hi0
       .have h2:=(h.fresh c f k (by rw[hc];simp) hl0).2;rcases X f W hi hi0 with h1|h1
        .omega
        .obtain⟨b,bx,k',g1,g2,g3,g4,_⟩:=hold f h1;have:=h.inj c b f k k' (by rw[hc];simp) (by rw[g2];simp) hl0 g4;subst this;exact absurd g1 (z hv) }
theorem w8{c:Nat->Option bB}{p q:OT}{a b:aL}{x:p.den}{y:q.den}{N M e f:List (Nat×Nat)}(g:db c p a=some (x,N,M))(h:db c q b=some (y,e,f)):db c (.pair p q) (.mix a b)=some ((x,y),N++e,M++f):=by
 simp only[db,g,h];rfl
theorem Lu:∀{ps:List Bool} {A:Ty} {U:OT} {vs:List aL} {j:List Value} {x:A.den} {u:U.den} {N M:List (Nat×Nat)},lz γ σ.mem w vs j->ew σ ps A U vs=some (x,u,N,M) ->
  ∃V c,Na w γ.I ps A U x j c/\cf γ σ.mem w V .cells c/\db σ.mem U V=some (u,N,M):=by
 intro ps;induction ps with
 | nil =>
   intro A U vs j x u N M k h;cases A<;>first|(cases h;done)|skip
   cases U<;>first|(cases h;done)|skip
   cases vs with
   | cons v r=>cases h
   | nil =>
     cases h;have hx:j=[]:=by have:=k.1;simpa using this
     exact⟨.data .unit (),[],⟨rfl,rfl,hx,rfl⟩,rfl,rfl⟩
 | cons p ps D =>
   intro A U vs j x u N M k h;cases p with
   | false =>
     cases A<;>first|(cases h;done)|skip
     rename_i t A;cases vs with
     | nil=>cases h
     | cons v r =>
       simp only[ew] at h;split at h
       .rename_i G E F O C l;obtain⟨rfl,q⟩:=bk (aG h);obtain⟨rfl,rfl⟩:=bk q;obtain⟨e,f,rfl,m,n⟩:=k.cons;obtain⟨V,c,s,y,z⟩:=D n l;obtain⟨H,J,K⟩:=WY m C;exact⟨V,c,⟨H,f,by rw[K],J,s⟩,y,z⟩
       .cases h
   | true =>
     cases U<;>first|(cases h;done)|skip
     rename_i o U;cases o<;>first|(cases h;done)|skip
     case dM =>
      cases vs with
      | nil=>cases h
      | cons v r =>
        cases v<;>first|(cases h;done)|skip
        simp only[ew] at h;split at h
        .rename_i E F q l;cases h;obtain⟨e,f,rfl,m,n⟩:=k.cons;obtain⟨V,c,s,y,z⟩:=D n l;exact⟨.mix .dM V,e::c,⟨e,f,c,rfl,rfl,s⟩,⟨[e],c,rfl,m,y⟩,w8 (p:=.dM) (q:=U) (x:=()) (N:=[]) (M:=[]) rfl z⟩
        .cases h
     rename_i tid o;cases vs with
     | nil=>cases h
     | cons v r =>
       simp only[ew] at h;split at h
       .rename_i G Q R E F S T C l;cases h;obtain⟨e,f,rfl,m,n⟩:=k.cons;obtain⟨V,c,s,y,z⟩:=D n l;have L:∃b g,v=.ptr b g []:=by
         have i:=C;unfold db at i;split at i
         .exact⟨_,_,rfl⟩
         .cases i
        obtain⟨b,g,rfl⟩:=L;exact⟨.mix (.ptr b g []) V,e::c,⟨e,f,c,rfl,rfl,s⟩,⟨[e],c,rfl,m,y⟩,by
         exact w8 C z⟩
       .cases h
theorem Ng{f:Nat->Option bB}{N M:List (Nat×Nat)}{l:List Nat}(n:iX γ N l)(m:∀p∈N++M,Handed f p){blk:Nat}(e:blk∈cO l (M.map λp=>γ.loc p.1)):∃b k,(∃g,f b=some g)/\γ.loc b=some (blk,k):=by
 unfold cO at e;rcases ra.1 e with e|e
 .have:some blk∈N.map λp=>(γ.loc p.1).map (·.1):=by rw[n];exact se.2 ⟨blk,e,rfl⟩
  obtain⟨p,h,c⟩:=se.1 this;obtain⟨q,i,c⟩:=r9.1 c;obtain⟨g,j,_⟩:=m p (mI _ h);exact⟨p.1,q.2,⟨g,j⟩,by rw[i,<-c]⟩
 .obtain⟨L,o,c⟩:=MR.1 e;obtain⟨p,h,rfl⟩:=se.1 o;obtain⟨q,i,c⟩:=r9.1 c;obtain⟨g,j,_⟩:=m p (nC _ h);exact⟨p.1,q.2,⟨g,j⟩,by rw[i,<-c]⟩
theorem TD{c:Nat->Option bB}(m:bu B γ c w):∀{l:List (Nat×Nat)},(l.map (·.1)).Nodup->(∀p∈l,Handed c p)->(l.filterMap λp=>(γ.loc p.1).map (·.1)).Nodup:=by
 intro l;induction l with
 | nil=>intro _ _;exact List.nodup_nil
 | cons p r n =>
   intro e g;simp only[tq,CJ] at e;have k:=n e.2 λq b=>g q (oh _ b);cases h:(γ.loc p.1).map (·.1) with
   | none=>rw[ac8 (f:=λp:Nat×Nat=>(γ.loc p.1).map (·.1)) h];exact k
   | some blk =>
     rw[Vk (f:=λp:Nat×Nat=>(γ.loc p.1).map (·.1)) h,CJ];refine⟨λb=>?_,k⟩;obtain⟨q,b,o⟩:=MR.1 b;obtain⟨x,s,i⟩:=r9.1 h;obtain⟨z,t,j⟩:=r9.1 o;obtain⟨y,u,_⟩:=g p (mJ ..);obtain⟨A,v,_⟩:=g q (oh _ b);have:=m.inj p.1 q.1 blk x.2 z.2 (by rw[u];simp) (by rw[v];simp) (by rw[s,<-i]) (by rw[t,<-j]);exact e.1 (by rw[this];exact se.2 ⟨q,b,rfl⟩)
theorem Ga{b:Nat->Option bB}(f:bu B γ b w){N M:List (Nat×Nat)}{c:List Nat}(g:iX γ N c)(i:∀p∈N++M,Handed b p)(j:(bo N M).Nodup):(cO c<|M.map λp=>γ.loc p.1).Nodup:=by
 have h:=TD f (l:=N++M) (by rw[xE];exact j) i;have e:((N++M).filterMap λp=>(γ.loc p.1).map (·.1))=cO c (M.map λp=>γ.loc p.1):=by
  unfold cO;rw[adf,Y0]
  congr 1
  have k:(N.filterMap λp=>(γ.loc p.1).map (·.1))=(N.map λp=>(γ.loc p.1).map (·.1)).filterMap id:=by rw[Y0];rfl
  rw[k,g,Y0];exact List.filterMap_some
 rw[<-e];exact h
end
end Go.Ge
