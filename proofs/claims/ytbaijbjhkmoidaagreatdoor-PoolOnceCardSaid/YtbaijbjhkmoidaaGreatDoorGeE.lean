/- A ghost interpreter of the model's code, and that it tells the truth: part 5. It says of a function of plain data what a call of it comes to. -/
import Derived.Test.YtbaijbjhkmoidaaGreatDoorGeD
set_option linter.unusedVariables false
set_option linter.unusedSimpArgs false
set_option linter.unusedSectionVars false
namespace Go.Ge
open RowKit
def fe(w:World)(I:Nat->Nat->Prop):(A:Ty)->A.den->List Value->Prop
 | .pair t r,x,c=>∃e b,c=bX t e::b/\bg w I t x.1 e/\fe w I r x.2 b
 | .unit,_,c=>c=[]
 | _,_,_=>False
def ij(w:World)(I:Nat->Nat->Prop)(R:Ty)(y:R.den)(v:Value):Prop:=bw ⟨I,λ_=>none⟩ (λ_=>none) w (kb R y) .val [v]
structure Holds (P:Program) (G:eg) (f:Nat) (c:vX):Prop where
 body:∃fn code,P.funcs[f]?=some fn/\(fn.name == "runtime.NumGoroutine")=false/\fn.body=some code
 calls:∀(I:Nat->Nat->Prop) (w:World) (args:Array Value) (x:c.A.den) (y:c.R.den),(∀b o,I b o->b<w.heap.size)->mO G w->fe w I c.A x args.toList->c.spec x=some y ->
  Calls P f args w λe w'=>∃v I',e=.returned v/\Below w.heap.size w w'/\(∀b o,I b o->I' b o)/\(∀b o,I' b o->b<w'.heap.size)/\(∀b o,I' b o->¬I b o->w.heap.size<=b)/\ij w' I' c.R y v
def se(P:Program)(G:eg)(g:String)(c:vX):Prop :=
 ∀(I:Nat->Nat->Prop) (w:World) (v:Value) (i:List Value) (x:c.A.den) (y:c.R.den),(∀b o,I b o->b<w.heap.size)->mO G w->fe w I c.A x (v::i)->c.spec x=some y ->
  ∃f u,(callMethod v g i.toArray).run P w=(callFunc f (u::i).toArray).run P w/\(∃k h,P.funcs[f]?=some k/\(k.name == "runtime.NumGoroutine")=false/\k.body=some h) /\
  Calls P f (u::i).toArray w λe w'=>∃v j,e=.returned v/\Below w.heap.size w w'/\(∀b o,I b o->j b o)/\(∀b o,j b o->b<w'.heap.size)/\(∀b o,j b o->¬I b o->w.heap.size<=b)/\ij w' j c.R y v
theorem aO.OS{B:Own}{f:Gh}{e:Nat->Option aS}{w w':World}(h:aO B f e w)(g:Below w.heap.size w w'){I':Nat->Nat->Prop}(r:∀b o,f.I b o->I' b o)(n:∀b o,I' b o->b<w'.heap.size)
  (i:∀b o,I' b o->¬f.I b o->w.heap.size<=b):aO B ⟨I',f.loc⟩ e w'/\Ext B f e w ⟨I',f.loc⟩ e w':=by
 have hx:Ext B f e w ⟨I',f.loc⟩ e w' :=
  { below:=.of ⟨g.os,g.tape,g.output,g.size,λk s=>g.block k (rp s h.base)⟩
    I:=r
    mo:=λb o x=>by
     by_cases l:f.I b o
     .exact .inl l
     .exact .inr (.inl<|iA h.base<|i b o x l)
    cells:=λb o l=>dU (g.block b<|h.lX b o l)
    boxes:=λb p hb=>⟨p,hb,cU _,λ_=>⟨rfl,rfl,rfl⟩⟩ }
 refine⟨?_,hx⟩;exact
  { bD:=h.sX hx
    base:=iA h.base g.size
    boxes:=λb p hb=>(h.boxes b p hb).keep hx rfl λc k m=>g.block c (h.fresh b c k (by rw[hb];simp) m).2
    inj:=h.inj
    fresh:=λb c k hb m=>by have:=h.fresh b c k hb m;exact⟨this.1,rp this.2 g.size⟩
    lX:=n
    sep:=λb p c k j hb m l=>by
     by_cases q:f.I c j
     .exact h.sep b p c k j hb m q
     .have t:=i c j l q;have u:=(h.fresh b c k (by rw[hb];simp) m).2;omega }
theorem HB{w:World}{k c:Gh}{i e:Nat->Option aS}(l:∀b o,k.I b o->c.I b o):∀{R:Ty} {y:R.den} {g:List Value},bw k i w (p9 R y) .many g->bw c e w (p9 R y) .many g:=by
 intro R;induction R with
 | pair t r m j =>
   intro y g h;obtain⟨v,f,n,⟨p,q,s⟩,u⟩:=h;exact⟨v,f,n,⟨p,bg.mono l (λ_ _ _=>rfl) q,s⟩,j u⟩
 | _=>intro y g h;exact h
theorem tg(R:Ty)(y:R.den):(∃t,∃q:R=.pair t .unit,kb R y=.data t (show(Ty.pair t .unit).den from q▸y).1)\/kb R y=.pG (p9 R y):=by
 cases R with
 | pair t r =>
   cases r with
   | unit=>exact .inl ⟨t,rfl,rfl⟩
   | _=>exact .inr rfl
 | _=>exact .inr rfl
theorem ij.rep{w:World}{I:Nat->Nat->Prop}{R:Ty}{y:R.den}{v:Value}(h:ij w I R y v){j:Gh}{c:Nat->Option aS}(k:∀b o,I b o->j.I b o):bw j c w (kb R y) .val [v]:=by
 unfold ij at h;rcases tg R y with ⟨t,q,e⟩|e
 .rw[e] at h⊢;obtain⟨l,f,g⟩:=h;exact⟨l,bg.mono k (λ_ _ _=>rfl) f,g⟩
 .rw[e] at h⊢;obtain⟨i,f,g⟩:=h;exact⟨i,f,HB k g⟩
theorem xr{w k:World}{l g:Gh}{i b:Nat->Option aS}:∀{R:Ty} {y:R.den} {e:List Value},R.flat=true->bw l i w (p9 R y) .many e->bw g b k (p9 R y) .many e:=by
 intro R;induction R with
 | pair t r m j =>
   intro y e f h;simp only[Ty.flat,cA] at f;obtain⟨v,c,n,⟨o,p,q⟩,s⟩:=h;exact⟨v,c,n,⟨o,bg.flat f.1 p,q⟩,j f.2 s⟩
 | _=>intro y e f h;exact h
theorem ij.flat{w j:World}{I:Nat->Nat->Prop}{R:Ty}{y:R.den}{v:Value}(h:ij w I R y v){k:Gh}{b:Nat->Option aS}(c:R.flat=true):bw k b j (kb R y) .val [v]:=by
 unfold ij at h;rcases tg R y with ⟨t,q,e⟩|e
 .rw[e] at h⊢;subst q;simp only[Ty.flat,cA] at c;obtain⟨l,f,g⟩:=h;exact⟨l,bg.flat c.1 f,g⟩
 .rw[e] at h⊢;obtain⟨i,f,g⟩:=h;exact⟨i,f,xr c g⟩
section
variable {P:Program} {B:Own} {N:Nat} {γ:Gh} {σ aB:St} {a:Act} {w w':World} {d:Option Nat} {cx:Ctx}
theorem qj.P8{I q:Nat->Nat->Prop}{e:Ty}{l:List e.den}{v:Value}(h:qj w I e l v)(t:∀b o,I b o->q b o)(u:∀f g k,v=.slice (some ⟨f,g,none⟩) l.length k->l≠[]->∀o,q f o) :
  bg w q (.slice e) l [v]:=by
 rcases h with ⟨rfl,m,k,n,r,s⟩|⟨f,g,k,n,r,s,y⟩
 .rcases s with rfl|⟨f,g,rfl⟩
  .exact .inl ⟨⟨m,by rw[n]⟩,rfl⟩
  .exact .inr ⟨f,g,k,by rw[n];rfl,jO _,r,λi x p=>by cases p⟩
 .refine .inr ⟨f,g,k,by rw[n],r,s,λi x p=>?_⟩;obtain⟨z,A,C,D⟩:=y i x p;exact⟨z,A,λj c E=>⟨C j c E,u f g k n (λe=>by rw[e] at p;cases p) _⟩,bg.mono t (λ_ _ _=>rfl) D⟩
theorem Bd(x:aO B γ σ.mem w){e:Ty}{v:ax}{l:List e.den}{g y n z:Nat}(H:bw γ σ.mem w v .val [.slice (some ⟨g,y,none⟩) n z])(K:ek e σ v=some l)(m:l≠[]) :
  (∃q,v=.data (.slice e) q)\/(B.has g/\g<w.heap.size):=by
 rcases iG K with rfl|⟨rfl,rfl⟩|⟨b,A,I,rfl,o,h,s,t⟩|⟨b,A,R,S,I,rfl,o,h,C⟩
 .exact .inl ⟨_,rfl⟩
 .exact absurd rfl m
 .obtain⟨L,k,T,M,p⟩:=aC o h H.2;rcases p with ⟨p,D⟩|⟨i,j,p,D⟩
  .exfalso;have E:=x.boxes b I o;obtain⟨U,V,f,W,r⟩:=E.Hq s (λ_ q=>by rw[t] at q;cases q);rw[t] at f;cases f;rcases r with ⟨_,r⟩|⟨_,_,_,_,_,r,_⟩
   .exact m r
   .rw[p] at r;cases r
  .have f:g=i:=by
    have:=pY D;injection this with f _ _
    injection f with f
    injection f
   subst f;exact .inr (x.fresh b g j (by rw[o];simp) p)
 .obtain⟨L,k,M,p,D,X,J,j,O,Y,Z,gF,u⟩:=aC o h H.2;have F:=pY O;rcases u with u|⟨i,c,u,G⟩
  .exfalso;apply m;rcases C with ⟨_,Q,_,rfl⟩|⟨_,k0,Q,_,rfl⟩<;>simp[sub,u]
  .injection F with f _ _
   rw[G] at f;injection f with f
   injection f with f _
   subst f;exact .inr (x.fresh b g c (by rw[o];simp) u)
theorem pq(L:aO B γ σ.mem w){m:Nat->Nat->Prop}(M:∀b o,γ.I b o->m b o)(A:∀b o,B.has b->b<w.heap.size->m b o):∀{v:ax} {t:Ty} {x:t.den} {cs:List Value},
  bw γ σ.mem w v .cells cs->jv σ t v=some x->bg w m t x cs:=by
 have C:∀{v:ax} {e:Ty} {l:List e.den} {cs:List Value},b4 v=1->(∀c,bw γ σ.mem w v .cells [c]->bw γ σ.mem w v .val [c])->(∀t x,v≠.data t x)->bw γ σ.mem w v .cells cs->ek e σ v=some l->bg w m (.slice e) l cs:=by
  intro v e l cs D i E h f;obtain⟨c,rfl⟩:=u6 h D;have hv:=i c h;refine(kW L hv f).P8 M λF O Q R G o=>?_;subst R;rcases Bd L hv f G with ⟨q,j⟩|⟨H,S⟩
  .exact absurd j (E _ _)
  .exact A F o H S
 intro v;induction v with
 | data u y =>
   intro t x cs h f;have key:(∃q:u=t,x=q▸y):=by
    cases t with
    | slice e =>
      rcases iG (show ek e σ (.data u y)=some x from f) with g|⟨g,_⟩|⟨_,_,_,g,_⟩|⟨_,_,_,_,_,g,_⟩
      .injection g with T U;subst T;exact⟨rfl,(eq_of_heq U).symm⟩
      .cases g
      .cases g
      .cases g
    | _=>exact Ty.fZ f
   obtain⟨q,j⟩:=key;subst q;subst j;exact bg.mono M (λ_ _ _=>rfl) h
 | mix p q J K =>
   intro t x cs h f;cases t with
   | pair s r =>
     obtain⟨V,W,rfl,D,H⟩:=h;obtain⟨y,z,X,j,rfl⟩:=tc f;exact⟨V,W,rfl,J D X,K H j⟩
   | slice e=>exact absurd f (by intro k;cases k)
   | _=>cases f
 | jt =>
   intro t x cs h f;cases t with
   | slice e=>exact C (v:=.jt) rfl (λc k=>k) (λ_ _=>by simp) h f
   | _=>cases f
 | whole b au =>
   intro t x cs h f;cases t with
   | slice e=>exact C (v:=.whole b au) rfl (λc k=>k) (λ_ _=>by simp) h f
   | _=>cases f
 | part b au lo n =>
   intro t x cs h f;cases t with
   | slice e=>exact C (v:=.part b au lo n) rfl (λc k=>k) (λ_ _=>by simp) h f
   | _=>cases f
 | lA =>
   intro t x cs h f;obtain rfl:cs=[.nilIface]:=h;exact(jW f).1 _ _
 | _ =>
   intro t x cs h f;cases t with
   | slice e=>exact absurd f (by intro k;cases k)
   | _=>cases f
theorem ti(m:aO B γ σ.mem w){l:Nat->Nat->Prop}(z:∀b o,γ.I b o->l b o)(i:∀b o,B.has b->b<w.heap.size->l b o){v:ax}{t:Ty}{x:t.den}{f:Value}
  (h:bw γ σ.mem w v .val [f]) (c:jv σ t v=some x):∃cs,bg w l t x cs/\f=bX t cs:=by
 have one:∀{v:ax},bw γ σ.mem w v .cells [f]->(∃e,t=.slice e)->jv σ t v=some x->∃cs,bg w l t x cs/\f=bX t cs:=by
  intro v j F c;obtain⟨e,rfl⟩:=F;exact⟨[f],pq m z i j c,rfl⟩
 cases v with
 | data u y =>
   obtain⟨cs,A,C⟩:=cH.1 h;have j:=pq m z i (v:=.data u y) (cs:=cs) A c;refine⟨cs,j,?_⟩;rw[C];have:u.isAgg=t.isAgg:=by
    cases t with
    | slice e =>
      rcases iG (show ek e σ (.data u y)=some x from c) with g|⟨g,_⟩|⟨_,_,_,g,_⟩|⟨_,_,_,_,_,g,_⟩
      .injection g with G J;rw[G]
      .cases g
      .cases g
      .cases g
    | _=>obtain⟨q,_⟩:=Ty.fZ c;rw[q]
   unfold bX;rw[this]
 | mix p q =>
   obtain⟨D,E,H,A,C⟩:=h;obtain rfl:f=_:=by simpa using H
   have j:=pq m z i (v:=.mix p q) (cs:=D++E) ⟨D,E,rfl,A,C⟩ c;refine⟨_,j,?_⟩;cases t with
   | pair s r=>rfl
   | slice e=>exact absurd c (by intro k;cases k)
   | _=>cases c
 | jt=>cases t with
   | slice e=>exact one h ⟨e,rfl⟩ c
   | _=>cases c
 | whole b au=>cases t with
   | slice e=>exact one h ⟨e,rfl⟩ c
   | _=>cases c
 | part b au lo n=>cases t with
   | slice e=>exact one h ⟨e,rfl⟩ c
   | _=>cases c
 | lA =>
   have h:[f]=[Value.nilIface]:=h;obtain rfl:f=.nilIface:=by simpa using h
   exact⟨[.nilIface],(jW c).1 _ _,(jW c).2.2.1.symm⟩
 | _=>cases t with
   | slice e=>exact absurd c (by intro k;cases k)
   | _=>cases c
def gk(e:Gh)(b:Nat->Option aS)(w:World)(c:List ax)(xs:List Value):Prop:=xs.length=c.length/\∀(i:Nat) v x,c[i]?=some v->xs[i]?=some x->bw e b w v .val [x]
theorem gk.cons{b:Nat->Option aS}{v:ax}{e:List ax}{c:List Value}(h:gk γ b w (v::e) c):∃x r,c=x::r/\bw γ b w v .val [x]/\gk γ b w e r:=by
 cases c with
 | nil=>cases h.1
 | cons x r=>exact⟨x,r,rfl,h.2 0 v x rfl rfl,by simpa using h.1,λi f g j k=>h.2 (i+1) f g j k⟩
theorem gk.ext{c b:Nat->Option aS}{e:Gh}{f:List ax}{g:List Value}(h:gk γ c w f g)(j:Ext B γ c w e b w'):gk e b w' f g:=⟨h.1,λi v x k l=>(h.2 i v x k l).ext j⟩
theorem zb(k:aO B γ σ.mem w){I':Nat->Nat->Prop}(l:∀b o,γ.I b o->I' b o)(i:∀b o,B.has b->b<w.heap.size->I' b o):∀{A:Ty} {x:A.den} {c:List ax} {f:List Value},
  gk γ σ.mem w c f->ef σ A c=some x->fe w I' A x f:=by
 intro A;induction A with
 | pair t r m j =>
   intro x c f h e;cases c with
   | nil=>cases e
   | cons v c =>
     obtain⟨y,g,rfl,n,s⟩:=h.cons;simp only[ef] at e;split at e
     .rename_i p q u z;obtain rfl:=aq e;obtain⟨C,D,E⟩:=ti k l i n u;exact⟨C,g,by rw[E],D,j s z⟩
     .cases e
 | unit =>
   intro x c f h e;cases c with
   | nil=>exact tY.1 h.1
   | cons v c=>cases e
 | _=>intro x c f h e;cases c<;>cases e
theorem fe.mono{I I':Nat->Nat->Prop}(g:∀b o,I b o->I' b o)(i:∀b o,I b o->w'.cell? ⟨b,o,none⟩=w.cell? ⟨b,o,none⟩):∀{A:Ty} {x:A.den} {e:List Value},fe w I A x e->fe w' I' A x e:=by
 intro A;induction A with
 | pair t r j f=>intro x e h;obtain⟨k,c,l,m,n⟩:=h;exact⟨k,c,l,bg.mono g i m,f n⟩
 | _=>intro x e h;exact h
theorem lj:∀{A:Ty} {x:A.den} {c:List ax} {xs:List Value} {σ aB:St} {γ:Gh},b6 B N γ σ a w->gk γ σ.mem w c xs->gE σ A c=some (x,aB) ->
  ∃bc,b6 B N bc aB a w/\Ext B γ σ.mem w bc aB.mem w/\fe w bc.I A x xs:=by
 intro A;induction A with
 | pair t r m g =>
   intro x c xs σ aB γ h f b;cases c with
   | nil=>cases b
   | cons v c =>
     obtain⟨y,e,rfl,n,o⟩:=f.cons;simp only[gE] at b;split at b
     .rename_i p aV s;split at b
      .rename_i q br u;obtain⟨rfl,rfl⟩:=b8 (aq b);obtain⟨z,C,l,D,E,i⟩:=iH h n s;obtain i:y=_:=by simpa using i
       obtain⟨j,F,k,G⟩:=g C (o.ext l) u;exact⟨j,F,l.trans k,D,e,by rw[i],bg.mono k.I k.cells E,G⟩
      .cases b
     .cases b
 | unit =>
   intro x c xs σ aB γ h f b;cases c with
   | nil=>obtain⟨rfl,rfl⟩:=b8 (aq b);exact⟨γ,h,Ext.refl _ _ _ _,tY.1 f.1⟩
   | cons v c=>cases b
 | _=>intro x c xs σ aB γ h f b;cases c<;>cases b
def J3(w:World)(I:Nat->Nat->Prop)(e:Ty)(g:Nat)(l:List e.den)(L:Option (Nat×Nat))(v:Value):Prop :=
 0<e.size/\((L=none/\l=[]/\v=.slice none 0 0)\/∃c b f tid h,L=some (c,b)/\v=.slice (some ⟨c,0,none⟩) l.length b/\w.heap[c]?=some (.cells f tid h)/\LP e f h/\(g=0\/tid=g) /\
  l.length<=b/\b<=maxLen/\f.size=b*e.size/\(∀o,¬I c o)/\∀(i:Nat) (x:e.den),l[i]?=some x->bg w I e x ((f.toList.drop<|i*e.size).take e.size))
def xu(w:World)(I:Nat->Nat->Prop)(l:List (Int×Int×ah))(L:Option (Nat×Nat))(v:Value):Prop :=
 (L=none/\l=[]/\v=.map none)\/∃b c o,L=some (b,c)/\v=.map (some b)/\w.heap[b]?=some o/\uY o l/\∀o,¬I b o
def mh(w:World)(I:Nat->Nat->Prop):(o:OT)->o.den->List Value->List Nat->List (Option<|Nat×Nat)->Prop
 | .bW t,x,cs,c,ls=>bg w I t x cs/\c=[]/\ls=[]
 | .buf e j,l,cs,c,ls=>∃L v,cs=[v]/\c=[]/\ls=[L]/\J3 w I e j l L v
 | .map,l,cs,c,ls=>∃L v,cs=[v]/\c=[]/\ls=[L]/\xu w I l L v
 | .ref tid o,u,cs,c,ls=>∃b r,cs=[.pointer<|some ⟨b,0,none⟩]/\c=b::r/\(∀g,¬I b g)/\∃f h i,w.heap[b]?=some (.cells f h i)/\iD f i/\(tid=0\/h=tid)/\mh w I o u f.toList r ls
 | .rf tid o,u,cs,c,ls=>∃b k r,cs=[.pointer<|some ⟨b,0,none⟩]/\ls=some (b,k)::r/\(∀g,¬I b g)/\∃f h i,w.heap[b]?=some (.cells f h i)/\iD f i/\(tid=0\/h=tid)/\mh w I o u f.toList c r
 | .pair p q,u,cs,c,ls=>∃m n s y z A,cs=m++n/\c=s++y/\ls=z++A/\mh w I p u.1 m s z/\mh w I q u.2 n y A
 | .unit,_,cs,c,ls=>cs=[]/\c=[]/\ls=[]
 | .cB,_,cs,c,ls=>cs=[.pointer none]/\c=[]/\ls=[]
def bL(b:List Nat)(c:List (Option<|Nat×Nat)):List Nat:=b++c.filterMap λL=>L.map (·.1)
def xv(w:World)(I:Nat->Nat->Prop):List Bool->(A:Ty)->(U:OT)->A.den->List Value->List Value->Prop
 | [],A,U,_,c,iy=>A=.unit/\U=.unit/\c=[]/\iy=[]
 | false::ps,A,U,x,c,iy=>match A,x with
   | .pair t A,x=>∃e b,c=bX t e::b/\bg w I t x.1 e/\xv w I ps A U x.2 b iy
   | _,_=>False
 | true::ps,A,U,x,c,iy=>match U with
   | .pair (.ref _ _) U=>∃v b r,c=v::b/\iy=v::r/\xv w I ps A U x b r
   | .pair .cB U=>∃v b r,c=v::b/\iy=v::r/\xv w I ps A U x b r
   | _=>False
structure aR (P:Program) (G:eg) (f:Nat) (c:sK):Prop where
 body:∃fn code,P.funcs[f]?=some fn/\(fn.name == "runtime.NumGoroutine")=false/\fn.body=some code
 calls:∀(I:Nat->Nat->Prop) (w:World) (args:Array Value) (iy:List Value) (bs:List Nat) (ls:List (Option<|Nat×Nat)) (x:c.A.den) (u:c.U.den) (y:c.R.den×c.U.den),(∀b o,I b o->b<w.heap.size)->mO G w->(∀b Q,G b Q->b∉bL bs ls) ->
  xv w I c.ps c.A c.U x args.toList iy->mh w I c.U u iy bs ls->(bL bs ls).Nodup->c.spec (x,u)=some y ->
  Calls P f args w λe w'=>∃v I' OU,e=.returned v/\lg ⟨w.heap.size,(·∈bL bs ls),G⟩ w w'/\(∀b o,I b o->I' b o)/\(∀b o,I' b o->b<w'.heap.size)/\(∀b o,I' b o->¬I b o->w.heap.size<=b\/b∈bL bs ls)/\ij w' I' c.R y.1 v /\
   mh w' I' c.U y.2 iy bs OU/\(bL bs OU).Nodup/\∀blk∈bL [] OU,blk∈bL bs ls\/w.heap.size<=blk
structure np (og:Option Nat) (w w':World):Prop where
 os:w'.os=w.os
 tape:w'.tape=w.tape
 output:w'.output=w.output
 size:w.heap.size<=w'.heap.size
 block:∀k,k<w.heap.size->og≠some k->w'.heap[k]?=w.heap[k]?
 cell:∀k o,k<w.heap.size->w'.cell? ⟨k,o,none⟩=w.cell? ⟨k,o,none⟩
def qn(w:World)(I:Nat->Nat->Prop)(e:Ty)(l:List e.den)(L:Option (Nat×Nat))(v:Value):Prop :=
 (L=none/\l=[]/\v=.slice none 0 0)\/∃c b f tid g,L=some (c,b)/\v=.slice (some ⟨c,0,none⟩) l.length b/\w.heap[c]?=some (.cells f tid g)/\LP e f g /\
  l.length<=b/\b<=maxLen/\f.size=b*e.size/\(∀o,¬I c o)/\∀(i:Nat) (x:e.den),l[i]?=some x->bg w I e x ((f.toList.drop<|i*e.size).take e.size)
structure Be (w:World) (I:Nat->Nat->Prop) (X:Nat->Prop) (w':World) (I':Nat->Nat->Prop):Prop where
 below:lg ⟨w.heap.size,X,nA⟩ w w'
 held:∀b o,I b o->I' b o
 lX:∀b o,I' b o->b<w'.heap.size
 mo:∀b o,I' b o->¬I b o->w.heap.size<=b
def GB(w:World)(I:Nat->Nat->Prop):List Bool->(A:Ty)->A.den->List Value->Prop
 | p::ps,.pair t r,x,f=>∃g v b,f=v::b/\bg w I t x.1 g/\GB w I ps r x.2 b/\match p with
   | false=>v=bX t g
   | true=>∃c e,v=.pointer (some ⟨c,e,none⟩)/\pd w I c e g
 | [],.unit,_,f=>f=[]
 | _,_,_,_=>False
def ko(P:Program)(f:Nat):IW->Prop
 | .NA T=>(∃fn h,P.funcs[f]?=some fn/\(fn.name == "runtime.NumGoroutine")=false/\fn.body=some h) /\
  ∀(w:World) (b:Nat) (p v:Value) (s:Nat×Nat),w.heap[b]?=some (.cells #[p,v] T s)->¬(s.1<=0/\0<s.2)->(p=.pointer none\/p=.pointer (some ⟨b,0,none⟩)) ->
   Calls P f #[.pointer<|some ⟨b,0,none⟩] w λe w'=>e=.returned (.tuple #[])/\(w'=w\/w'=w.setRow b #[.pointer<|some ⟨b,0,none⟩,v])
 | .str T E=>(∃fn h,P.funcs[f]?=some fn/\(fn.name == "runtime.NumGoroutine")=false/\fn.body=some h) /\
  ∀(w:World) (b:Nat) (p v:Value) (s:Nat×Nat) (l:aE) (D:Option Nat),w.heap[b]?=some (.cells #[p,v] T s) ->
   ((D=none/\v=.slice none 0 0/\l=[])\/∃(g cap:Nat) (cur:Array Value) (F:Nat×Nat),D=some g/\v=.slice (some ⟨g,0,none⟩) l.length cap/\w.heap[g]?=some (.cells cur E F)/\l.length<=cap/\cap<=maxLen/\cur.size=cap/\∀(j:Nat) (x:UInt8),l[j]?=some x->cur[j]?=some (Value.int .u8 x.toNat)) ->
   Calls P f #[.pointer<|some ⟨b,0,none⟩] w λe w'=>e=.returned (.string ⟨l.toArray⟩)/\np D w w'
 | .clone e=>(∃fn h,P.funcs[f]?=some fn/\(fn.name == "runtime.NumGoroutine")=false/\fn.body=some h) /\
  ∀(I:Nat->Nat->Prop) (w:World) (args:Array Value) (l:List e.den),(∀b o,I b o->b<w.heap.size)->fe w I (.pair (.slice e) .unit) (l,()) args.toList->fits (len l)=true ->
   Calls P f args w λq w'=>∃v r L,q=.returned v/\Be w I (λ_=>False) w' r/\qn w' r e l L v/\∀i c,L=some (i,c)->w.heap.size<=i
 | .own e A res spec=>(∃fn h,P.funcs[f]?=some fn/\(fn.name == "runtime.NumGoroutine")=false/\fn.body=some h) /\
  ∀(I:Nat->Nat->Prop) (w:World) (args:Array Value) (v:Value) (rest:List Value) (l z:List e.den) (L:Option (Nat×Nat)) (x:A.den),(∀b o,I b o->b<w.heap.size)->args.toList=v::rest->qn w I e l L v->fe w I A x rest->spec l x=some z ->
   Calls P f args w λq w'=>∃r,Be w I (λk=>∃c,L=some (k,c)) w' r /\
    match res with
    | true=>∃H J,q=.returned H/\qn w' r e z J H/\∀i c,J=some (i,c)->(∃c,L=some (i,c))\/w.heap.size<=i
    | false=>q=.returned (.tuple #[])/\z.length=l.length/\qn w' r e z L v
 | .p7 g=>(∃fn h,P.funcs[f]?=some fn/\(fn.name == "runtime.NumGoroutine")=false/\fn.body=some h) /\
  ∃T,∀(w:World) (v:Value),Calls P f #[v] w λq w'=>q=.returned (.func (.func g) #[] #[.pointer<|some ⟨w.heap.size,0,none⟩])/\w'=w.alloc (.cells v.cells T)
 | .Ni T=>(∃fn h,P.funcs[f]?=some fn/\(fn.name == "runtime.NumGoroutine")=false/\fn.body=some h) /\
  ∀(w:World) (b:Nat) (u:Value) (n:Int) (s:Nat×Nat),w.heap[b]?=some (.cells #[u,.int .i64 n] T s)->(u=.map none\/∃m o l,u=.map (some m)/\w.heap[m]?=some o/\uY o l) ->
   Calls P f #[.pointer<|some ⟨b,0,none⟩] w λq w'=>∃C t,q=.returned (.pointer<|some ⟨C.heap.size,0,none⟩)/\w'=C.alloc (.cells #[t,.int .i64 n] T)/\RowKit.Below w.heap.size w C /\
    ((u=.map none/\t=.map none)\/∃m o G K,u=.map (some m)/\w.heap[m]?=some o/\t=.map (some G)/\w.heap.size<=G/\C.heap[G]?=some K/\∀l,uY o l->uY K l)
 | .look ps A R spec=>(∃fn h,P.funcs[f]?=some fn/\(fn.name == "runtime.NumGoroutine")=false/\fn.body=some h)/\R.flat=true /\
  ∀(I:Nat->Nat->Prop) (w:World) (args:Array Value) (x:A.den) (y:R.den),(∀b o,I b o->b<w.heap.size)->GB w I ps A x args.toList->spec x=some y ->
   Calls P f args w λq w'=>∃v r,q=.returned v/\RowKit.Below w.heap.size w w'/\ij w' r R y v
structure jy (P:Program) (G:eg) (cx:Ctx):Prop where
 Cr:∀f c,find cx.Cr f=some c->Holds P G f c
 rX:∀f c,find cx.rX f=some c->aR P G (f / 2) c
 yT:∀f s,find cx.yT f=some s->ko P f s
 inv:∀name c,CK cx.inv name=some c->se P G name c
theorem tj{l:List Nat}{t:Nat}:bJ l t=true↔t∈l:=by
 induction l with
 | nil=>simp[bJ]
 | cons i r b =>
   simp only[bJ,wG,eR,b];constructor
   .rintro(h|h)
    .exact .inl (cG h)
    .exact .inr h
   .rintro(h|h)
    .subst h;exact .inl (by simp)
    .exact .inr h
theorem uC{l:List Nat}:wQ l=true↔l.Nodup:=by
 induction l with
 | nil=>simp[wQ]
 | cons b r c =>
   simp only[wQ,cA,fO,wH,c];constructor
   .rintro⟨h,k⟩;exact⟨λq=>(by rw[tj.2 q] at h;cases h),k⟩
   .rintro⟨h,k⟩;refine⟨?_,k⟩;cases e:bJ r b with
    | false=>rfl
    | true=>exact absurd (tj.1 e) h
theorem mh.len{w:World}{I:Nat->Nat->Prop}:∀{o:OT} {u:o.den} {cs:List Value} {b:List Nat} {ls:List (Option<|Nat×Nat)},mh w I o u cs b ls->b.length=o.nr/\ls.length=o.nb:=by
 intro o;induction o with
 | bW t=>intro u cs b ls h;rw[h.2.1,h.2.2];exact⟨rfl,rfl⟩
 | buf e m=>intro u cs b ls h;obtain⟨L,v,_,rfl,rfl,_⟩:=h;exact⟨rfl,rfl⟩
 | map=>intro u cs b ls h;obtain⟨L,v,_,rfl,rfl,_⟩:=h;exact⟨rfl,rfl⟩
 | ref tid o f =>
   intro u cs b ls h;obtain⟨g,r,_,rfl,_,i,n,s,_,_,_,c⟩:=h;have:=f c;exact⟨by simp[OT.nr,this.1],this.2⟩
 | rf tid o f =>
   intro u cs b ls h;obtain⟨g,k,r,_,rfl,_,i,n,s,_,_,_,c⟩:=h;have:=f c;exact⟨this.1,by simp[OT.nb,this.2]⟩
 | pair p q j l =>
   intro u cs b ls h;obtain⟨y,z,A,C,D,E,_,rfl,rfl,c,x⟩:=h;have:=j c;have:=l x;simp_all[OT.nr,OT.nb]
 | unit=>intro u cs b ls h;rw[h.2.1,h.2.2];exact⟨rfl,rfl⟩
 | cB=>intro u cs b ls h;rw[h.2.1,h.2.2];exact⟨rfl,rfl⟩
def tk(c:Nat->Option aS):(o:OT)->o.den->List (Nat×Nat)->List (Nat×Nat)->Prop
 | .bW _,_,_,_=>True
 | .buf e f,l,_,M=>∃b v r,M=(b,v)::r/\c b=some { val:=.data (.slice e) l,tid:=f,buf:=true,ro:=false,lk:=false,au:=v }
 | .map,l,_,M=>∃b v r,M=(b,v)::r/\c b=some { val:=.ju l,tid:=0,buf:=true,ro:=false,lk:=false,au:=v }
 | .ref tid o,u,N,M=>∃b v r,N=(b,v)::r/\c b=some { val:=ru o u r M,tid,buf:=false,ro:=false,lk:=false,au:=v }/\tk c o u r M
 | .rf tid o,u,N,M=>∃b v r,M=(b,v)::r/\c b=some { val:=ru o u N r,tid,buf:=false,ro:=false,lk:=false,au:=v }/\tk c o u N r
 | .pair p q,u,N,M=>tk c p u.1 (N.take p.nr) (M.take p.nb)/\tk c q u.2 (N.drop p.nr) (M.drop p.nb)
 | .unit,_,_,_=>True
 | .cB,_,_,_=>True
theorem iI:∀{o:OT} {u:o.den} {N M:List (Nat×Nat)} {c:Nat} {f:aS},dF o u N M c=some f->c∈aF N M:=by
 intro o;induction o with
 | bW t=>intro u N M c f h;cases h
 | buf e l =>
   intro u N M c f h;cases M with
   | nil=>cases h
   | cons p r =>
     unfold dF at h;cases b:Nat.beq c p.1 with
     | true=>rw[cG b];simp[aF]
     | false=>dsimp only at h;rw[b] at h;cases h
 | map =>
   intro u N M c f h;cases M with
   | nil=>cases h
   | cons p r =>
     unfold dF at h;cases b:Nat.beq c p.1 with
     | true=>rw[cG b];simp[aF]
     | false=>dsimp only at h;rw[b] at h;cases h
 | ref tid o i =>
   intro u N M c f h;cases N with
   | nil=>cases h
   | cons p r =>
     unfold dF at h;cases b:Nat.beq c p.1 with
     | true=>rw[cG b];simp[aF]
     | false =>
       dsimp only at h;rw[b] at h;have:=i h;unfold aF at this⊢;simp only[fY,wF,eR];exact .inr this
 | rf tid o i =>
   intro u N M c f h;cases M with
   | nil=>cases h
   | cons p r =>
     unfold dF at h;cases b:Nat.beq c p.1 with
     | true=>rw[cG b];simp[aF]
     | false =>
       dsimp only at h;rw[b] at h;have:=i h;unfold aF at this⊢;simp only[fY,lW,eR] at this⊢;rcases this with q|q
       .exact .inl q
       .exact .inr (.inr q)
 | pair p q j k =>
   intro u N M c f h;unfold dF at h;have hs:∀{n m:Nat},(c∈aF (N.take n) (M.take m)->c∈aF N M)/\(c∈aF (N.drop n) (M.drop m)->c∈aF N M):=by
    intro n m;unfold aF;simp only[lW,lY];constructor
    .rintro(⟨a,g,rfl⟩|⟨a,g,rfl⟩)
     .exact .inl ⟨a,I7 g,rfl⟩
     .exact .inr ⟨a,I7 g,rfl⟩
    .rintro(⟨a,g,rfl⟩|⟨a,g,rfl⟩)
     .exact .inl ⟨a,Jk g,rfl⟩
     .exact .inr ⟨a,Jk g,rfl⟩
   split at h
   .rename_i x s;exact hs.1 (j s)
   .exact hs.2 (k h)
 | unit=>intro u N M c f h;cases h
 | cB=>intro u N M c f h;cases h
theorem HC{c:Nat->Option aS}{t:Ty}{v:ax}{x:t.den}{b:Value}(f:bw γ c w v .val [b])(h:toD t v=some x):∃g,bg w γ.I t x g/\b=bX t g:=by
 unfold toD at h;split at h
 .rename_i u y;obtain⟨q,i⟩:=Ty.fZ h;subst q;subst i;exact cH.1 f
 .split at h
  .rename_i e;obtain rfl:=aq h;obtain rfl:b=_:=by simpa [bw] using f
   exact⟨[.slice none 0 0],.inl ⟨⟨none,rfl⟩,rfl⟩,rfl⟩
  .cases h
 .cases h
theorem C6{t:Ty}{v:ax}{x:t.den}(h:toS t v=some x):v=.data t x:=by
 unfold toS at h;split at h
 .obtain⟨q,b⟩:=Ty.fZ h;subst q;subst b;rfl
 .cases h
theorem C7{s:Nat->Option aS}:∀{o:OT} {u:o.den} {N M:List (Nat×Nat)},N.length=o.nr->M.length=o.nb->(aF N M).Nodup->(∀c g,dF o u N M c=some g->s c=some g)->tk s o u N M:=by
 intro o;induction o with
 | bW t=>intro u N M _ _ _ _;trivial
 | buf e Q =>
   intro u N M _ i _ h;cases M with
   | nil=>cases i
   | cons p r=>exact⟨p.1,p.2,r,rfl,h p.1 _ (by unfold dF;dsimp only;rw[uf];rfl)⟩
 | map =>
   intro u N M _ i _ h;cases M with
   | nil=>cases i
   | cons p r=>exact⟨p.1,p.2,r,rfl,h p.1 _ (by unfold dF;dsimp only;rw[uf];rfl)⟩
 | ref tid o D =>
   intro u N M m i f h;cases N with
   | nil=>cases m
   | cons p r =>
     refine⟨p.1,p.2,r,rfl,h p.1 _ (by unfold dF;dsimp only;rw[uf];rfl),D (by simpa [OT.nr] using m) i ?_ λc g j=>?_⟩
     .unfold aF at f⊢;simp only[fY,wF,wH] at f;exact f.2
     .refine h c g ?_;have l:Nat.beq c p.1=false:=by
       cases v:Nat.beq c p.1 with
       | false=>rfl
       | true =>
         have n:=iI j;rw[cG v] at n;unfold aF at f n;simp only[fY,wF,wH] at f;exact absurd n f.1
      unfold dF;dsimp only;rw[l];exact j
 | rf tid o D =>
   intro u N M m i f h;cases M with
   | nil=>cases i
   | cons p r =>
     have z:p.1∉aF N r/\(aF N r).Nodup:=by
      unfold aF at f⊢;simp only[fY] at f;rw[wE] at f;obtain⟨E,A,H⟩:=f;rw[wH] at A;refine⟨λq=>?_,wE.2 ⟨E,A.2,λx R y S=>H x R y (kJ _ S)⟩⟩;rcases lW.1 q with q|q
      .exact H p.1 q p.1 (kQ ..) rfl
      .exact A.1 q
     refine⟨p.1,p.2,r,rfl,h p.1 _ (by unfold dF;dsimp only;rw[uf];rfl),D m (by simpa [OT.nb] using i) z.2 λc g j=>?_⟩;refine h c g ?_;have l:Nat.beq c p.1=false:=by
      cases v:Nat.beq c p.1 with
      | false=>rfl
      | true =>
        have n:=iI j;rw[cG v] at n;exact absurd n z.1
     unfold dF;dsimp only;rw[l];exact j
 | pair p q F G =>
   intro u N M m i f h;have T:N.take p.nr++N.drop p.nr=N:=vt ..;have U:M.take p.nb++M.drop p.nb=M:=vt ..;simp only[OT.nr,OT.nb] at m i;have k:((N.take p.nr).map (·.1)++(N.drop p.nr).map (·.1)++((M.take p.nb).map (·.1)++(M.drop p.nb).map (·.1))).Nodup:=by
    rw[<-oY,<-oY,T,U];exact f
   have E:(aF (N.take p.nr)<|M.take p.nb).Nodup:=by
    unfold aF;refine k.sublist ?_;exact List.Sublist.append (M7 _ _) (M7 _ _)
   have A:(aF (N.drop p.nr)<|M.drop p.nb).Nodup:=by
    unfold aF;refine k.sublist ?_;exact List.Sublist.append (M5 _ _) (M5 _ _)
   have C:∀c,c∈aF (N.take p.nr) (M.take p.nb)->c∉aF (N.drop p.nr) (M.drop p.nb):=by
    intro c I J;unfold aF at I J;rw[wE] at k;obtain⟨K,L,O⟩:=k;rw[wE] at K L;rcases lW.1 I with a|a<;>rcases lW.1 J with b|b
    .exact K.2.2 c a c b rfl
    .exact O c (iw _ a) c (pR _ b) rfl
    .exact O c (pR _ b) c (iw _ a) rfl
    .exact L.2.2 c a c b rfl
   refine⟨F (by rw[fj];omega) (by rw[fj];omega) E λc g j=>h c g ?_,G (by rw[mJ];omega) (by rw[mJ];omega) A λc g j=>h c g ?_⟩
   .show(match dF p u.1 (N.take p.nr) (M.take p.nb) c with|some x=>some x|none=>_)=some g
    rw[j]
   .show(match dF p u.1 (N.take p.nr) (M.take p.nb) c with|some x=>some x|none=>dF q u.2 (N.drop p.nr) (M.drop p.nb) c)=some g
    cases v:dF p u.1 (N.take p.nr) (M.take p.nb) c with
    | none=>exact j
    | some x=>exact absurd (iI j) (C c<|iI v)
 | unit=>intro u N M _ _ _ _;trivial
 | cB=>intro u N M _ _ _ _;trivial
def fo(γ:Gh)(N:List (Nat×Nat))(b:List Nat):Prop:=N.map (λp=>(γ.loc p.1).map (·.1))=b.map some
def ik(γ:Gh)(M:List (Nat×Nat))(b:List (Option<|Nat×Nat)):Prop:=M.map (λp=>γ.loc p.1)=b
theorem fo.split{N:List (Nat×Nat)}{b c:List Nat}{n:Nat}(h:fo γ N (b++c))(e:b.length=n):fo γ (N.take n) b/\fo γ (N.drop n) c:=by
 unfold fo at h⊢;rw[Jw,List.map_drop,h,oY,CC (by simp[e]),zT (by simp[e])];exact⟨rfl,rfl⟩
theorem ik.split{M:List (Nat×Nat)}{b c:List (Option<|Nat×Nat)}{n:Nat}(h:ik γ M (b++c))(e:b.length=n):ik γ (M.take n) b/\ik γ (M.drop n) c:=by
 unfold ik at h⊢;rw[Jw,List.map_drop,h,CC e,zT e];exact⟨rfl,rfl⟩
theorem J3.rep{j:Nat->Option aS}{e:Ty}{n:Nat}{l:List e.den}{L:Option (Nat×Nat)}{v:Value}{b k:Nat}{bx:aS}(h:J3 w γ.I e n l L v)
  (f:γ.loc b=L) (s:j b=some bx) (g:bx.au=k) (c:bx.buf=true) (i:bx.val=.data (.slice e) l):bw γ j w (.whole b k) .cells [v]:=by
 rcases h.2 with ⟨o,p,q⟩|⟨m,r,t,tid,u,o,p,q,x,y,z,A,C,D⟩
 .exact⟨⟨v,rfl,by rw[q];rfl⟩,bN s g ⟨e,l.length,c,aS.ck c i,.inl ⟨by rw[<-o];exact f,by rw[q]⟩⟩⟩
 .exact⟨⟨v,rfl,by rw[p];rfl⟩,bN s g ⟨e,l.length,c,aS.ck c i,.inr ⟨m,r,by rw[<-o];exact f,by rw[p]⟩⟩⟩
theorem xu.rep{g:Nat->Option aS}{l:List (Int×Int×ah)}{L:Option (Nat×Nat)}{v:Value}{b i:Nat}{bx:aS}(h:xu w γ.I l L v)
  (c:γ.loc b=L) (q:g b=some bx) (e:bx.au=i) (f:bx.buf=true):bw γ g w (.kM b i) .cells [v]:=by
 rcases h with ⟨k,m,n⟩|⟨j,p,o,k,m,n,r,s⟩
 .exact⟨⟨v,rfl,by rw[n];rfl⟩,bN q e ⟨f,.inl ⟨by rw[<-k];exact c,by rw[n]⟩⟩⟩
 .exact⟨⟨v,rfl,by rw[m];rfl⟩,bN q e ⟨f,.inr ⟨j,p,by rw[<-k];exact c,by rw[m]⟩⟩⟩
theorem Bf{n:Nat->Option aS}:∀{o:OT} {u:o.den} {cs:List Value} {f:List Nat} {ls:List (Option<|Nat×Nat)} {N M:List (Nat×Nat)},mh w γ.I o u cs f ls->fo γ N f->ik γ M ls->tk n o u N M ->
  bw γ n w (ru o u N M) .cells cs:=by
 intro o;induction o with
 | bW t=>intro u cs f ls N M h _ _ _;exact h.1
 | buf e A =>
   intro u cs f ls N M h j c g;obtain⟨L,v,rfl,rfl,rfl,i⟩:=h;obtain⟨b,s,r,rfl,l⟩:=g;unfold ik at c;simp only[fY,yY] at c;exact i.rep c.1 l rfl rfl rfl
 | map =>
   intro u cs f ls N M h j c g;obtain⟨L,v,rfl,rfl,rfl,i⟩:=h;obtain⟨b,s,r,rfl,l⟩:=g;unfold ik at c;simp only[fY,yY] at c;exact i.rep c.1 l rfl rfl
 | ref tid o C =>
   intro u cs f ls N M h j c g;obtain⟨m,r,rfl,rfl,_,x,D,E,_,_,_,i⟩:=h;obtain⟨b,s,F,rfl,l,_⟩:=g;unfold fo at j;simp only[fY,yY] at j;obtain⟨q,G,H⟩:=pS.1 j.1;refine⟨⟨_,rfl,rfl⟩,bN l rfl ⟨m,q.2,?_,rfl⟩⟩;rw[G,<-H]
 | rf tid o C =>
   intro u cs f ls N M h j c g;obtain⟨m,k,r,rfl,rfl,_,x,D,E,_,_,_,i⟩:=h;obtain⟨b,s,F,rfl,l,_⟩:=g;unfold ik at c;simp only[fY,yY] at c;exact⟨⟨_,rfl,rfl⟩,bN l rfl ⟨m,k,c.1,rfl⟩⟩
 | pair p q y z =>
   intro u cs f ls N M h j c g;obtain⟨J,K,T,U,V,W,rfl,rfl,rfl,i,O⟩:=h;obtain⟨Q,R⟩:=j.split i.len.1;obtain⟨m1,S⟩:=c.split i.len.2;exact⟨J,K,rfl,y i Q m1 g.1,z O R S g.2⟩
 | unit=>intro u cs f ls N M h _ _ _;rw[h.1];exact rfl
 | cB=>intro u cs f ls N M h _ _ _;rw[h.1];exact rfl
theorem Aa{T:Nat->Option aS}:∀{o:OT} {u:o.den} {cs:List Value} {A:List Nat} {ls:List (Option<|Nat×Nat)} {N M:List (Nat×Nat)},mh w γ.I o u cs A ls->fo γ N A->ik γ M ls->tk T o u N M ->
  ∀{c:Nat} {C:aS},dF o u N M c=some C->ca γ T w c C/\C.ro=false/\∀blk k,γ.loc c=some (blk,k)->blk∈bL A ls/\(∃x,w.heap[blk]?=some x)/\∀o,¬γ.I blk o:=by
 intro o;induction o with
 | bW t=>intro u cs A ls N M _ _ _ _ c C h;cases h
 | buf e Cq =>
   intro u cs A ls N M h z i G c C g;obtain⟨L,v,rfl,rfl,rfl,m⟩:=h;obtain⟨b,vr,r,rfl,hb⟩:=G;unfold ik at i;simp only[fY,yY] at i;unfold dF at g;dsimp only at g;cases H:Nat.beq c b with
   | false=>rw[H] at g;cases g
   | true =>
     rw[H] at g;obtain rfl:=cG H;obtain rfl:=aq g;refine⟨?_,rfl,λblk k j=>?_⟩
     .refine .inr ⟨e,u,rfl,m.1,?_⟩;rcases m.2 with ⟨l,J,D⟩|⟨f,E,y,tid,R,l,J,D,U,V,q6,q7,q8,q9,W⟩
      .exact .inl ⟨by rw[i.1];exact l,J⟩
      .exact .inr ⟨f,E,y,tid,R,by rw[i.1];exact l,D,U,V,q6,q7,q8,W⟩
     .rcases m.2 with ⟨l,J,D⟩|⟨f,E,y,tid,R,l,J,D,U,V,q6,q7,q8,q9,W⟩
      .rw[i.1,l] at j;cases j
      .rw[i.1,l] at j;obtain⟨rfl,rfl⟩:=b8 (aq j);exact⟨by simp[bL,l],⟨_,D⟩,q9⟩
 | map =>
   intro u cs A ls N M h z i G c C g;obtain⟨L,v,rfl,rfl,rfl,m⟩:=h;obtain⟨b,vr,r,rfl,hb⟩:=G;unfold ik at i;simp only[fY,yY] at i;unfold dF at g;dsimp only at g;cases H:Nat.beq c b with
   | false=>rw[H] at g;cases g
   | true =>
     rw[H] at g;obtain rfl:=cG H;obtain rfl:=aq g;refine⟨?_,rfl,λblk k j=>?_⟩
     .refine .inl ⟨u,rfl,?_⟩;rcases m with ⟨l,J,D⟩|⟨f,E,o,l,J,D,U,V⟩
      .exact .inl ⟨by rw[i.1];exact l,J⟩
      .exact .inr ⟨f,E,o,by rw[i.1];exact l,D,U⟩
     .rcases m with ⟨l,J,D⟩|⟨f,E,o,l,J,D,U,V⟩
      .rw[i.1,l] at j;cases j
      .rw[i.1,l] at j;obtain⟨rfl,rfl⟩:=b8 (aq j);exact⟨by simp[bL,l],⟨_,D⟩,V⟩
 | ref tid o ih =>
   intro u cs A ls N M h z i G c C g;obtain⟨blk,r,rfl,rfl,n,y,t',R,X,k2,k3,m⟩:=h;obtain⟨b,vr,r',rfl,hb,F⟩:=G;unfold fo at z;simp only[fY,yY] at z;obtain⟨q,H,he⟩:=pS.1 z.1;have Y:γ.loc b=some (blk,q.2):=by rw[H,<-he]
   unfold dF at g;dsimp only at g;cases s:Nat.beq c b with
   | false =>
     rw[s] at g;obtain⟨O,Q,K⟩:=ih m z.2 i F g;refine⟨O,Q,λf k j=>?_⟩;obtain⟨S,j2⟩:=K f k j;refine⟨?_,j2⟩;unfold bL at S⊢;exact kJ _ S
   | true =>
     rw[s] at g;obtain rfl:=cG s;obtain rfl:=aq g;refine⟨?_,rfl,λf k j=>?_⟩
     .unfold ca;exact⟨blk,q.2,y,t',R,Y,X,k2,k3,Bf m z.2 i F⟩
     .rw[Y] at j;obtain⟨rfl,rfl⟩:=b8 (aq j);exact⟨by simp[bL],⟨_,X⟩,n⟩
 | rf tid o ih =>
   intro u cs A ls N M h z i G c C g;obtain⟨blk,k0,r,rfl,rfl,n,y,t',R,X,k2,k3,m⟩:=h;obtain⟨b,vr,r',rfl,hb,F⟩:=G;unfold ik at i;simp only[fY,yY] at i;unfold dF at g;dsimp only at g;cases s:Nat.beq c b with
   | false =>
     rw[s] at g;obtain⟨O,Q,K⟩:=ih m z i.2 F g;refine⟨O,Q,λf k j=>?_⟩;obtain⟨S,j2⟩:=K f k j;refine⟨?_,j2⟩;unfold bL at S⊢;simp only[List.filterMap_cons,sI,lW,eR] at S⊢;rcases S with q|q
     .exact .inl q
     .exact .inr (.inr q)
   | true =>
     rw[s] at g;obtain rfl:=cG s;obtain rfl:=aq g;refine⟨?_,rfl,λf k j=>?_⟩
     .unfold ca;exact⟨blk,k0,y,t',R,i.1,X,k2,k3,Bf m z i.2 F⟩
     .rw[i.1] at j;obtain⟨rfl,rfl⟩:=b8 (aq j);exact⟨by simp[bL],⟨_,X⟩,n⟩
 | pair p q P9 Qa =>
   intro u cs A ls N M h z i G c C g;obtain⟨c1,c2,b1,b2,l1,l2,rfl,rfl,rfl,m,h2⟩:=h;obtain⟨n1,n2⟩:=z.split m.len.1;obtain⟨m1,m2⟩:=i.split m.len.2;have Z:∀{blk},(blk∈bL b1 l1\/blk∈bL b2 l2)->blk∈bL (b1++b2) (l1++l2):=by
    intro blk;unfold bL;simp only[Nf,lW];rintro((a|a)|(a|a))
    .exact .inl (.inl a)
    .exact .inr (.inl a)
    .exact .inl (.inr a)
    .exact .inr (.inr a)
   unfold dF at g;split at g
   .rename_i x hx;obtain rfl:=aq g;obtain⟨O,Q,K⟩:=P9 m n1 m1 G.1 hx;exact⟨O,Q,λblk k j=>⟨Z<|.inl (K blk k j).1,(K blk k j).2⟩⟩
   .obtain⟨O,Q,K⟩:=Qa h2 n2 m2 G.2 g;exact⟨O,Q,λblk k j=>⟨Z<|.inr (K blk k j).1,(K blk k j).2⟩⟩
 | unit=>intro u cs A ls N M _ _ _ _ c C h;cases h
 | cB=>intro u cs A ls N M _ _ _ _ c C h;cases h
def Handed(c:Nat->Option aS)(p:Nat×Nat):Prop:=∃b,c p.1=some b/\b.au=p.2/\b.lk=false/\b.ro=false
theorem tl{e:Nat->Option aS}(h:aO B γ e w){b c k:Nat}{f:aS}(i:e b=some f)(g:f.ro=false)(j:γ.loc b=some (c,k))(o:Nat):¬γ.I c o:=λl=>by
 have:=(h.sep b f c k o i j l).1;rw[g] at this;cases this
theorem Ab{T:Nat->Option aS}(U:aO B γ T w):∀{o:OT} {v:ax} {cs:List Value} {u:o.den} {N M:List (Nat×Nat)},bw γ T w v .cells cs->bE T o v=some (u,N,M) ->
  ∃V,fo γ N V/\mh w γ.I o u cs V (M.map λp=>γ.loc p.1)/\∀p∈N++M,Handed T p:=by
 intro o;induction o with
 | bW t =>
   intro v cs u N M H h;unfold bE at h;split at h
   .rename_i x hx;obtain⟨rfl,q⟩:=b8 (aq h);obtain⟨rfl,rfl⟩:=b8 q;rw[C6 hx] at H;exact⟨[],rfl,⟨H,rfl,rfl⟩,λp A=>by cases A⟩
   .cases h
 | buf e Cq =>
   intro v cs u N M H h;unfold bE at h;split at h
   case h_2=>cases h
   rename_i b J;split at h
   case h_2=>cases h
   rename_i j G;cases f:(Nat.beq j.au J&&j.buf&&!j.lk&&!j.ro&&Nat.beq j.tid Cq&&Nat.blt 0 e.size) with
   | false=>rw[f] at h;cases h
   | true =>
     rw[f] at h;simp only[cA,fO] at f;obtain⟨⟨⟨⟨⟨c,s⟩,K⟩,C⟩,g⟩,W⟩:=f;have c:=cG c;have g:=cG g;have W:0<e.size:=by simpa using W
     simp only[cd] at h;split at h
     case h_2=>cases h
     rename_i t l0 D;split at h
     case h_2=>cases h
     rename_i l hl;obtain⟨rfl,q⟩:=b8 (aq h);obtain⟨rfl,rfl⟩:=b8 q;obtain⟨rfl,rfl⟩:=gh hl;obtain⟨v,rfl⟩:∃v,cs=[v]:=by obtain⟨⟨v,e,_⟩,_⟩:=H;exact⟨v,e⟩
     obtain⟨e',n,k1,k2,E⟩:=aC G c H.2;rw[aS.ck s D] at k2;obtain⟨rfl,rfl⟩:=b8 (aq k2);have m:=U.boxes b j G;obtain⟨t2,l2,F,a2,i⟩:=m.Hq s (λ_ q=>by rw[D] at q;cases q);rw[D] at F;injection F with F a4
     injection F with F
     subst F;obtain rfl:=eq_of_heq a4;refine⟨[],rfl,⟨γ.loc b,v,rfl,rfl,rfl,W,?_⟩,λp A=>?_⟩
     .rcases E with ⟨E,X⟩|⟨blk,L,E,X⟩
      .rcases i with ⟨i,Q⟩|⟨blk,L,R,tid,fr,i,_⟩
       .exact .inl ⟨i,Q,pY X⟩
       .rw[E] at i;cases i
      .rcases i with ⟨i,Q⟩|⟨S,CZ,R,tid,fr,i,Q,a6,a7,a8,a9,Sn,So⟩
       .rw[E] at i;cases i
       .rw[E] at i;obtain⟨rfl,rfl⟩:=b8 (aq i);exact .inr ⟨blk,L,R,tid,fr,E,pY X,Q,a6,by rw[<-g];exact a7,a8,a9,Sn,λo=>tl U G C E o,So⟩
     .simp only[rU,gD] at A;subst A;exact⟨j,G,c,K,C⟩
 | map =>
   intro v cs u N M H h;unfold bE at h;split at h
   case h_2=>cases h
   rename_i b J;split at h
   case h_2=>cases h
   rename_i j G;cases f:(Nat.beq j.au J&&j.buf&&!j.lk&&!j.ro) with
   | false=>rw[f] at h;cases h
   | true =>
     rw[f] at h;simp only[cA,fO] at f;obtain⟨⟨⟨c,s⟩,K⟩,C⟩:=f;have c:=cG c;simp only[cd] at h;split at h
     case h_2=>cases h
     rename_i l D;obtain⟨rfl,q⟩:=b8 (aq h);obtain⟨rfl,rfl⟩:=b8 q;obtain⟨v,rfl⟩:∃v,cs=[v]:=by obtain⟨⟨v,e,_⟩,_⟩:=H;exact⟨v,e⟩
     obtain⟨k1,E⟩:=aC G c H.2;have m:=U.boxes b j G;unfold ca at m;rw[s] at m;rcases m with ⟨l2,F,i⟩|⟨t2,l2,F,_⟩
     case inr=>rw[D] at F;cases F
     rw[D] at F;injection F with F
     subst F;refine⟨[],rfl,⟨γ.loc b,v,rfl,rfl,rfl,?_⟩,λp A=>?_⟩
     .rcases E with ⟨E,X⟩|⟨blk,L,E,X⟩
      .rcases i with ⟨i,Q⟩|⟨blk,L,o,i,_⟩
       .exact .inl ⟨i,Q,pY X⟩
       .rw[E] at i;cases i
      .rcases i with ⟨i,Q⟩|⟨S,CZ,o,i,Q,a6⟩
       .rw[E] at i;cases i
       .rw[E] at i;obtain⟨rfl,rfl⟩:=b8 (aq i);exact .inr ⟨blk,L,o,E,pY X,Q,a6,λo=>tl U G C E o⟩
     .simp only[rU,gD] at A;subst A;exact⟨j,G,c,K,C⟩
 | ref tid o ih =>
   intro v cs u N M H h;unfold bE at h;split at h
   case h_2=>cases h
   rename_i b J;split at h
   case h_2=>cases h
   rename_i j G;cases f:(Nat.beq j.au J&&!j.buf&&!j.lk&&!j.ro&&Nat.beq j.tid tid) with
   | false=>rw[f] at h;cases h
   | true =>
     rw[f] at h;simp only[cA,fO] at f;obtain⟨⟨⟨⟨c,s⟩,K⟩,C⟩,g⟩:=f;have c:=cG c;have g:=cG g;simp only[cd] at h;split at h
     case h_2=>cases h
     rename_i u1 N1 M1 O;obtain⟨rfl,q⟩:=b8 (aq h);obtain⟨rfl,rfl⟩:=b8 q;obtain⟨blk,k,Y,j2⟩:=aC G c H.2;simp only[b3] at j2;have m:=U.boxes b j G;unfold ca at m;rw[s] at m;obtain⟨S,L,R,t',fr,F,a2,i,a4,Q⟩:=m;rw[Y] at F;obtain⟨rfl,rfl⟩:=b8 (aq F);obtain⟨V,Z,g2,g3⟩:=ih Q O;refine⟨blk::V,?_,⟨blk,V,j2,rfl,λo=>tl U G C Y o,R,t',fr,a2,i,by rw[<-g];exact a4,g2⟩,λp A=>?_⟩
     .unfold fo at Z⊢;simp only[fY,Z,Y];rfl
     .rcases eR.1 (by simpa using A:p∈(b,J)::(N1++M1)) with rfl|A
      .exact⟨j,G,c,K,C⟩
      .exact g3 p A
 | rf tid o ih =>
   intro v cs u N M H h;unfold bE at h;split at h
   case h_2=>cases h
   rename_i b J;split at h
   case h_2=>cases h
   rename_i j G;cases f:(Nat.beq j.au J&&!j.buf&&!j.lk&&!j.ro&&Nat.beq j.tid tid) with
   | false=>rw[f] at h;cases h
   | true =>
     rw[f] at h;simp only[cA,fO] at f;obtain⟨⟨⟨⟨c,s⟩,K⟩,C⟩,g⟩:=f;have c:=cG c;have g:=cG g;simp only[cd] at h;split at h
     case h_2=>cases h
     rename_i u1 N1 M1 O;obtain⟨rfl,q⟩:=b8 (aq h);obtain⟨rfl,rfl⟩:=b8 q;obtain⟨blk,k,Y,j2⟩:=aC G c H.2;simp only[b3] at j2;have m:=U.boxes b j G;unfold ca at m;rw[s] at m;obtain⟨S,L,R,t',fr,F,a2,i,a4,Q⟩:=m;rw[Y] at F;obtain⟨rfl,rfl⟩:=b8 (aq F);obtain⟨V,Z,g2,g3⟩:=ih Q O;refine⟨V,Z,⟨blk,k,_,j2,by rw[fY,Y],λo=>tl U G C Y o,R,t',fr,a2,i,by rw[<-g];exact a4,g2⟩,λp A=>?_⟩;rcases lW.1 A with A|A
     .exact g3 p (iw _ A)
     .rcases eR.1 A with rfl|A
      .exact⟨j,G,c,K,C⟩
      .exact g3 p (pR _ A)
 | pair p q P9 Qa =>
   intro v cs u N M H h;unfold bE at h;split at h
   case h_2=>cases h
   rename_i a b;split at h
   case h_2=>cases h
   rename_i x N1 M1 y N2 M2 h1 h2;obtain⟨rfl,z⟩:=b8 (aq h);obtain⟨rfl,rfl⟩:=b8 z;obtain⟨c1,c2,rfl,v1,v2⟩:=H;obtain⟨b1,Z,g2,g3⟩:=P9 v1 h1;obtain⟨b2,k1,k2,E⟩:=Qa v2 h2;refine⟨b1++b2,?_,⟨c1,c2,b1,b2,M1.map λp=>γ.loc p.1,M2.map λp=>γ.loc p.1,rfl,rfl,by rw[oY],g2,k2⟩,λr O=>?_⟩
   .unfold fo at Z k1⊢;rw[oY,oY,Z,k1]
   .simp only[lW] at O;rcases O with (O|O)|(O|O)
    .exact g3 r (iw _ O)
    .exact E r (iw _ O)
    .exact g3 r (pR _ O)
    .exact E r (pR _ O)
 | unit =>
   intro v cs u N M H h;unfold bE at h;split at h
   case h_2=>cases h
   obtain⟨rfl,z⟩:=b8 (aq h);obtain⟨rfl,rfl⟩:=b8 z;exact⟨[],rfl,⟨H,rfl,rfl⟩,λp A=>by cases A⟩
 | cB =>
   intro v cs u N M H h;unfold bE at h;split at h
   case h_2=>cases h
   obtain⟨rfl,z⟩:=b8 (aq h);obtain⟨rfl,rfl⟩:=b8 z;exact⟨[],rfl,⟨H,rfl,rfl⟩,λp A=>by cases A⟩
theorem uD{g:Nat->Option aS}:∀{o:OT} {v:ax} {u:o.den} {N M:List (Nat×Nat)},bE g o v=some (u,N,M)->N.length=o.nr/\M.length=o.nb:=by
 intro o;induction o with
 | bW t =>
   intro v u N M h;unfold bE at h;split at h
   .obtain⟨_,q⟩:=b8 (aq h);obtain⟨rfl,rfl⟩:=b8 q;exact⟨rfl,rfl⟩
   .cases h
 | buf e i =>
   intro v u N M h;unfold bE at h;split at h
   case h_2=>cases h
   split at h
   case h_2=>cases h
   rename_i f j;cases c:(Nat.beq f.au _&&f.buf&&!f.lk&&!f.ro&&Nat.beq f.tid i&&Nat.blt 0 e.size) with
   | false=>rw[c] at h;cases h
   | true =>
     rw[c] at h;simp only[cd] at h;split at h
     case h_2=>cases h
     split at h
     case h_2=>cases h
     obtain⟨_,q⟩:=b8 (aq h);obtain⟨rfl,rfl⟩:=b8 q;exact⟨rfl,rfl⟩
 | map =>
   intro v u N M h;unfold bE at h;split at h
   case h_2=>cases h
   split at h
   case h_2=>cases h
   rename_i f j;cases c:(Nat.beq f.au _&&f.buf&&!f.lk&&!f.ro) with
   | false=>rw[c] at h;cases h
   | true =>
     rw[c] at h;simp only[cd] at h;split at h
     case h_2=>cases h
     obtain⟨_,q⟩:=b8 (aq h);obtain⟨rfl,rfl⟩:=b8 q;exact⟨rfl,rfl⟩
 | ref tid o k =>
   intro v u N M h;unfold bE at h;split at h
   case h_2=>cases h
   split at h
   case h_2=>cases h
   rename_i f j;cases c:(Nat.beq f.au _&&!f.buf&&!f.lk&&!f.ro&&Nat.beq f.tid tid) with
   | false=>rw[c] at h;cases h
   | true =>
     rw[c] at h;simp only[cd] at h;split at h
     case h_2=>cases h
     rename_i A r s l;obtain⟨_,q⟩:=b8 (aq h);obtain⟨rfl,rfl⟩:=b8 q;have:=k l;exact⟨by simp[OT.nr,this.1],this.2⟩
 | rf tid o k =>
   intro v u N M h;unfold bE at h;split at h
   case h_2=>cases h
   split at h
   case h_2=>cases h
   rename_i f j;cases c:(Nat.beq f.au _&&!f.buf&&!f.lk&&!f.ro&&Nat.beq f.tid tid) with
   | false=>rw[c] at h;cases h
   | true =>
     rw[c] at h;simp only[cd] at h;split at h
     case h_2=>cases h
     rename_i A r s l;obtain⟨_,q⟩:=b8 (aq h);obtain⟨rfl,rfl⟩:=b8 q;have:=k l;exact⟨this.1,by simp[OT.nb,this.2]⟩
 | pair p q m n =>
   intro v u N M h;unfold bE at h;split at h
   case h_2=>cases h
   split at h
   case h_2=>cases h
   rename_i x r s y E F C D;obtain⟨_,z⟩:=b8 (aq h);obtain⟨rfl,rfl⟩:=b8 z;have a:=m C;have b:=n D;simp[OT.nr,OT.nb,a.1,a.2,b.1,b.2]
 | unit =>
   intro v u N M h;unfold bE at h;split at h
   case h_2=>cases h
   obtain⟨_,z⟩:=b8 (aq h);obtain⟨rfl,rfl⟩:=b8 z;exact⟨rfl,rfl⟩
 | cB =>
   intro v u N M h;unfold bE at h;split at h
   case h_2=>cases h
   obtain⟨_,z⟩:=b8 (aq h);obtain⟨rfl,rfl⟩:=b8 z;exact⟨rfl,rfl⟩
def ax.NR:ax->Option (Ty×Nat)
 | .data (.arr n e) _=>some (e,n)
 | _=>none
theorem J4{b:aS}(h:b.buf=false):b.row=b.val.NR:=by
 unfold aS.row;rw[h];cases hv:b.val with
 | data t x=>cases t<;>rfl
 | _=>rfl
theorem EL{c:Nat->Option aS}{o:OT}{v:ax}{u y:o.den}{N M f b:List (Nat×Nat)}(h:bE c o v=some (u,N,M)):(ru o y f b).NR=v.NR:=by
 unfold bE at h;cases o with
 | bW t =>
   dsimp only at h;split at h
   .rename_i x g;rw[C6 g];cases t<;>rfl
   .cases h
 | buf e i =>
   dsimp only at h;split at h
   case h_2=>cases h
   cases b<;>rfl
 | map =>
   dsimp only at h;split at h
   case h_2=>cases h
   cases b<;>rfl
 | ref tid o =>
   dsimp only at h;split at h
   case h_2=>cases h
   cases f<;>rfl
 | rf tid o =>
   dsimp only at h;split at h
   case h_2=>cases h
   cases b<;>rfl
 | pair p q =>
   dsimp only at h;split at h
   case h_2=>cases h
   rfl
 | unit =>
   dsimp only at h;split at h
   case h_2=>cases h
   rfl
 | cB =>
   dsimp only at h;split at h
   case h_2=>cases h
   rfl
theorem Ac{A:Nat->Option aS}:∀{o:OT} {v:ax} {u y:o.den} {N M:List (Nat×Nat)} {c:Nat} {n:aS},bE A o v=some (u,N,M)->dF o y N (M.map λp=>(p.1,p.2+1)) c=some n ->
  (∃cx,(c,cx.au)∈N/\A c=some cx/\n.au=cx.au/\n.buf=cx.buf/\n.row=cx.row)\/∃cx,(c,cx.au)∈M/\A c=some cx/\n.au=cx.au+1:=by
 intro o;induction o with
 | bW t=>intro v u y N M c n _ h;cases h
 | buf e E =>
   intro v u y N M c n h j;unfold bE at h;split at h
   case h_2=>cases h
   rename_i b l;split at h
   case h_2=>cases h
   rename_i k C;cases f:(Nat.beq k.au l&&k.buf&&!k.lk&&!k.ro&&Nat.beq k.tid E&&Nat.blt 0 e.size) with
   | false=>rw[f] at h;cases h
   | true =>
     rw[f] at h;simp only[cA] at f;have i:=cG f.1.1.1.1.1;simp only[cd] at h;split at h
     case h_2=>cases h
     split at h
     case h_2=>cases h
     obtain⟨_,q⟩:=b8 (aq h);obtain⟨rfl,rfl⟩:=b8 q;unfold dF at j;simp only[fY,CH] at j;cases m:Nat.beq c b with
     | false=>rw[m] at j;cases j
     | true =>
       rw[m] at j;obtain rfl:=cG m;obtain rfl:=aq j;exact .inr ⟨k,by rw[i];simp,C,by rw[i]⟩
 | map =>
   intro v u y N M c n h j;unfold bE at h;split at h
   case h_2=>cases h
   rename_i b l;split at h
   case h_2=>cases h
   rename_i k C;cases f:(Nat.beq k.au l&&k.buf&&!k.lk&&!k.ro) with
   | false=>rw[f] at h;cases h
   | true =>
     rw[f] at h;simp only[cA] at f;have i:=cG f.1.1.1;simp only[cd] at h;split at h
     case h_2=>cases h
     obtain⟨_,q⟩:=b8 (aq h);obtain⟨rfl,rfl⟩:=b8 q;unfold dF at j;simp only[fY,CH] at j;cases m:Nat.beq c b with
     | false=>rw[m] at j;cases j
     | true =>
       rw[m] at j;obtain rfl:=cG m;obtain rfl:=aq j;exact .inr ⟨k,by rw[i];simp,C,by rw[i]⟩
 | ref tid o F =>
   intro v u y N M c n h j;unfold bE at h;split at h
   case h_2=>cases h
   rename_i b l;split at h
   case h_2=>cases h
   rename_i k C;cases f:(Nat.beq k.au l&&!k.buf&&!k.lk&&!k.ro&&Nat.beq k.tid tid) with
   | false=>rw[f] at h;cases h
   | true =>
     rw[f] at h;simp only[cA,fO] at f;have i:=cG f.1.1.1.1;simp only[cd] at h;split at h
     case h_2=>cases h
     rename_i L I J D;obtain⟨_,q⟩:=b8 (aq h);obtain⟨rfl,rfl⟩:=b8 q;unfold dF at j;dsimp only at j;cases m:Nat.beq c b with
     | false =>
       rw[m] at j;rcases F D j with ⟨cx,r,s⟩|g
       .exact .inl ⟨cx,kJ _ r,s⟩
       .exact .inr g
     | true =>
       rw[m] at j;obtain rfl:=cG m;obtain rfl:=aq j;refine .inl ⟨k,by rw[i];simp,C,i.symm,f.1.1.1.2.symm,?_⟩;rw[J4 f.1.1.1.2,J4 rfl];exact EL D
 | rf tid o F =>
   intro v u y N M c n h j;unfold bE at h;split at h
   case h_2=>cases h
   rename_i b l;split at h
   case h_2=>cases h
   rename_i k C;cases f:(Nat.beq k.au l&&!k.buf&&!k.lk&&!k.ro&&Nat.beq k.tid tid) with
   | false=>rw[f] at h;cases h
   | true =>
     rw[f] at h;simp only[cA,fO] at f;have i:=cG f.1.1.1.1;simp only[cd] at h;split at h
     case h_2=>cases h
     rename_i L I J D;obtain⟨_,q⟩:=b8 (aq h);obtain⟨rfl,rfl⟩:=b8 q;unfold dF at j;simp only[fY] at j;cases m:Nat.beq c b with
     | false =>
       rw[m] at j;rcases F D j with g|⟨cx,r,s⟩
       .exact .inl g
       .exact .inr ⟨cx,kJ _ r,s⟩
     | true =>
       rw[m] at j;obtain rfl:=cG m;obtain rfl:=aq j;exact .inr ⟨k,by rw[i];simp,C,by rw[i]⟩
 | pair p q G H =>
   intro v u y N M c n h j;unfold bE at h;split at h
   case h_2=>cases h
   split at h
   case h_2=>cases h
   rename_i x I J R S T K O;obtain⟨_,z⟩:=b8 (aq h);obtain⟨rfl,rfl⟩:=b8 z;have a:=uD K;unfold dF at j;rw[oY,CC a.1,zT a.1,CC (by simp[a.2]),zT (by simp[a.2])] at j;split at j
   .rename_i x Q;obtain rfl:=aq j;rcases G K Q with ⟨cx,r,s⟩|⟨cx,r,s⟩
    .exact .inl ⟨cx,iw _ r,s⟩
    .exact .inr ⟨cx,iw _ r,s⟩
   .rcases H O j with ⟨cx,r,s⟩|⟨cx,r,s⟩
    .exact .inl ⟨cx,pR _ r,s⟩
    .exact .inr ⟨cx,pR _ r,s⟩
 | unit=>intro v u y N M c n _ h;cases h
 | cB=>intro v u y N M c n _ h;cases h
theorem uE:∀{o:OT} {u:o.den} {N M:List (Nat×Nat)} {c:Nat},N.length=o.nr->M.length=o.nb->c∈aF N M->∃n,dF o u N M c=some n:=by
 intro o;induction o with
 | bW t =>
   intro u N M c f g b;rw[tY.1 f,tY.1 g] at b;cases b
 | buf e v =>
   intro u N M c f g b;rw[tY.1 f] at b
   match M,g,b with
   | [p],_,b =>
     have:c=p.1:=by simpa [aF] using b
     subst this;exact⟨_,by unfold dF;dsimp only;rw[uf];rfl⟩
 | map =>
   intro u N M c f g b;rw[tY.1 f] at b
   match M,g,b with
   | [p],_,b =>
     have:c=p.1:=by simpa [aF] using b
     subst this;exact⟨_,by unfold dF;dsimp only;rw[uf];rfl⟩
 | ref tid o j =>
   intro u N M c f g b;cases N with
   | nil=>cases f
   | cons p r =>
     unfold dF;dsimp only;cases i:Nat.beq c p.1 with
     | true=>exact⟨_,rfl⟩
     | false =>
       refine j (by simpa [OT.nr] using f) g ?_;unfold aF at b⊢;simp only[fY,wF,eR] at b;rcases b with rfl|b
       .rw[uf] at i;cases i
       .exact b
 | rf tid o j =>
   intro u N M c f g b;cases M with
   | nil=>cases g
   | cons p r =>
     unfold dF;dsimp only;cases i:Nat.beq c p.1 with
     | true=>exact⟨_,rfl⟩
     | false =>
       refine j f (by simpa [OT.nb] using g) ?_;unfold aF at b⊢;simp only[fY,lW,eR] at b⊢;rcases b with b|rfl|b
       .exact .inl b
       .rw[uf] at i;cases i
       .exact .inr b
 | pair p q k l =>
   intro u N M c f g b;simp only[OT.nr,OT.nb] at f g;have y:N.take p.nr++N.drop p.nr=N:=vt ..;have z:M.take p.nb++M.drop p.nb=M:=vt ..;unfold dF;cases i:dF p u.1 (N.take p.nr) (M.take p.nb) c with
   | some x=>exact⟨x,rfl⟩
   | none =>
     refine l (by rw[mJ];omega) (by rw[mJ];omega) ?_;have h:c∉aF (N.take p.nr) (M.take p.nb):=λm=>by
      obtain⟨n,s⟩:=k (u:=u.1) (by rw[fj];omega) (by rw[fj];omega) m;rw[i] at s;cases s
     unfold aF at b h⊢;rw[<-y,<-z,oY,oY] at b;simp only[lW] at b h⊢;rcases b with (b|b)|(b|b)
     .exact absurd (.inl b) h
     .exact .inl b
     .exact absurd (.inr b) h
     .exact .inr b
 | unit =>
   intro u N M c f g b;rw[tY.1 f,tY.1 g] at b;cases b
 | cB =>
   intro u N M c f g b;rw[tY.1 f,tY.1 g] at b;cases b
def eT:List (Nat×Nat)->List (Option<|Nat×Nat)->(Nat->Option (Nat×Nat))->Nat->Option (Nat×Nat)
 | (b,_)::M,L::ls,loc,c=>if c=b then L else eT M ls loc c
 | _,_,loc,c=>loc c
theorem sf{b:Nat->Option (Nat×Nat)}:∀{M:List (Nat×Nat)} {ls:List (Option<|Nat×Nat)} {c:Nat},c∉M.map (·.1)->eT M ls b c=b c:=by
 intro M;induction M with
 | nil=>intro ls c _;cases ls<;>rfl
 | cons p r e =>
   intro ls c h;cases ls with
   | nil=>rfl
   | cons L ls =>
     simp only[fY,eR,not_or] at h;unfold eT;rw[bp h.1];exact e h.2
theorem pr{loc:Nat->Option (Nat×Nat)}:∀{M:List (Nat×Nat)} {ls:List (Option<|Nat×Nat)},(M.map (·.1)).Nodup->M.length=ls.length->M.map (λp=>eT M ls loc p.1)=ls:=by
 intro M;induction M with
 | nil=>intro ls _ h;cases ls with|nil=>rfl|cons _ _=>cases h
 | cons p r f =>
   intro ls b h;cases ls with
   | nil=>cases h
   | cons L ls =>
     simp only[fY,wH] at b;have:r.map (λq=>eT (p::r) (L::ls) loc q.1)=ls:=by
      refine Eq.trans (Cv λq g=>?_) (f b.2<|by simpa using h);have c:q.1≠p.1:=λe=>b.1 (by rw[<-e];exact lY.2 ⟨q,g,rfl⟩);show(if q.1=p.1 then L else eT r ls loc q.1)=_
      rw[bp c]
     rw[fY,this];show(if p.1=p.1 then L else _)::ls=L::ls
     rw[bH rfl]
theorem uF{loc:Nat->Option (Nat×Nat)}{M:List (Nat×Nat)}{e:List (Option<|Nat×Nat)}(g:(M.map (·.1)).Nodup)(h:M.length=e.length){c:Nat}(j:c∈M.map (·.1)):∃i v:Nat,M[i]?=some (c,v)/\e[i]?=some (eT M e loc c):=by
 obtain⟨p,k,rfl⟩:=lY.1 j;obtain⟨i,f,b⟩:=Gi k;refine⟨i,p.2,by rw[nP f,b],?_⟩;have:=pr (loc:=loc) g h
 conv=>lhs;rw[<-this]
 rw[sH,nP f,b];rfl
theorem eK{U:OT}{y:U.den}{N M:List (Nat×Nat)}{b:St}{c:Nat}:(gG U y N M b).mem c=match dF U y N (M.map λp=>(p.1,p.2+1)) c with|some e=>some e|none=>b.mem c:=rfl
theorem mS{N M:List (Nat×Nat)}:aF N (M.map λp=>(p.1,p.2+1))=aF N M:=by
 unfold aF;rw[zX];rfl
theorem J5{c k m:Nat}:∀{l:List (Option<|Nat×Nat)} {i j:Nat},(l.filterMap λL=>L.map (·.1)).Nodup->l[i]?=some (some (c,k))->l[j]?=some (some (c,m))->i=j:=by
 intro l;induction l with
 | nil=>intro i j _ h;simp at h
 | cons L r u =>
   intro i j e n o;have g:∀(q s:Nat),r[q]?=some (some (c,s))->c∈r.filterMap λL=>L.map (·.1):=λq s v=>Hh.2 ⟨_,od v,rfl⟩;cases i with
   | zero =>
     cases j with
     | zero=>rfl
     | succ j =>
       obtain rfl:=aq (show some L=_ from n);rw[Gd (f:=λL:Option (Nat×Nat)=>L.map (·.1)) (a:=some (c,k)) (b:=c) rfl] at e;exact absurd (g j m<|by simpa using o) (wH.1 e).1
   | succ i =>
     cases j with
     | zero =>
       obtain rfl:=aq (show some L=_ from o);rw[Gd (f:=λL:Option (Nat×Nat)=>L.map (·.1)) (a:=some (c,m)) (b:=c) rfl] at e;exact absurd (g i k<|by simpa using n) (wH.1 e).1
     | succ j =>
       have p:(r.filterMap λL=>L.map (·.1)).Nodup:=by
        cases t:L.map (·.1) with
        | none=>rw[M8 t] at e;exact e
        | some q=>rw[Gd t] at e;exact(wH.1 e).2
       have:=u p (by simpa using n) (by simpa using o);omega
theorem aO.refs(h:aO B γ σ.mem w){U:OT}{V:ax}{u y:U.den}{N M:List (Nat×Nat)}{iy:List Value}{C:List Nat}{l:List (Option<|Nat×Nat)}(hr:bE σ.mem U V=some (u,N,M))(hd:(aF N M).Nodup)(hN:fo γ N C)
  (hH:∀p∈N++M,Handed σ.mem p) {G:eg} (hw:lg ⟨w.heap.size,(·∈bL C (M.map λp=>γ.loc p.1)),G⟩ w w') {K:Nat->Nat->Prop} (hI:∀b o,γ.I b o->K b o) (Qb:∀b o,K b o->b<w'.heap.size)
  (X:∀b o,K b o->¬γ.I b o->w.heap.size<=b\/b∈bL C (M.map λp=>γ.loc p.1)) (ha:mh w' K U y iy C l) (O:(bL C l).Nodup) (OV:∀f∈bL [] l,f∈bL C (M.map λp=>γ.loc p.1)\/w.heap.size<=f) :
  aO B ⟨K,eT M l γ.loc⟩ (gG U y N M σ).mem w'/\Ext B γ σ.mem w ⟨K,eT M l γ.loc⟩ (gG U y N M σ).mem w':=by
 have hlen:=uD hr;have PD:=ha.len;have Q:M.length=l.length:=by rw[hlen.2,PD.2]
 have R:(M.map (·.1)).Nodup:=by unfold aF at hd;exact(wE.1 hd).2.1
 have Qc:∀c,c∈N.map (·.1)->c∉M.map (·.1):=λc h1 h2=>by unfold aF at hd;exact(wE.1 hd).2.2 c h1 c h2 rfl
 have hold:∀f,f∈bL C (M.map λp=>γ.loc p.1)->∃b bx k,b∈aF N M/\σ.mem b=some bx/\bx.ro=false/\γ.loc b=some (f,k)/\(b∈N.map (·.1)->f∈C):=by
  intro f m;unfold bL at m;rcases lW.1 m with m|m
  .have:some f∈N.map λp=>(γ.loc p.1).map (·.1):=by rw[hN];exact lY.2 ⟨f,m,rfl⟩
   obtain⟨p,Y,S⟩:=lY.1 this;obtain⟨q,D,S⟩:=pS.1 S;obtain⟨bx,j1,j2,j3,j4⟩:=hH p (iw _ Y);exact⟨p.1,bx,q.2,iw _ (lY.2 ⟨p,Y,rfl⟩),j1,j4,by rw[D,<-S],λ_=>m⟩
  .obtain⟨L,hL,S⟩:=Hh.1 m;obtain⟨p,Y,rfl⟩:=lY.1 hL;obtain⟨q,D,S⟩:=pS.1 S;obtain⟨bx,j1,j2,j3,j4⟩:=hH p (pR _ Y);exact⟨p.1,bx,q.2,pR _ (lY.2 ⟨p,Y,rfl⟩),j1,j4,by rw[D,<-S],λQd=>absurd (lY.2 ⟨p,Y,rfl⟩) (Qc _ Qd)⟩
 have E:∀f∈bL C (M.map λp=>γ.loc p.1),B.has f/\f<w.heap.size:=λf m=>by
  obtain⟨b,bx,k,_,g2,_,g4,_⟩:=hold f m;exact h.fresh b f k (by rw[g2];simp) g4
 have OW:∀f∈bL C (M.map λp=>γ.loc p.1),∀o,¬γ.I f o:=λf m o=>by
  obtain⟨b,bx,k,_,g2,g3,g4,_⟩:=hold f m;exact tl h g2 g3 g4 o
 have t:∀k,k<w.heap.size->k∉bL C (M.map λp=>γ.loc p.1)->w'.heap[k]?=w.heap[k]?:=λk hk m=>hw.block k λq=>by
  rcases q with q|q
  .have:w.heap.size<=k:=q;omega
  .exact m q
 have Qe:∀k,¬B.has k->k<w.heap.size:=λk hk=>Gl λq=>hk (.inl<|iA h.base q);have Sp:fo ⟨K,eT M l γ.loc⟩ N C:=by
  unfold fo at hN⊢;rw[<-hN];refine Cv λp Y=>?_;show(eT M l γ.loc p.1).map _=_
  rw[sf<|Qc p.1<|lY.2 ⟨p,Y,rfl⟩]
 have Sq:ik ⟨K,eT M l γ.loc⟩ (M.map λp=>(p.1,p.2+1)) l:=by
  unfold ik;rw[zX];exact pr R Q
 have HD:tk (gG U y N M σ).mem U y N (M.map λp=>(p.1,p.2+1)) :=
  C7 hlen.1 (by rw[p5];exact hlen.2) (by rw[mS];exact hd) λc bx hc=>by rw[eK,hc]
 have F:∀{c bx},dF U y N (M.map λp=>(p.1,p.2+1)) c=some bx->_:=λ{c bx} hc=>Aa (γ:=⟨K,eT M l γ.loc⟩) ha Sp Sq HD hc;have z:∀{c},dF U y N (M.map λp=>(p.1,p.2+1)) c=none->c∉aF N M:=λ{c} hc D=>by
  obtain⟨bx,m⟩:=uE (u:=y) (M:=M.map λp=>(p.1,p.2+1)) hlen.1 (by rw[p5];exact hlen.2) (by rw[mS];exact D);rw[hc] at m;cases m
 have r:∀{c},c∉M.map (·.1)->eT M l γ.loc c=γ.loc c:=λhc=>sf hc;have H:∀c,(gG U y N M σ).mem c≠none->σ.mem c≠none:=by
  intro c hc D;apply hc;rw[eK];cases hv:dF U y N (M.map λp=>(p.1,p.2+1)) c with
  | none=>exact D
  | some bx =>
    rcases Ac hr hv with ⟨cx,_,g,_⟩|⟨cx,_,g,_⟩
    .rw[D] at g;cases g
    .rw[D] at g;cases g
 have hx:Ext B γ σ.mem w ⟨K,eT M l γ.loc⟩ (gG U y N M σ).mem w' :=
  { below:=⟨hw.os,hw.tape,hw.output,hw.size,λk hk=>t k (Qe k hk) λm=>hk (E k m).1⟩
    I:=hI
    mo:=λb o x=>by
     by_cases Z:γ.I b o
     .exact .inl Z
     .rcases X b o x Z with q|q
      .exact .inr (.inl<|iA h.base q)
      .exact .inr (E b q).1
    cells:=λb o Z=>dU (t b (h.lX b o Z) λm=>OW b m o Z)
    boxes:=λc cx hc=>by
     rw[eK];cases hv:dF U y N (M.map λp=>(p.1,p.2+1)) c with
     | none=>exact⟨cx,hc,cU _,λ_=>⟨r λq=>z hv (pR _ q),rfl,rfl⟩⟩
     | some bx =>
       rcases Ac hr hv with ⟨Rk,g1,g2,g3,g4,g5⟩|⟨Rk,g1,g2,g3⟩
       .rw[hc] at g2;obtain rfl:=aq g2;exact⟨bx,rfl,yZ g3.symm,λ_=>⟨r<|Qc c<|lY.2 ⟨_,g1,rfl⟩,g4,g5⟩⟩
       .rw[hc] at g2;obtain rfl:=aq g2;exact⟨bx,rfl,by omega,λe=>by omega⟩ }
 have Rl:∀{c f k},c∈M.map (·.1)->eT M l γ.loc c=some (f,k)->f∈bL [] l:=λ{c f k} hc S=>by
  obtain⟨i,v,h1,h2⟩:=uF (loc:=γ.loc) R Q hc;rw[S] at h2;unfold bL;exact pR _ (Hh.2 ⟨_,od h2,rfl⟩)
 have J:∀{c d f k k'},c∈M.map (·.1)->σ.mem d≠none->eT M l γ.loc c=some (f,k)->eT M l γ.loc d=some (f,k')->c=d:=by
  intro c d f k k' hc Rm e1 e2;have m:=Rl hc e1;by_cases s:d∈M.map (·.1)
  .obtain⟨i,v,i1,i2⟩:=uF (loc:=γ.loc) R Q hc;obtain⟨j,v',j1,j2⟩:=uF (loc:=γ.loc) R Q s;rw[e1] at i2;rw[e2] at j2;have PC:(l.filterMap λL=>L.map (·.1)).Nodup:=by unfold bL at O;exact(wE.1 O).2.1
   have Sr:i=j:=by
    exact J5 PC i2 j2
   subst Sr;rw[i1] at j1;exact(b8<|aq j1).1
  .rw[r s] at e2;have Qf:=(h.fresh d f k' Rm e2).2;rcases OV f m with D|D
   .obtain⟨n,bx,kn,n1,n2,n3,n4,n5⟩:=hold f D;have Qg:=h.inj n d f kn k' (by rw[n2];simp) Rm n4 e2;subst Qg;unfold aF at n1;rcases lW.1 n1 with n1|n1
    .have h1:=n5 n1;unfold bL at O m;rw[rU] at m;exact absurd rfl ((wE.1 O).2.2 f h1 f m)
    .exact absurd n1 s
   .omega
 refine⟨?_,hx⟩;exact
  { bD:=h.sX hx
    base:=iA h.base hw.size
    boxes:=λc cx hc=>by
     rw[eK] at hc;cases hv:dF U y N (M.map λp=>(p.1,p.2+1)) c with
     | none =>
       rw[hv] at hc;replace hc:σ.mem c=some cx:=hc;have Ro:=z hv;refine(h.boxes c cx hc).keep hx (r λq=>Ro (pR _ q)) λf k T=>?_;refine t f (h.fresh c f k (by rw[hc];simp) T).2 λm=>?_;obtain⟨b,bx,k',g1,g2,g3,g4,_⟩:=hold f m;have:=h.inj c b f k k' (by rw[hc];simp) (by rw[g2];simp) T g4;subst this;exact Ro g1
     | some bx =>
       rw[hv] at hc;obtain rfl:=aq hc;exact(F hv).1
    inj:=λc d f k k' hc OX e1 e2=>by
     by_cases A:c∈M.map (·.1)
     .exact J A (H d OX) e1 e2
     .by_cases s:d∈M.map (·.1)
      .exact(J s (H c hc) e2 e1).symm
      .exact h.inj c d f k k' (H c hc) (H d OX) ((r A).symm.trans e1) ((r s).symm.trans e2)
    fresh:=λc f k hc T=>by
     by_cases A:c∈M.map (·.1)
     .have m:=Rl A T;obtain⟨bx,OY⟩:=uE (u:=y) (M:=M.map λp=>(p.1,p.2+1)) hlen.1 (by rw[p5];exact hlen.2) (by rw[mS];exact pR _ A);obtain⟨_,_,g⟩:=F OY;obtain⟨_,⟨x,NL⟩,_⟩:=g f k T;refine⟨?_,(oc.1 NL).1⟩;rcases OV f m with q|q
      .exact(E f q).1
      .exact .inl (iA h.base q)
     .have:=h.fresh c f k (H c hc) ((r A).symm.trans T);exact⟨this.1,rp this.2 hw.size⟩
    lX:=Qb
    sep:=λc cx f k W hc T Z=>by
     rw[eK] at hc;cases hv:dF U y N (M.map λp=>(p.1,p.2+1)) c with
     | some bx =>
       obtain⟨_,_,g⟩:=F hv;exact absurd Z ((g f k T).2.2 W)
     | none =>
       rw[hv] at hc;replace hc:σ.mem c=some cx:=hc;have NQ:γ.loc c=some (f,k):=(r λq=>z hv (pR _ q)).symm.trans T;by_cases PB:γ.I f W
       .exact h.sep c cx f k W hc NQ PB
       .have h2:=(h.fresh c f k (by rw[hc];simp) NQ).2;rcases X f W Z PB with h1|h1
        .omega
        .obtain⟨b,bx,k',g1,g2,g3,g4,_⟩:=hold f h1;have:=h.inj c b f k k' (by rw[hc];simp) (by rw[g2];simp) NQ g4;subst this;exact absurd g1 (z hv) }
theorem oE{c:Nat->Option aS}{p q:OT}{a b:ax}{x:p.den}{y:q.den}{N M e f:List (Nat×Nat)}(g:bE c p a=some (x,N,M))(h:bE c q b=some (y,e,f)):bE c (.pair p q) (.mix a b)=some ((x,y),N++e,M++f):=by
 simp only[bE,g,h];rfl
theorem zc:∀{ps:List Bool} {A:Ty} {U:OT} {g:List ax} {k:List Value} {x:A.den} {u:U.den} {N M:List (Nat×Nat)},gk γ σ.mem w g k->cV σ ps A U g=some (x,u,N,M) ->
  ∃V c,xv w γ.I ps A U x k c/\bw γ σ.mem w V .cells c/\bE σ.mem U V=some (u,N,M):=by
 intro ps;induction ps with
 | nil =>
   intro A U g k x u N M l h;cases A<;>first|(cases h;done)|skip
   cases U<;>first|(cases h;done)|skip
   cases g with
   | cons v r=>cases h
   | nil =>
     cases h;have hx:k=[]:=by have:=l.1;simpa using this
     exact⟨.data .unit (),[],⟨rfl,rfl,hx,rfl⟩,rfl,rfl⟩
 | cons p ps E =>
   intro A U g k x u N M l h;cases p with
   | false =>
     cases A<;>first|(cases h;done)|skip
     rename_i t A;cases g with
     | nil=>cases h
     | cons v r =>
       simp only[cV] at h;split at h
       .rename_i H F G Q D m;obtain⟨rfl,q⟩:=b8 (aq h);obtain⟨rfl,rfl⟩:=b8 q;obtain⟨e,f,rfl,n,s⟩:=l.cons;obtain⟨V,c,y,z,C⟩:=E s m;obtain⟨J,K,L⟩:=HC n D;exact⟨V,c,⟨J,f,by rw[L],K,y⟩,z,C⟩
       .cases h
   | true =>
     cases U<;>first|(cases h;done)|skip
     rename_i o U;cases o<;>first|(cases h;done)|skip
     case cB =>
      cases g with
      | nil=>cases h
      | cons v r =>
        cases v<;>first|(cases h;done)|skip
        simp only[cV] at h;split at h
        .rename_i F G q m;cases h;obtain⟨e,f,rfl,n,s⟩:=l.cons;obtain⟨V,c,y,z,C⟩:=E s m;exact⟨.mix .cB V,e::c,⟨e,f,c,rfl,rfl,y⟩,⟨[e],c,rfl,n,z⟩,oE (p:=.cB) (q:=U) (x:=()) (N:=[]) (M:=[]) rfl C⟩
        .cases h
     rename_i tid o;cases g with
     | nil=>cases h
     | cons v r =>
       simp only[cV] at h;split at h
       .rename_i H R S F G T W D m;cases h;obtain⟨e,f,rfl,n,s⟩:=l.cons;obtain⟨V,c,y,z,C⟩:=E s m;have O:∃b i,v=.ptr b i []:=by
         have j:=D;unfold bE at j;split at j
         .exact⟨_,_,rfl⟩
         .cases j
        obtain⟨b,i,rfl⟩:=O;exact⟨.mix (.ptr b i []) V,e::c,⟨e,f,c,rfl,rfl,y⟩,⟨[e],c,rfl,n,z⟩,by
         exact oE D C⟩
       .cases h
theorem Ad{f:Nat->Option aS}{N M:List (Nat×Nat)}{l:List Nat}(n:fo γ N l)(m:∀p∈N++M,Handed f p){blk:Nat}(e:blk∈bL l (M.map λp=>γ.loc p.1)):∃b k,(∃g,f b=some g)/\γ.loc b=some (blk,k):=by
 unfold bL at e;rcases lW.1 e with e|e
 .have:some blk∈N.map λp=>(γ.loc p.1).map (·.1):=by rw[n];exact lY.2 ⟨blk,e,rfl⟩
  obtain⟨p,h,c⟩:=lY.1 this;obtain⟨q,i,c⟩:=pS.1 c;obtain⟨g,j,_⟩:=m p (iw _ h);exact⟨p.1,q.2,⟨g,j⟩,by rw[i,<-c]⟩
 .obtain⟨L,o,c⟩:=Hh.1 e;obtain⟨p,h,rfl⟩:=lY.1 o;obtain⟨q,i,c⟩:=pS.1 c;obtain⟨g,j,_⟩:=m p (pR _ h);exact⟨p.1,q.2,⟨g,j⟩,by rw[i,<-c]⟩
theorem EM{c:Nat->Option aS}(m:aO B γ c w):∀{l:List (Nat×Nat)},(l.map (·.1)).Nodup->(∀p∈l,Handed c p)->(l.filterMap λp=>(γ.loc p.1).map (·.1)).Nodup:=by
 intro l;induction l with
 | nil=>intro _ _;exact List.nodup_nil
 | cons p r n =>
   intro e g;simp only[fY,wH] at e;have k:=n e.2 λq b=>g q (kJ _ b);cases h:(γ.loc p.1).map (·.1) with
   | none=>rw[M8 (f:=λp:Nat×Nat=>(γ.loc p.1).map (·.1)) h];exact k
   | some blk =>
     rw[Gd (f:=λp:Nat×Nat=>(γ.loc p.1).map (·.1)) h,wH];refine⟨λb=>?_,k⟩;obtain⟨q,b,o⟩:=Hh.1 b;obtain⟨x,s,i⟩:=pS.1 h;obtain⟨z,t,j⟩:=pS.1 o;obtain⟨y,u,_⟩:=g p (kQ ..);obtain⟨A,v,_⟩:=g q (kJ _ b);have:=m.inj p.1 q.1 blk x.2 z.2 (by rw[u];simp) (by rw[v];simp) (by rw[s,<-i]) (by rw[t,<-j]);exact e.1 (by rw[this];exact lY.2 ⟨q,b,rfl⟩)
theorem vc{b:Nat->Option aS}(f:aO B γ b w){N M:List (Nat×Nat)}{c:List Nat}(g:fo γ N c)(i:∀p∈N++M,Handed b p)(j:(aF N M).Nodup):(bL c<|M.map λp=>γ.loc p.1).Nodup:=by
 have h:=EM f (l:=N++M) (by rw[oY];exact j) i;have e:((N++M).filterMap λp=>(γ.loc p.1).map (·.1))=bL c (M.map λp=>γ.loc p.1):=by
  unfold bL;rw[Nf,Jn]
  congr 1
  have k:(N.filterMap λp=>(γ.loc p.1).map (·.1))=(N.map λp=>(γ.loc p.1).map (·.1)).filterMap id:=by rw[Jn];rfl
  rw[k,g,Jn];exact List.filterMap_some
 rw[<-e];exact h
end
end Go.Ge
