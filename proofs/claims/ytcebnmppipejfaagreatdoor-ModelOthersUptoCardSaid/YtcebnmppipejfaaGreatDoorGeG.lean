import Derived.Test.YtcebnmppipejfaaGreatDoorGeF
import Derived.Scope
import Derived.Laws.Sem
set_option linter.unusedVariables false
set_option linter.unusedSimpArgs false
set_option linter.unusedSectionVars false
set_option linter.defProp false
open Option renaming some->ab,none->ah
namespace Go.Ge
open RowKit
section
variable {P:Program} {B:BA} {N:Nat} {γ:Gh} {cx:Ctx} {nb:Nat} {bf:List Nat} {inl:Nat->List cB->St->Tree (cB×St)} {σ aY:St} {ops:Array Oper} {fp:Nat->Fp}
def aem{b:St}{d v}(h:b.br d=v):b.put d v=b:=by
 unfold St.put
 congr 1
 funext t;cases c:Nat.beq t d with
 | true=>obtain rfl:=iT c;exact h.symm
 | false=>rfl
def agU(d:Ctx)(g:Nat)(h:List Nat)(inl:Nat->List cB->St->Tree (cB×St))(b:Array Oper)(c:Nat->Fp):Nat->List Oper->Gst->Gst->Prop
 | _,[],s,s'=>s=s'
 | k,o::l,s,s'=>(((c k).KF=false->UJ d g o (c k))/\((c k).KF=true->(c k).wr=[]))/\(∀e∈o.after,Region.binds .any e=true->e.on<k) /\
  (∀j i,l[j]?=ab i->Reach b (k+1+j) k\/BR b k (k+1+j) o i (c k) (c<|k+1+j)=true) /\
  ∃m,pG d g h inl b (c k) k o s=ab m/\agU d g h inl b c (k+1) l m s'
def I8{i o f b k m mk ok r}(h:Eu ops i o f m ((k,ok,b,mk)::r)=true):(Nat.testBit m k=true\/BR ops k i ok o b f=true)/\Eu ops i o f m r=true:=by
 simp only[Eu,gy,Fs] at h;exact h
def Mp{i o r done d}(h:(xQ cx nb bf inl ops ((i,o)::r) done σ d).run=ab aY) :
  ∃l,Eu ops i o (BP cx nb o σ) (mask done o) done=true/\(∀e∈o.after,Region.binds .any e=true->e.on<i)/\pG cx nb bf inl ops (BP cx nb o σ) i o (σ,d)=ab l /\
   (xQ cx nb bf inl ops r ((i,o,BP cx nb o σ,mask done o)::done) l.1 l.2).run=ab aY:=by
 simp only[xQ] at h;obtain⟨A,k⟩:=aI h;simp only[gy] at A;obtain⟨y,t⟩:=A;have p:∀e∈o.after,Region.binds .any e=true->e.on<i:=λe C D=>by
  rw[<-Array.all_toList,vL] at t;have:=t e (by simpa using C);rw[D] at this;have:=JH (by simpa [Nat.blt] using this);omega
 suffices ∃l,pG cx nb bf inl ops _ i o _=ab l/\(xQ cx nb bf inl ops r _ l.1 l.2).run=ab aY by
  obtain⟨l,E,F⟩:=this;exact⟨l,y,p,E,F⟩
 split at k
 .rename_i x;obtain⟨b5,q,u⟩:=bind_some k;refine⟨(b5,d),?_,u⟩;have hd:EG ops o (σ,d)=ab true:=by unfold EG;rw[x]
  unfold pG;rw[hd];rw[q];rfl
 .rename_i g b x;split at k
  .cases k
  .rename_i G v;cases m:d g with
   | true =>
     rw[m] at k;refine⟨(σ.bD o.dst .undef,kH i d),?_,k⟩;have hd:EG ops o (σ,d)=ab false:=by unfold EG;rw[x];dsimp only;rw[v];rw[m];rfl
     unfold pG;rw[hd]
   | false =>
     rw[m] at k;split at k
     .rename_i c j;change Bool at c;have s:=gN k;have hd:EG ops o (σ,d)=ab (c==b):=by unfold EG;rw[x];dsimp only;rw[v];rw[m];simp;rw[j]
      have n:=aem j;have run:∀{b5},(jt cx nb bf inl (BP cx nb o σ) o σ).run=ab b5->(c==b)=true->pG cx nb bf inl ops _ i o _=ab (b5,d):=λq z=>by
       unfold pG;rw[hd,z];rw[q];rfl
      have skip:(c==b)=false->pG cx nb bf inl ops (BP cx nb o σ) i o _=ab _:=λz=>by
       unfold pG;rw[hd,z]
      cases c with
      | true =>
        rw[n] at s;cases b with
        | true=>obtain⟨b5,q,u⟩:=bind_some s;exact⟨(b5,d),run q rfl,u⟩
        | false=>exact⟨_,skip rfl,s⟩
      | false =>
        rw[n] at s;cases b with
        | true=>exact⟨_,skip rfl,s⟩
        | false=>obtain⟨b5,q,u⟩:=bind_some s;exact⟨(b5,d),run q rfl,u⟩
     .cases k
def OW:∀l k c σ n,(∀j o,l[j]?=ab o->ops[k+j]?=ab o)->tK ops c->(xQ cx nb bf inl ops (number k l) c σ n).run=ab aY ->
  ∃(g:List (Fp×Nat)) (i:Nat->Bool),g.length=l.length/\(∀j m b,g[j]?=ab m->Nat.testBit m.2 b=true->Reach ops (k+j) b) /\
   ∀fp,(∀j f,g[j]?=ab f->fp (k+j)=f.1)->agU cx nb bf inl ops fp k l (σ,n) (aY,i)/\∀j o f,l[j]?=ab o->g[j]?=ab f->Eu ops (k+j) o (fp<|k+j) f.2 c=true:=by
 intro l;induction l with
 | nil =>
   intro k c σ n _ _ h;obtain rfl:=aQ h;exact⟨[],n,rfl,λj m b h=>absurd h bb,λfp _=>⟨rfl,λj o f d=>absurd d bb⟩⟩
 | cons o l D =>
   intro k c σ n v x h;obtain⟨t,E,F,G,H⟩:=Mp h;have y:=v 0 o rfl;obtain⟨g,i,z,A,I⟩:=D _ _ t.1 t.2 (λj u d=>by have:=v (j+1) u (by simpa using d);rw[<-this];congr 1;omega) (x.cons y) H;refine⟨(BP cx nb o σ,mask c o)::g,i,by simp[z],λj m b d e=>?_,λfp p=>?_⟩
   .cases j with
    | zero=>obtain rfl:=aQ d;exact EF x y e
    | succ j=>have:=A j m b (by simpa using d) e;rw[show k+_=k+1+j by omega];exact this
   have r:fp k=BP cx nb o σ:=p 0 _ rfl;obtain⟨J,C⟩:=I fp λj f d=>by have:=p (j+1) f (by simpa using d);rw[<-this];congr 1;omega
   refine⟨⟨⟨λe=>by rw[r] at e⊢;exact KM o σ e,λe=>by rw[r] at e⊢;exact aej o σ e⟩,F,λj K d=>?_,t,by rw[r];exact G,J⟩,λj u f d s=>?_⟩
   .obtain⟨f,s⟩:∃f,g[j]?=ab f:=⟨_,ik (by rw[z];exact(hR.1 d).1)⟩;rcases(I8<|C j K f d s).1 with q|q
    .exact .inl (A j f k s q)
    .rw[r];exact .inr q
   .cases j with
    | zero =>
      obtain rfl:=aQ d;obtain rfl:=aQ s;rw[Fv,r];exact E
    | succ j =>
      have:=(I8<|C j u f (by simpa using d)<|by simpa using s).2;rw[show k+_=k+1+j by omega];exact this
def aen{s'}:∀l k c s,(∀j,l[j]?=ops[k+j]?)->c.size=ops.size->(∀j,j<k->j<ops.size->c.getD j false=true) ->
  (∀j,k<=j->j<ops.size->c.getD j true=false)->R6 ops c->agU cx nb bf inl ops fp k l s s'->R9 cx nb bf inl ops fp (·=s') l.length c s:=by
 intro l;induction l with
 | nil =>
   intro k c s x y z E d h;refine⟨?_,h⟩;cases K:Region.ready .any ops c with
   | nil=>rfl
   | cons i r =>
     obtain⟨F,o,H,_⟩:=mem_ready.1 (by rw[K];exact pI ..);have n:=(y7.1 H).1;rcases vM i k with v|v
     .have:=z i v n;simp[y,n] at this F;rw[this] at F;cases F
     .have:=x (i-k);rw[show k+_=i by omega,H] at this;cases this
 | cons o l L =>
   intro k c s x y z E d h;have v:ops[k]?=ab o:=by simpa using(x 0).symm
   have n:=(y7.1 v).1;obtain⟨I,O,Q,J,R,S⟩:=h;have g:=mem_ready.2 ⟨E k (cp _) n,o,v,λe T A=>by
    have:=O e T A;exact z e.on this ai⟩
   refine XG v (λb A=>by
    cases p:(fp k).KF with
    | true=>rw[I.2 p] at A;cases A
    | false=>exact(I.1 p).sub b A) l.length c s J d (λj U D W t=>?_) g R (L _ _ J (λj=>?_) (by simp[y]) (λj D u=>?_) (λj D u=>?_) (d.list g) S)
   .have q:=(y7.1 D).1;rcases vM j k with C|C
    .exfalso;have:=z j C q;simp[y,q] at this t;rw[this] at t;cases t
    .have G:=x (j-k);rw[show k+_=j by omega,D] at G;obtain⟨m,X⟩:∃m,j-k=m+1:=⟨j-k-1,ai⟩;rw[X] at G;have:=Q m U (by simpa using G);rw[show k+1+m=j by omega] at this;exact this
   .have:=x (j+1);rw[show k+1+j=k+(j+1) by omega,<-this];simp
   .by_cases e:j=k
    .subst e;simp[y,n]
    .rw[getD_set_ne false<|Lo e];exact z j ai u
   .rw[getD_set_ne true (by omega:k≠j)];exact E j ai u
def XH(c:∀f d σ v aY,(inl f d σ).run=ab (v,aY)->b7 σ aY):∀l k b σ aY g,(xQ cx nb bf inl ops (number k l) b σ g).run=ab aY->b7 σ aY:=by
 intro l;induction l with
 | nil=>intro k b σ aY g h;obtain rfl:=aQ h;apply b7.refl
 | cons o l i =>
   intro k b σ aY g h;obtain⟨n,p,q,e,j⟩:=Mp h;refine b7.trans ?_ (i _ _ _ _ _ j);unfold pG at e;split at e
   .cases e
   .obtain⟨b5,m,rfl⟩:=Em.1 e;exact B2 c b5 (C3 (KM o σ) m)
   .obtain rfl:=aQ e;apply b7.bD
end
end Go.Ge
namespace Go.Ge
open RowKit
section
variable {P:Program} {B:BA} {N:Nat} {γ:Gh} {cx:Ctx} {nb:Nat} {bf:List Nat} {inl:Nat->List cB->St->Tree (cB×St)} {σ aY:St} {ops:Array Oper} {fp:Nat->Fp}
def XI{l:List Oper}{j:Nat}{o}{d:Nat}(h:l[j]?=ab o)(b:o.dst=ab d):d∈oI.Hn l:=by
 induction l generalizing j with
 | nil=>cases h
 | cons p l c =>
   cases j with
   | zero=>obtain rfl:=aQ h;simp only[oI.Hn,b];exact pI ..
   | succ j =>
     have:=c (by simpa using h);simp only[oI.Hn];split
     .exact va _ this
     .exact this
def Mq:∀{l},oI l=true->∀{i j:Nat} {x y} {d:Nat},i<j->l[i]?=ab x->l[j]?=ab y->x.dst=ab d->y.dst≠ab d:=by
 intro l;induction l with
 | nil=>intro _ i j x y d _ h;cases h
 | cons p l n =>
   intro h i j x y d o e q g k;simp only[oI,gy] at h;obtain⟨m,rfl⟩:∃m,j=m+1:=⟨j-1,ai⟩;have b:l[m]?=ab y:=by simpa using q
   cases i with
   | zero =>
     obtain rfl:=aQ e;have c:=h.1;rw[g] at c;simp at c;exact kp.1 c (XI b k)
   | succ i=>exact n h.2 (i:=i) ai (by simpa using e) b g k
def XJ(h:oI ops.toList=true){i j:Nat}{x y}{d:Nat}(b:i≠j)(e:ops[i]?=ab x)(g:ops[j]?=ab y)(k:x.dst=ab d):y.dst≠ab d:=by
 rcases Nat.lt_or_gt_of_ne b with c|c
 .exact Mq h c (by simpa using e) (by simpa using g) k
 .intro l;exact Mq h c (by simpa using g) (by simpa using e) l k
def XK(c:Array Oper)(d:Nat->Bool)(b:Array Bool)(a:Act):Prop:=∀k,d k=true->yielded c a.tmps k=ah/\b.getD k true=true
def xZ{a:Act}{i k o v}(b:oI ops.toList=true)(d:ops[i]?=ab o)(c:k≠i):yielded ops (a.put o.dst v).tmps k=yielded ops a.tmps k:=by
 unfold yielded;cases e:ops[k]? with
 | none=>rfl
 | some y =>
   simp;cases hd:y.dst with
   | none=>rfl
   | some g =>
     simp;have:=XJ b c e d hd;rw[gq this]
def XK.run{d listed a i o v}(h:XK ops d listed a)(c:oI ops.toList=true)(l:ops[i]?=ab o)(g:listed.getD i true=false):XK ops d (listed.setIfInBounds i true) (a.put o.dst v):=λk m=>by
 obtain⟨n,j⟩:=h k m;have b:k≠i:=λe=>by subst e;rw[j] at g;cases g
 exact⟨by rw[xZ c l b];exact n,by rw[getD_set_ne true<|Lo b];exact j⟩
def XK.skip{c listed a i o}(h:XK ops c listed a)(d:oI ops.toList=true)(g:ops[i]?=ab o)(m:listed.getD i true=false):XK ops (kH i c) (listed.setIfInBounds i true) (a.put o.dst Go.undef):=λk j=>by
 by_cases b:k=i
 .subst b;refine⟨F3 g,?_⟩;rcases vM k listed.size with l|l
  .simp
  .simp[TS l] at m
 .have e:c k=true:=by
   simp only[kH,ko b] at j;exact j
  obtain⟨n,p⟩:=h k e;exact⟨by rw[xZ d g b];exact n,by rw[getD_set_ne true<|Lo b];exact p⟩
def OX(hc:fS P cx)(E:qX P B.G cx)(F:xV P B.G inl){Q}(H:oI ops.toList=true)(L:∀i o,ops[i]?=ab o->(fp i).KF=false->UJ cx nb o (fp i))
  (hd:∀o∈ops.toList,∀k,o.dst=ab k->k<N):∀n d s γ a w,R9 cx nb bf inl ops fp (λs=>s.1=aY) n d s->dJ B N γ s.1 a w->XK ops s.2 d a ->
   (∀bJ O w',dJ B N bJ aY O w'->Ext B γ s.1.mem w bJ aY.mem w'->Fr (number 0 ops.toList) a O->Q .normal O w')->wpAny P .any ops Q n d a w:=by
 intro n;induction n with
 | zero =>
   intro d s γ a w h D r y;obtain⟨u,R⟩:=h;rw[<-R] at y;exact⟨u,y γ a w D (Ext.refl _ _ _ _) λt _=>rfl⟩
 | succ n ih =>
   intro d s γ a w h D r y;refine⟨λh0=>?_,λi hi=>?_⟩
   .have R:=h.1 h0;rw[<-R] at y;exact y γ a w D (Ext.refl _ _ _ _) λt _=>rfl
   .obtain⟨o,s1,u,I,h4⟩:=h.2 i hi;have J:=(mem_ready.1 hi).1;have x:o∈ops.toList:=by
     have:=adh u;simpa using this
    have j:(i,o)∈number 0 ops.toList:=by
     have:=Mm (l:=ops.toList) (k:=0) (by simpa using u);simpa using this
    have hw:∀b,EG ops o s=ab b->Region.wanted o (yielded ops a.tmps)=b:=by
     intro b e;unfold EG at e;cases m:o.guard with
     | none =>
       rw[m] at e;obtain rfl:=aQ e;unfold Region.wanted;rw[m]
     | some p =>
       obtain⟨g,K⟩:=p;rw[m] at e;dsimp only at e;split at e
       .cases e
       .rename_i dg S;cases T:s.2 g with
        | true =>
          rw[T] at e;obtain rfl:=aQ e;unfold Region.wanted;rw[m];simp only[(r g T).1];rfl
        | false =>
          rw[T] at e;split at e
          .rename_i c z;obtain rfl:=aQ e;have A:=I6 D z;unfold Region.wanted;rw[m];simp only[yielded,S,Zy,A];cases c<;>cases K<;>rfl
          .cases e
    unfold wpOp;rw[u];dsimp only;unfold pG at I;split at I
    .cases I
    .rename_i q;obtain⟨b5,q1,rfl⟩:=Em.1 I;rw[hw true q];refine .inl (L7 hc E F D (hd o x) (C3 (L i o u) q1) λU v w1 s1 x1=>?_);refine ih _ _ U _ w1 h4 s1 (r.run H u J) λC W X Y Z f2=>y C W X Y (x1.trans Z) λt A=>?_;rw[f2 t A,gq (Mn A j)]
    .rename_i q;obtain rfl:=aQ I;rw[hw false q];have hm:(s.1.bD o.dst .undef).mem=s.1.mem:=by cases o.dst<;>rfl
     refine ih _ _ γ _ w h4 (D.wN (hd o x) ⟨_,rfl⟩) (r.skip H u J) λC W X Y Z f2=>y C W X Y (by rw[<-hm];exact Z) λt A=>?_;rw[f2 t A,gq (Mn A j)]
def R9.mono{Q Q'}(b:∀s,Q s->Q' s):∀{n listed s},R9 cx nb bf inl ops fp Q n listed s->R9 cx nb bf inl ops fp Q' n listed s:=by
 intro n;induction n with
 | zero=>intro listed s h;exact⟨h.1,b _ h.2⟩
 | succ n c =>
   intro listed s h;refine⟨λd=>b _ (h.1 d),λi e=>?_⟩;obtain⟨o,g,j,k,l⟩:=h.2 i e;exact⟨o,g,j,k,c l⟩
def Sa(c:P.follows .mixedOrders=true)(v:fS P cx)(d:qX P B.G cx)(g:xV P B.G inl){Q id a w}(n:oI ops.toList=true)
  (y:∀o∈ops.toList,∀k,o.dst=ab k->k<N) (z:(xQ cx nb bf inl ops (number 0 ops.toList) [] σ λ_=>false).run=ab aY) (h:dJ B N γ σ a w)
  (A:∀bJ m w',dJ B N bJ aY m w'->Ext B γ σ.mem w bJ aY.mem w'->Fr (number 0 ops.toList) a m->Q .normal m w'):(Code.region id ops true).wp P Q a w:=by
 refine wp_region_any c ?_;obtain⟨C,D,R,S,E⟩:=OW ops.toList 0 [] σ _ (λj o b=>by simpa using b) tK.nil z
 let fp:Nat->Fp:=λi=>(C[i]?.map (·.1)).getD ⟨[],[],true,ah⟩
 obtain⟨t,_⟩:=E fp λj f b=>by simp[fp,b]
 have key:∀l k s s',agU cx nb bf inl ops fp k l s s'->∀j o,l[j]?=ab o->(fp<|k+j).KF=false->UJ cx nb o (fp<|k+j):=by
  intro l;induction l with
  | nil=>intro k s s' _ j o b;cases b
  | cons o l F =>
    intro k s s' H j I b;obtain⟨J,T,U,p,W,K⟩:=H;cases j with
    | zero=>obtain rfl:=aQ b;exact J.1
    | succ j=>rw[show k+_=k+1+j by omega];exact F _ p s' K j I (by simpa using b)
 have hA:=aen (s':=_) ops.toList 0 (Array.replicate ops.size false) _ bb bb (λj b=>ai)
  (λj _ b=>by simp[b]) (λi o e q=>by
   rcases vM i ops.size with u|u<;>simp[u] at q) t
 have r:=R9.mono (Q':=λs=>s.1=aY) (λs L=>by rw[L]) hA;obtain⟨p,O⟩:=h.draw _;refine OX v d g n (λi o q=>by have:=key _ 0 _ _ t i o (by simpa using q);simpa using this) y _ _ _ γ a _ (by simpa using r) p Fm λbJ m w' s x f=>A bJ m w' s (O.trans x) f
def UP(b:P.follows .mixedOrders=true)(l:fS P cx)(c:qX P B.G cx)(d:xV P B.G inl){Q id a w}
  (m:∀o∈ops.toList,∀k,o.dst=ab k->k<N) (e:(zi cx nb bf inl ops σ).run=ab aY) (h:dJ B N γ σ a w)
  (n:∀bJ g w',dJ B N bJ aY g w'->Ext B γ σ.mem w bJ aY.mem w'->Fr (number 0 ops.toList) a g->Q .normal g w'):(Code.region id ops true).wp P Q a w:=by
 unfold zi at e;cases p:ops.any λo=>o.guard.isSome with
 | true =>
   rw[p] at e;obtain⟨i,j⟩:=aI e;exact Sa b l c d i m j h n
 | false =>
   rw[p] at e;exact R8 b l c d m e h n
end
end Go.Ge
namespace Go.Ge
open RowKit
def vP(f:Nat->Box->Bool)(c:Nat->Option Box):Nat->Option Box:=λb=>match c b with|some d=>ab { d with lk:=f b d }|none=>ah
section
variable {P:Program} {B:BA} {N:Nat} {γ XL:Gh} {mem m0 me m1:Nat->Option Box} {w w0:World} {f:Nat->Box->Bool}
def Qj{b c}(h:mem b=ab c):vP f mem b=ab { c with lk:=f b c }:=by simp[vP,h]
def UQ{b d}(h:vP f mem b=ab d):∃c,mem b=ab c/\d={ c with lk:=f b c }:=by
 simp only[vP] at h;split at h
 .rename_i c e;exact⟨c,e,(aQ h).symm⟩
 .cases h
def Ext.vP:Ext B γ mem w γ (vP f mem) w where
 below:=wE.refl _ _
 I:=λ_ _ h=>h
 rM:=λ_ _ h=>.inl h
 cells:=λ_ _ _=>rfl
 boxes:=λb d c=>⟨_,Qj c,cp _,λ_=>⟨rfl,rfl,rfl⟩⟩
def bM.vP(h:bM B γ mem w):bM B γ (Go.Ge.vP f mem) w:=by
 have g:∀{b},Go.Ge.vP f mem b≠ah->mem b≠none:=by
  intro b e m;apply e;simp[Go.Ge.vP,m]
 exact
  { dv:=h.dv
    base:=h.base
    boxes:=λb n e=>by
     obtain⟨i,h0,rfl⟩:=UQ e;exact(h.boxes b i h0).keep (Ext.vP (B:=B)) rfl (λ_ _ _=>rfl)
    inj:=λb c d k o e p j q=>h.inj b c d k o (g e) (g p) j q
    fresh:=λb d k e j=>h.fresh b d k (g e) j
    vz:=h.vz
    sep:=λb n d k l e j r=>by
     obtain⟨i,h0,rfl⟩:=UQ e;exact h.sep b i d k l h0 j r }
def dJ.vP{σ a}(h:dJ B N γ σ a w):dJ B N γ { σ with mem:=Go.Ge.vP f σ.mem } a w:=h.go Ext.vP h.ok.vP
def Mid(g h i:Nat->Option Box):Prop:=∀b d,g b=ab d->∃c,i b=ab c/\d.aU<=c.aU /\
 (c.aU=d.aU->∃e,h b=ab e/\e.aU=d.aU/\e.buf=c.buf/\e.row=c.row)
def nU.down(l:Mid m0 me m1){b aU m K i}(n:nU m0 b aU m)(h:nU me b aU K)(o:∀d c,d.buf=c.buf->d.row=c.row->K d->i c):nU m1 b aU i:=by
 obtain⟨g,p,x,_⟩:=n;obtain⟨d,q,y,r⟩:=h;obtain⟨c,s,z,t⟩:=l b g p;refine⟨c,s,ai,λe=>?_⟩;obtain⟨j,k,A,u,v⟩:=t ai;rw[q] at k;obtain rfl:=aQ k;exact o d c u v (r ai)
def cM.down(d:Mid m0 me m1):∀{v m us vs},cM XL m0 w0 v m us->cM γ me w v m vs->cM γ m1 w v m vs:=by
 intro v;induction v with
 | undef=>intro m us vs _ r;cases m<;>exact r
 | data t x=>intro m us vs _ r;cases m<;>exact r
 | pQ=>intro m us vs _ r;cases m<;>exact r
 | uy=>intro m us vs _ r;cases m<;>exact r
 | cell t x=>intro m us vs _ r;cases m<;>exact r
 | nl=>intro m us vs _ r;cases m<;>exact r
 | uz=>intro m us vs _ r;cases m<;>exact r
 | xO b aU =>
   intro m us vs c r;cases m with
   | many=>exact r
   | cells=>exact⟨r.1,c.2.down d r.2 λ_ _ _ _ k=>k⟩
   | val=>exact⟨r.1,c.2.down d r.2 λ_ _ _ _ k=>k⟩
 | ptr b aU p =>
   intro m us vs c r;cases m with
   | many=>exact r
   | cells=>exact⟨r.1,c.2.down d r.2 λ_ _ _ _ k=>k⟩
   | val=>exact⟨r.1,c.2.down d r.2 λ_ _ _ _ k=>k⟩
 | whole b aU =>
   intro m us vs c r;cases m with
   | many=>exact r
   | cells=>exact⟨r.1,c.2.down d r.2 λ_ _ l o k=>by rw[<-l,<-o];exact k⟩
   | val=>exact⟨r.1,c.2.down d r.2 λ_ _ l o k=>by rw[<-l,<-o];exact k⟩
 | part b aU lo n =>
   intro m us vs c r;cases m with
   | many=>exact r
   | cells=>exact⟨r.1,c.2.down d r.2 λ_ _ l o k=>by unfold FH at k⊢;rw[<-l,<-o];exact k⟩
   | val=>exact⟨r.1,c.2.down d r.2 λ_ _ l o k=>by unfold FH at k⊢;rw[<-l,<-o];exact k⟩
 | win b aU q e k lo n =>
   intro m us vs c r;cases m with
   | many=>exact r
   | cells=>exact⟨r.1,c.2.down d r.2 λ_ _ l o k=>k⟩
   | val=>exact⟨r.1,c.2.down d r.2 λ_ _ l o k=>k⟩
 | fn f H =>
   intro m us vs c r;cases m with
   | many=>exact r
   | cells=>obtain⟨_,_,_,s⟩:=c;obtain⟨g,h,j,G⟩:=r;exact⟨g,h,j,λi b aU A=>(s i b aU A).down d (G i b aU A) λ_ _ _ _ k=>k⟩
   | val=>obtain⟨_,_,_,s⟩:=c;obtain⟨g,h,j,G⟩:=r;exact⟨g,h,j,λi b aU A=>(s i b aU A).down d (G i b aU A) λ_ _ _ _ k=>k⟩
 | mix a b y z =>
   intro m us vs c r;cases m with
   | cells=>obtain⟨_,_,_,C,D⟩:=c;obtain⟨E,F,c,h,j⟩:=r;exact⟨E,F,c,y C h,z D j⟩
   | val=>obtain⟨_,_,_,C,D⟩:=c;obtain⟨E,F,c,h,j⟩:=r;exact⟨E,F,c,y C h,z D j⟩
   | many=>obtain⟨_,_,_,C,D⟩:=c;obtain⟨E,F,c,h,j⟩:=r;exact⟨E,F,c,y C h,z D j⟩
 | BF u I =>
   intro m us vs c r;cases m with
   | val=>obtain⟨_,_,s⟩:=c;obtain⟨g,h,j⟩:=r;exact⟨g,h,I s j⟩
   | cells=>exact r
   | many=>exact r
def aeo(M:Nat->Bool)(V:Nat->Bool->Bool)(e g h:Nat->Option Box):Prop:=∀b c,e b=ab c->∃d Sc,g b=ab d/\h b=ab Sc/\d.buf=c.buf/\Sc.buf=c.buf/\Sc.row=d.row /\
 Sc.aU=(bif M b&&V b c.buf then c.aU+1 else c.aU)/\((M b&&V b c.buf)=false->d.aU=c.aU)
def aeo.mid{M V}(h:aeo M V m0 me m1):Mid m0 me m1:=λb c l=>by
 obtain⟨i,d,m,k,n,o,p,g,q⟩:=h b c l;cases j:(M b&&V b c.buf) with
 | true =>
   rw[j] at g;simp at g;exact⟨d,k,ai,λe=>absurd e ai⟩
 | false =>
   rw[j] at g;simp at g;exact⟨d,k,ai,λe=>⟨i,m,q j,n.trans o.symm,p.symm⟩⟩
def Mr:Sh->cB->Prop
 | .d _,_=>True
 | .k v,u=>v=u
 | .m a b,u=>∃p q,u=.mix p q/\Mr a p/\Mr b q
def agV v:Mr (agB v) v:=by
 induction v with
 | mix a b c d=>exact⟨a,b,rfl,c,d⟩
 | data t x=>trivial
 | _=>rfl
def aep{t v y}(h:toD t v=ab y){m vs}(b:cM γ me w v m vs):cM γ m1 w (.data t y) m vs:=by
 unfold toD at h;split at h
 .obtain⟨q,c⟩:=Ty.lX h;subst q;subst c;cases m<;>exact b
 .split at h
  .obtain rfl:=aQ h;cases m with
   | many=>exact b
   | cells=>exact .inl ⟨⟨ah,b⟩,rfl⟩
   | val=>exact⟨[.slice ah 0 0],.inl ⟨⟨ah,rfl⟩,rfl⟩,b⟩
  .cases h
 .cases h
def UR{M V rz qZ}(D:aeo M V rz.mem qZ.mem m1)(hV:∀b x,V b false=true->rz.mem b=ab x->x.buf=false){u v}(h:Fz V rz qZ u v=true){m us vs}(K:cM XL rz.mem w0 u m us)(i:cM γ qZ.mem w v m vs) :
  cM γ m1 w (bump M V u) m vs:=by
 unfold Fz at h;split at h
 .rename_i b c p b' k p';simp only[gy] at h;obtain⟨⟨L,A⟩,g⟩:=h;obtain rfl:=iT L;obtain rfl:=W4 A;have still:c=k->(M b&&V b false)=false->cM γ m1 w (bump M V<|.ptr b c p) m vs:=by
   intro e q;subst e;have e:bump M V (.ptr b c p)=.ptr b c p:=by simp only[bump,q];rfl
   rw[e];exact cM.down D.mid K i
  cases j:V b false with
  | false =>
    rw[j] at g;exact still (iT g) (by simp[j])
  | true =>
    rw[j] at g;simp at g;split at g
    .rename_i x y G C;simp only[gy] at g;have R:=iT g.1;have H:=iT g.2;obtain⟨O,d,E,I,S,T,U,J,W⟩:=D b x G;rw[C] at E;obtain rfl:=aQ E;cases r:M b with
     | false=>exact still (by have:=W (by simp[r]);omega) (by simp[r])
     | true =>
       have e:bump M V (.ptr b c p)=.ptr b (c+1) p:=by simp only[bump,r,j];rfl
       have t:d.aU=c+1:=by rw[J,r,hV b x j G,j];simp;omega
       rw[e];cases m with
       | many=>exact i
       | cells=>exact⟨i.1,d,I,ai,λ_=>bA C H i.2⟩
       | val=>exact⟨i.1,d,I,ai,λ_=>bA C H i.2⟩
    .cases g
 .rename_i b c b' k;simp only[gy] at h;obtain⟨L,g⟩:=h;obtain rfl:=iT L;split at g
  .rename_i x y G C;simp only[gy] at g;obtain⟨⟨A,R⟩,H⟩:=g;have A:=iT A;obtain⟨O,d,E,I,S,T,U,J,W⟩:=D b x G;rw[C] at E;obtain rfl:=aQ E;have z:x.buf=true:=by rw[<-S];exact H
   have key:∀s,d.aU=s->((∃v,vs=[v]/\v.oneCell'=true)/\nU qZ.mem b k λF=>∃e n,F.buf=true/\F.row=ab (e,n) /\
     ((γ.loc b=ah/\vs=[.slice ah 0 0])\/∃l o,γ.loc b=ab (l,o)/\vs=[.slice (ab ⟨l,0,ah⟩) n o])) ->
     ((∃v,vs=[v]/\v.oneCell'=true)/\nU m1 b s λF=>∃e n,F.buf=true/\F.row=ab (e,n) /\
     ((γ.loc b=ah/\vs=[.slice ah 0 0])\/∃l o,γ.loc b=ab (l,o)/\vs=[.slice (ab ⟨l,0,ah⟩) n o])):=by
    intro s t X;exact⟨X.1,d,I,ai,λ_=>by obtain⟨e,n,q1,q2,q3⟩:=(bA C (iT R) X.2);exact⟨e,n,T.trans z,U.trans q2,q3⟩⟩
   have t:∃s,bump M V (.whole b c)=.whole b s/\d.aU=s:=by
    unfold bump;cases r:(M b&&V b true) with
    | true=>exact⟨c+1,by simp[r],by rw[J,z,r,<-A];rfl⟩
    | false=>exact⟨c,by simp[r],by rw[J,z,r,<-A];rfl⟩
   obtain⟨s,e1,Y⟩:=t;rw[e1];cases m with
   | many=>exact i
   | cells=>exact key s Y i
   | val=>exact key s Y i
  .cases g
 .rename_i f Z f' Q;simp only[gy] at h;obtain rfl:=iT h.1;obtain rfl:=W5 h.2;exact cM.down D.mid K i
 .cases m<;>exact i
 .cases m<;>exact i
 .simp only[gy] at h;obtain rfl:=iT h.1;obtain rfl:=iT h.2;exact cM.down D.mid K i
 .cases h
def akq{V rz σ u v}:Sh.out V rz σ (.k u) v=bif Fz V rz σ u v then ab () else none:=rfl
def akr{V rz σ a b v w}:Sh.out V rz σ (.m a b) (.mix v w)=(match Sh.out V rz σ a v,Sh.out V rz σ b w with
 | some x,ab y=>ab ((x,y):(Sh.m a b).ty.den)
 | _,_=>ah):=rfl
def ZP{M V rz qZ}(I:aeo M V rz.mem qZ.mem m1)(J:∀b x,V b false=true->rz.mem b=ab x->x.buf=false):∀{s u v y m us vs},Mr s u->Sh.out V rz qZ s v=ab y ->
  cM XL rz.mem w0 u m us->cM γ qZ.mem w v m vs->cM γ m1 w (s.pJ M V y) m vs:=by
 intro s;induction s with
 | d t=>intro u v y m us vs _ c _ e;exact aep c e
 | k x =>
   intro u v y m us vs C c i e;obtain rfl:=C;rw[akq] at c;cases H:Fz V rz qZ x v with
   | false=>rw[H] at c;cases c
   | true=>exact UR I J H i e
 | m a b g h =>
   intro u v y m us vs C c i e;obtain⟨p,q,rfl,D,E⟩:=C;cases v with
   | mix K L =>
     rw[akr] at c;split at c
     .rename_i O Q F G;obtain rfl:=aQ c;cases m with
      | cells=>obtain⟨_,_,_,j,l⟩:=i;obtain⟨n,o,r,z,A⟩:=e;exact⟨n,o,r,g D F j z,h E G l A⟩
      | val=>obtain⟨_,_,_,j,l⟩:=i;obtain⟨n,o,r,z,A⟩:=e;exact⟨n,o,r,g D F j z,h E G l A⟩
      | many=>obtain⟨_,_,_,j,l⟩:=i;obtain⟨n,o,r,z,A⟩:=e;exact⟨n,o,r,g D F j z,h E G l A⟩
     .cases c
   | _=>cases c
def abg{t v y}(h:toD t v=ab y):(v=.data t y)\/(v=.pQ/\∃e,t=.slice e):=by
 unfold toD at h;split at h
 .obtain⟨q,b⟩:=Ty.lX h;subst q;subst b;exact .inl rfl
 .split at h
  .exact .inr ⟨rfl,_,rfl⟩
  .cases h
 .cases h
def ZQ{M V rz qZ s}{c Sc:Box}{y}(j:Sh.out V rz qZ s c.val=ab y)(E:Sc.val=s.pJ M V y)(F:Sc.buf=c.buf)(i:c.buf=true->∃e l,c.val=.data (.slice e) l) :
  Sc.row=c.row/\(c.buf=true->Sc.val=c.val):=by
 have n:∀t x,c.val=.data t x->Sc.val=c.val:=by
  intro t x g;rw[g] at j;cases s with
  | d u =>
    obtain⟨q,o⟩:=Ty.lX j;subst q;subst o;rw[E,g];rfl
  | k z=>cases z<;>cases j
  | m a b=>cases j
 have r:∀{b1 A:Box},b1.buf=A.buf->b1.val=A.val->b1.row=A.row:=by
  intro b1 A G H;unfold Box.row;rw[G,H]
 cases g:c.val with
 | data t x =>
   have:=n t x g;exact⟨r F this,λ_=>by rw[this,g]⟩
 | _ =>
   refine⟨?_,λh=>by obtain⟨e,l,q⟩:=i h;rw[g] at q;cases q⟩;cases o:c.buf with
   | true=>obtain⟨e,l,q⟩:=i o;rw[g] at q;cases q
   | false =>
     have I:c.row=none:=by unfold Box.row;rw[o,g]
     rw[I];unfold Box.row;rw[F,o,E];rw[g] at j;cases s with
     | d u =>
       rcases abg j with q|⟨q,e,rfl⟩
       .first|cases q|exact absurd g (by cases k)
       .rfl
     | k z =>
       simp only[Sh.pJ];have C:∀t x,bump M V z≠.data t x:=by
        intro t x q;cases z with
        | data K L=>cases j
        | whole b v=>simp only[bump] at q;cases D:(M b&&V b true)<;>rw[D] at q<;>cases q
        | ptr b v p=>simp only[bump] at q;cases D:(M b&&V b false)<;>rw[D] at q<;>cases q
        | _=>cases q
       split<;>first|rfl|(rename_i J;exact absurd J (C _ _))
     | m a b=>rfl
end
end Go.Ge
namespace Go.Ge
open RowKit
section
variable {P:Program} {B:BA} {N:Nat} {γ XL:Gh} {w w0:World} {rz qZ:St} {a a0:Act} {M:Nat->Bool} {V:Nat->Bool->Bool}
def aeq:∀{l x},agC V rz qZ l=ab x->∀t,(Rv M V l x t=ah/\∀s,(t,s)∉l)\/∃s y,(t,s)∈l/\Sh.out V rz qZ s (qZ.br t)=ab y/\Rv M V l x t=ab (s.pJ M V y):=by
 intro l;induction l with
 | nil=>intro x _ t;exact .inl ⟨rfl,λs h=>by cases h⟩
 | cons p r j =>
   obtain⟨i,s⟩:=p;intro x h t;simp only[agC] at h;split at h
   .rename_i y z k m;obtain rfl:=aQ h;by_cases e:t=i
    .subst e;refine .inr ⟨s,y,pI ..,k,?_⟩;show(bif Nat.beq t t then ab _ else Rv M V r z t)=_
     simp
    .have n:=ko e;have o:Rv M V ((i,s)::r) ((y,z):(tyS ((i,s)::r)).den) t=Rv M V r z t:=by
      show(bif Nat.beq t i then ab _ else Rv M V r z t)=_
      rw[n];rfl
     rw[o];rcases j m t with ⟨c,d⟩|⟨g,q,c,d,u⟩
     .refine .inl ⟨c,λg b=>?_⟩;rcases lW.1 b with b|b
      .exact e (cd b).1
      .exact d g b
     .exact .inr ⟨g,q,va _ c,d,u⟩
   .cases h
def EH{fz g d b}(h:IP fz g d b=true):(d.ro=true->(b.ro||fz)=true)/\d.buf=b.buf/\(g=false->d.aU=b.aU):=by
 simp only[IP,gy,Fs,beq_iff_eq] at h;obtain⟨⟨⟨e,l⟩,i⟩,c⟩:=h;refine⟨λj=>by rcases e with e|e<;>simp[e,<-j],i,λk=>?_⟩;rcases c with c|c
 .rw[k] at c;cases c
 .exact iT c
def abh{fz d c b}(h:IP fz d c b=true):c.tid=b.tid:=by
 simp only[IP,gy] at h;exact iT h.1.1.2
def US{fz}:∀{l x},agD V fz rz qZ l=ab x->∀t,(Ly fz M V l x t=ah/\Du l t=false) \/
  ∃s b y d,Du l t=true/\(t,s,b)∈l/\qZ.mem t=ab d/\IP fz (V t b.buf) d b=true/\Sh.out V rz qZ s d.val=ab y/\Ly fz M V l x t=ab { b with val:=s.pJ M V y,ro:=b.ro||fz,aU:=bif V t b.buf then b.aU+1 else b.aU }:=by
 intro l;induction l with
 | nil=>intro x _ t;exact .inl ⟨rfl,rfl⟩
 | cons p r o =>
   obtain⟨i,s,b⟩:=p;intro x h t;simp only[agD] at h;split at h
   .rename_i d g;cases c:IP fz _ d b with
    | false=>rw[c] at h;cases h
    | true =>
      rw[c] at h;split at h
      .rename_i y z q u;obtain rfl:=aQ h;by_cases e:t=i
       .subst e;refine .inr ⟨s,b,y,d,by simp[Du],pI ..,g,c,q,?_⟩;show(bif Nat.beq t t then ab { b with val:=s.pJ M V y,ro:=b.ro||fz,aU:=bif V t b.buf then b.aU+1 else b.aU } else Ly fz M V r z t)=_
        simp
       .have n:=ko e;have v:Ly fz M V ((i,s,b)::r) ((y,z):(tyM ((i,s,b)::r)).den) t=Ly fz M V r z t:=by
         show(bif Nat.beq t i then ab { b with val:=s.pJ M V y,ro:=b.ro||fz,aU:=bif V t b.buf then b.aU+1 else b.aU } else Ly fz M V r z t)=_
         rw[n];rfl
        have j:Du ((i,s,b)::r) t=Du r t:=by simp only[Du,n,Lm]
        rw[v,j];rcases o u t with k|⟨A,C,D,m,E,F,G⟩
        .exact .inl k
        .exact .inr ⟨A,C,D,m,E,va _ F,G⟩
      .cases h
   .cases h
structure C5 (k:Carry) (rz:St):Prop where
 S:∀t s,(t,s)∈k.S->Mr s (rz.br t)
 M:∀b s bx,(b,s,bx)∈k.M->rz.mem b=ab bx/\Mr s bx.val/\bx.lk=false
 V:∀b x,k.V b false=true->rz.mem b=ab x->x.buf=false
def aiW{cx σ}:∀{p l},mkS cx σ p=ab l->∀t s,(t,s)∈l->Mr s (σ.br t):=by
 intro p;induction p with
 | nil=>intro l h t s c;obtain rfl:=aQ h;cases c
 | cons q r n =>
   obtain⟨i,o⟩:=q;intro l h t s c;simp only[mkS] at h;split at h
   .cases h
   .rename_i u g;have fin:∀m,Mr m (σ.br i)->ab ((i,m)::u)=ab l->Mr s (σ.br t):=by
     intro m x e;obtain rfl:=aQ e;rcases lW.1 c with c|c
     .obtain⟨rfl,rfl⟩:=cd c;exact x
     .exact n g t s c
    cases j:Nat.beq o 999999 with
    | true =>
      rw[j] at h;split at h
      .rename_i b v y;exact fin (.k _) y.symm h
      .obtain rfl:=aQ h;exact n g t s c
    | false =>
    rw[j] at h;simp at h;split at h
    .exact fin (.d _) trivial h
    .split at h
     .exact fin (.d _) trivial h
     .cases h
    .split at h
     .exact fin (.d _) trivial h
     .cases h
    .exact fin (.k _) rfl h
def aer{σ}:∀{p l},mkM σ p=ab l->∀b s d,(b,s,d)∈l->σ.mem b=ab d/\Mr s d.val/\d.lk=false:=by
 intro p;induction p with
 | nil=>intro l h b s d c;obtain rfl:=aQ h;cases c
 | cons i r k =>
   intro l h b s d c;simp only[mkM] at h;split at h
   .rename_i g t m j;cases e:g.lk with
    | true=>rw[e] at h;cases h
    | false =>
      rw[e] at h;obtain rfl:=aQ h;rcases lW.1 c with c|c
      .injection c with n c
       injection c with o q
       subst n;subst o;subst q;exact⟨m,agV _,e⟩
      .exact k j b s d c
   .cases h
def Ad{cx nb bf σ p k}(h:KI cx nb bf σ p=ab k):C5 k σ:=by
 unfold KI at h;split at h
 .rename_i s m d e;obtain rfl:=aQ h;refine⟨aiW d,aer e,λb x c g=>?_⟩;simp only[Fu,aj8,g,gy,zP] at c;exact c.2.1
 .cases h
def agW{l b}(h:Du l b=true):∃s c,(b,s,c)∈l:=by
 induction l with
 | nil=>cases h
 | cons p r e =>
   obtain⟨i,s,c⟩:=p;simp only[Du,Fs] at h;rcases h with h|h
   .obtain rfl:=iT h;exact⟨s,c,pI ..⟩
   .obtain⟨g,d,j⟩:=e h;exact⟨g,d,va _ j⟩
def uF{k fz lock wr x}(hk:C5 k rz)(h0:dJ B N XL rz a0 w0)(G:dJ B N γ qZ a w)(hx:Ext B XL rz.mem w0 γ qZ.mem w)
  (hf:∀t,dA wr t=false->a.tmps[t]?=a0.tmps[t]?) (C:∀b g,rz.mem b=ab g->Du k.M b=false->∃bl,qZ.mem b=ab { g with lk:=bl }) (ho:k.out fz rz qZ=ab x) :
  dJ B N γ (k.pJ fz lock wr rz x) a w/\Ext B XL rz.mem w0 γ (k.pJ fz lock wr rz x).mem w:=by
 unfold Carry.out at ho;split at ho
 case h_2=>cases ho
 rename_i xs xm hxs hxm;obtain rfl:=aQ ho;generalize Q:k.pJ fz lock wr rz (xs,xm)=b5;have U:∀t,b5.br t=match Rv _ k.V k.S xs t with|some v=>v|none=>bif dA wr t then .undef else rz.br t:=λt=>by rw[<-Q];rfl
 have R:∀b,b5.mem b=match Ly fz _ k.V k.M xm b with|some g=>ab g|none=>match rz.mem b with|some g=>ab { g with lk:=g.lk||lock }|none=>none:=λb=>by rw[<-Q];rfl
 have D:∀b,Du k.M b=false->b5.mem b=match rz.mem b with|some g=>ab { g with lk:=g.lk||lock }|none=>none:=by
  intro b i;rw[R b];rcases US hxm b with ⟨q,_⟩|⟨s,b',y,g,q,_⟩
  .rw[q]
  .rw[i] at q;cases q
 have here:∀b,Du k.M b=true->∃s m y g,rz.mem b=ab m/\Mr s m.val/\qZ.mem b=ab g/\IP fz (k.V b m.buf) g m=true/\Sh.out k.V rz qZ s g.val=ab y /\
   b5.mem b=ab { m with val:=s.pJ (Du k.M) k.V y,ro:=m.ro||fz,aU:=bif k.V b m.buf then m.aU+1 else m.aU }:=by
  intro b i;rcases US hxm b with ⟨_,q⟩|⟨s,m,y,g,q,q1,q2,q3,q4,q5⟩
  .rw[i] at q;cases q
  .obtain⟨W,k2,_⟩:=hk.M b s m q1;exact⟨s,m,y,g,W,k2,q2,q3,q4,by rw[R b,q5]⟩
 have E:∀b g,qZ.mem b=ab g->g.buf=true->∃e l,g.val=.data (.slice e) l:=by
  intro b g i J;have:=G.ok.boxes b g i;rw[fj,J] at this;obtain⟨e,l,q,_⟩:=this;exact⟨e,l,q⟩
 have hC:aeo (Du k.M) k.V rz.mem qZ.mem b5.mem:=by
  intro b d i;cases j:Du k.M b with
  | false =>
    obtain⟨bl,F⟩:=C b d i j;have u:=D b j;rw[i] at u;exact⟨_,_,F,u,rfl,rfl,rfl,bb,λ_=>rfl⟩
  | true =>
    obtain⟨s,m,y,g,X,g2,T,g4,g5,Y⟩:=here b j;rw[i] at X;obtain rfl:=aQ X;obtain⟨o1,Z,o3⟩:=EH g4;obtain⟨r1,r2⟩:=ZQ (M:=Du k.M) (V:=k.V) (Sc:={ d with val:=s.pJ _ k.V y,ro:=d.ro||fz,aU:=bif k.V b d.buf then d.aU+1 else d.aU }) g5 rfl Z.symm (E b g T);refine⟨g,_,T,Y,Z,rfl,r1,bb,λH=>o3 ?_⟩;simpa using H
 have hE:Ext B XL rz.mem w0 γ b5.mem w :=
  { below:=hx.below
    I:=hx.I
    rM:=hx.rM
    cells:=hx.cells
    boxes:=λb d i=>by
     obtain⟨O,Sc,c1,c2,c3,c4,c5,c6,c7⟩:=hC b d i;obtain⟨aoR,e1,e2,e3⟩:=hx.boxes b d i;rw[c1] at e1;obtain rfl:=aQ e1;cases H:(Du k.M b&&k.V b d.buf) with
     | true =>
       rw[H] at c6;simp at c6;exact⟨Sc,c2,ai,λe=>absurd e ai⟩
     | false =>
       rw[H] at c6;simp at c6;obtain⟨r1,r2,r3⟩:=e3 (c7 H);exact⟨Sc,c2,ai,λ_=>⟨r1,c4,c5.trans r3⟩⟩ }
 refine⟨⟨λt=>?_,G.size,G.defers,?_⟩,hE⟩
 .rw[U t];rcases aeq hxs t with ⟨q,_⟩|⟨s,y,q1,q2,q3⟩
  .rw[q];cases hw:dA wr t with
   | true=>exact⟨_,rfl⟩
   | false =>
     have:a.tmps.getD t undef=a0.tmps.getD t undef:=by simp only[WY,hf t hw]
     rw[this];exact(h0.br t).ext hE
  .rw[q3];exact ZP hC hk.V (hk.S t s q1) q2 (h0.br t) (G.br t)
 .have hne:∀b,b5.mem b≠ah->∃d,rz.mem b=ab d:=by
   intro b i;cases j:Du k.M b with
   | true=>obtain⟨s,m,y,g,X,_⟩:=here b j;exact⟨m,X⟩
   | false =>
     rw[D b j] at i;cases H:rz.mem b with
     | none=>rw[H] at i;exact absurd rfl i
     | some d=>exact⟨d,rfl⟩
  have K:∀b,b5.mem b≠ah->qZ.mem b≠none:=by
   intro b i;obtain⟨d,u⟩:=hne b i;obtain⟨O,Sc,c1,_⟩:=hC b d u;rw[c1];simp
  exact
   { dv:=G.ok.dv
     base:=G.ok.base
     boxes:=λb Sc i=>by
      cases j:Du k.M b with
      | true =>
        obtain⟨s,m,y,g,X,g2,T,g4,g5,Y⟩:=here b j;rw[i] at Y;obtain rfl:=aQ Y;obtain⟨o1,Z,o3⟩:=EH g4;have o4:=abh g4;obtain⟨r1,r2⟩:=ZQ (Sc:={ m with val:=s.pJ _ k.V y,ro:=m.ro||fz,aU:=bif k.V b m.buf then m.aU+1 else m.aU }) g5 rfl Z.symm (E b g T);have o:=G.ok.boxes b g T;have p:=h0.ok.boxes b m X;unfold fj at o p⊢;rcases aic g.buf with r|r
        .rw[r] at o;rw[<-Z,r,r2 r,<-o4];exact o
        .rw[r] at o;rw[<-Z,r];rw[<-Z,r] at p;obtain⟨_,_,_,_,_,_,_,_,_,z⟩:=p;obtain⟨A,cap,cur,tid,fr,z1,z2,z3,L,z4⟩:=o;exact⟨A,cap,cur,tid,fr,z1,z2,z3,o4▸L,ZP hC hk.V g2 g5 z z4⟩
      | false =>
        have u:=D b j;rw[i] at u;cases H:rz.mem b with
        | none=>rw[H] at u;cases u
        | some d =>
          rw[H] at u;obtain rfl:=aQ u;obtain⟨bl,F⟩:=C b d H j;have o:=G.ok.boxes b _ F;have p:=h0.ok.boxes b d H;unfold fj at o p⊢;rcases aic d.buf with r|r
          .rw[r] at o⊢;exact o
          .rw[r] at o p⊢;obtain⟨_,_,_,_,_,_,_,_,_,z⟩:=p;obtain⟨A,cap,cur,tid,fr,z1,z2,z3,L,z4⟩:=o;exact⟨A,cap,cur,tid,fr,z1,z2,z3,L,cM.down hC.mid z z4⟩
     inj:=λb c A W k2 i hc u h2=>G.ok.inj b c A W k2 (K b i) (K c hc) u h2
     fresh:=λb A W i u=>G.ok.fresh b A W (K b i) u
     vz:=G.ok.vz
     sep:=λb Sc A W off i u hi=>by
      obtain⟨d,q0⟩:=hne b (by rw[i];simp);obtain⟨O,aoS,c1,c2,c3,c4,c5,c6,c7⟩:=hC b d q0;rw[i] at c2;obtain rfl:=aQ c2;obtain⟨s1,s2⟩:=G.ok.sep b O A W off c1 u hi;have hro:O.ro=true->Sc.ro=true:=by
       cases j:Du k.M b with
       | true =>
         obtain⟨s,m,y,g,X,g2,T,g4,g5,Y⟩:=here b j;rw[c1] at T;obtain rfl:=aQ T;rw[i] at Y;obtain rfl:=aQ Y;exact(EH g4).1
       | false =>
         have u:=D b j;rw[i,q0] at u;obtain rfl:=aQ u;obtain⟨bl,F⟩:=C b d q0 j;rw[c1] at F;obtain rfl:=aQ F;exact λh=>h
      exact⟨hro s1,λJ e n hr=>s2 (by rw[c3,<-c4];exact J) e n (by rw[<-c5];exact hr)⟩ }
end
end Go.Ge
namespace Go.Ge
variable [Lp]
open RowKit
def F8{p:Nat->Prop}(h:∃n,p n):∃n,p n/\∀m,p m->n<=m:=by
 obtain⟨n,c⟩:=h;induction n using Nat.strongRecOn with
 | _ n d =>
   by_cases h:∃m,m<n/\p m
   .obtain⟨m,e,g⟩:=h;exact d m e g
   .exact⟨n,c,λm i=>Nat.le_of_not_lt λb=>h ⟨m,b,i⟩⟩
open Classical in
noncomputable def least(p:Nat->Prop):Nat:=if h:∃n,p n then Classical.choose (F8 h) else 0
def Ms{p}(h:∃n,p n):p (least p)/\∀m,p m->least p<=m:=by
 unfold least;rw[dif_pos h];exact TN (F8 h)
def HD{P c Q a w}(I:Nat->Act->World->Prop){n}(j:I n a w)
  (b:∀n a w,I n a w->c.wp P (Exit.then (λg w'=>∃m,m<n/\I m g w') Q) a w):(Code.loop c).wp P Q a w:=by
 refine wp_loop (λa w=>∃n,I n a w) (λa w=>least λn=>I n a w) ⟨n,j⟩ λa w h=>?_;obtain⟨k,l⟩:=Ms h;refine wp_mono (b _ a w k) λe g w' i=>?_;cases e with
 | normal =>
   obtain⟨m,m1,d⟩:=i;exact⟨⟨m,d⟩,Nat.lt_of_le_of_lt ((Ms ⟨m,d⟩).2 m d) m1⟩
 | _=>exact i
def Mt:Nat->Exit
 | 0=>.normal
 | 1=>.ret
 | i+2=>.exit i
def I9{l m t}:dA (l++m) t=(dA l t||dA m t):=by
 induction l with
 | nil=>rfl
 | cons i r b=>simp only[JJ,dA,b,ZD]
def F9(b:List Nat)(a c:Act):Prop:=∀t,dA b t=false->c.tmps[t]?=a.tmps[t]?
def F9.refl ws a:F9 ws a a:=λ_ _=>rfl
def F9.trans{ws a b c}(h:F9 ws a b)(k:F9 ws b c):F9 ws a c:=λt d=>(k t d).trans (h t d)
def F9.left{ws vs a b}(h:F9 ws a b):F9 (ws++vs) a b:=λt c=>h t (by rw[I9,Ou] at c;exact c.1)
def F9.right{ws vs a b}(h:F9 vs a b):F9 (ws++vs) a b:=λt c=>h t (by rw[I9,Ou] at c;exact c.2)
def UT{t}:∀{l k},dA (rK l) t=false->oH t (number k l)=false:=by
 intro l;induction l with
 | nil=>intro k _;rfl
 | cons o l b =>
   intro k h;simp only[number,oH];cases hd:o.dst with
   | none=>simp only[rK,hd] at h;rw[b h];rfl
   | some d =>
     simp only[rK,hd,dA,Ou] at h;rw[b h.2];simp;exact ko λe=>by subst e;simp at h
def Sd{l:List Oper}{o}(h:o∈l){k:Nat}(c:o.dst=ab k):k∈rK l:=by
 induction l with
 | nil=>cases h
 | cons p l b =>
   rcases lW.1 h with h|h
   .subst h;simp only[rK,c];exact pI ..
   .simp only[rK];split
    .exact va _ (b h)
    .exact b h
def Qk{α}{f:Nat->Tree α}:∀{es e i},JN es e=ab i->(FC es i f).run=(f e).run:=by
 intro es;induction es with
 | nil=>intro e i h;cases h
 | cons k r l =>
   intro e i h;simp only[JN] at h;have one:∀{b},(bif b then ab 0 else(JN r e).map (·+1))=ab i->(b=true/\i=0)\/(b=false/\∃j,JN r e=ab j/\i=j+1):=by
    intro b g;cases b with
    | true=>exact .inl ⟨rfl,(aQ g).symm⟩
    | false =>
      obtain⟨j,c,d⟩:=Em.1 g;exact .inr ⟨rfl,j,c,d.symm⟩
   rcases one h with ⟨c,rfl⟩|⟨c,j,d,rfl⟩
   .obtain rfl:=iT c;cases r with
    | nil=>rfl
    | cons m s=>rfl
   .cases r with
    | nil=>cases d
    | cons m s=>exact l d
section
variable {P:Program} {B:BA} {N:Nat} {cx:Ctx} {nb:Nat} {bf:List Nat} {inl:Nat->List cB->St->Tree (cB×St)}
def XM(c:∀f d σ v aY,(inl f d σ).run=ab (v,aY)->b7 σ aY):∀l k b σ aY,(Lw cx nb bf inl (number k l) b σ).run=ab aY->b7 σ aY:=by
 intro l;induction l with
 | nil=>intro k b σ aY h;obtain rfl:=aQ h;apply b7.refl
 | cons o l e =>
   intro k b σ aY h;simp only[number,Lw] at h;split at h
   .cases h
   .obtain⟨m,g⟩:=aI h;obtain⟨b5,i,j⟩:=bind_some g;exact(B2 c b5<|C3 (KM o σ) i).trans (e _ _ _ _ j)
def abj{fz M V}:∀{l x t},Du l t=false->Ly fz M V l x t=none:=by
 intro l;induction l with
 | nil=>intro x t _;rfl
 | cons p r b =>
   intro x t h;simp only[Du,Ou] at h;simp only[Ly,h.1];exact b h.2
def UU{k:Carry}{fz lock wr σ x b c}(d:σ.mem b=ab c)(h:Du k.M b=false):(k.pJ fz lock wr σ x).mem b=ab { c with lk:=c.lk||lock }:=by
 simp only[Carry.pJ];rw[abj h,d]
def B6{k fz lock wr σ x}(h:C5 k σ):b7 σ (k.pJ fz lock wr σ x):=by
 intro b i c d;have:Du k.M b=false:=by
  cases j:Du k.M b with
  | false=>rfl
  | true =>
    obtain⟨s,l,m⟩:=agW j;obtain⟨e,_,g⟩:=h.M b s l m;rw[c] at e;obtain rfl:=aQ e;rw[d] at g;cases g
 rw[UU c this];cases i;subst d;rfl
def Ja{α}{Q:α->Prop}{f}(b:∀e y,(f e).run=ab y->Q y):∀{es i y},(FC es i f).run=ab y->Q y:=by
 intro es;induction es with
 | nil=>intro i y h;cases h
 | cons k r d =>
   intro i y h;cases r with
   | nil=>exact b k y h
   | cons m s =>
     have:=gN h;cases c:de i 0 with
     | true=>rw[c] at this;exact b k y this
     | false=>rw[c] at this;exact d this
def Mu:∀{l σ aY},FB l σ=ab aY->b7 σ aY:=by
 intro l;induction l with
 | nil=>intro σ aY h;obtain rfl:=aQ h;apply b7.refl
 | cons m r b =>
   intro σ aY h;unfold FB at h;cases c:Nat.ble 2000000 m with
   | false=>rw[c] at h;exact b h
   | true =>
     rw[c] at h;split at h
     .split at h
      .split at h
       .split at h
        .rename_i d;exact(qY d).trans ((b7.put _ _ _).trans<|b h)
        .cases h
       .cases h
      .cases h
     .exact b h
def Jb{B N a w}:∀{l σ aY γ},FB l σ=ab aY->dJ B N γ σ a w->∃bJ,dJ B N bJ aY a w/\Ext B γ σ.mem w bJ aY.mem w:=by
 intro l;induction l with
 | nil=>intro σ aY γ h b;obtain rfl:=aQ h;exact⟨γ,b,Ext.refl _ _ _ _⟩
 | cons m r d =>
   intro σ aY γ h b;unfold FB at h;cases i:Nat.ble 2000000 m with
   | false=>rw[i] at h;exact d h b
   | true =>
     rw[i] at h;generalize m-2000000=k at h;split at h
     .split at h
      .split at h
       .split at h
        .rename_i x b5 j;obtain⟨e,c,n,o⟩:=nY b (b.br k) j;have p:dJ B N e (b5.put k _) a w:=⟨λt=>by
          unfold St.put;dsimp only;cases q:Nat.beq t k with
          | false=>exact c.br t
          | true =>
            obtain rfl:=iT q;exact o,c.size,c.defers,c.ok⟩
         obtain⟨g,s,u⟩:=d h p;exact⟨g,s,n.trans u⟩
        .cases h
       .cases h
      .cases h
     .exact d h b
def XN{f}(e:∀σ r,(f σ).run=ab r->b7 σ r.2):∀n σ r,(again f n σ).run=ab r->b7 σ r.2:=by
 intro n;induction n with
 | zero=>intro σ r h;cases h
 | succ n g =>
   intro σ r h;obtain⟨i,j,b⟩:=bind_some h;have c:=e _ _ j;cases d:Nat.beq i.1 0 with
   | true=>rw[d] at b;exact c.trans (g _ _ b)
   | false=>rw[d] at b;obtain rfl:=aQ b;exact c
def UW{f}(g:∀σ r,(f σ).run=ab r->b7 σ r.2){c}:∀n j σ r,(Ho f c n j σ).run=ab r->b7 σ r.2:=by
 intro n;induction n with
 | zero=>intro j σ r h;cases h
 | succ n i =>
   intro j σ r h;unfold Ho at h;split at h
   .have h:=cO h;obtain⟨k,l,b⟩:=bind_some h.2;have d:=(b7.put σ c _).trans (g _ _ l);cases e:Nat.beq k.1 0 with
    | true=>rw[e] at b;exact d.trans (i _ _ _ b)
    | false=>rw[e] at b;obtain rfl:=aQ b;exact d
   .cases h
def wU(g:∀f z σ v aY,(inl f z σ).run=ab (v,aY)->b7 σ aY):∀c j σ r,(kD cx nb bf inl c j σ).run=ab r->b7 σ r.2:=by
 intro c;induction c with
 | skip=>intro j σ r h;obtain rfl:=aQ h;exact b7.refl _
 | label l=>intro j σ r h;obtain rfl:=aQ h;exact b7.refl _
 | ret=>intro j σ r h;obtain rfl:=aQ h;exact b7.refl _
 | exit i=>intro j σ r h;obtain rfl:=aQ h;apply b7.refl
 | region id ops I =>
   intro j σ r h;obtain⟨b5,q,d⟩:=bind_some h;obtain rfl:=aQ d;cases I with
   | true =>
     have m:(zi cx nb bf inl ops σ).run=ab b5:=q;unfold zi at m;cases F:ops.any λo=>o.guard.isSome with
     | true =>
       rw[F] at m;obtain⟨J,K⟩:=aI m;exact XH g _ _ _ _ _ _ K
     | false =>
       rw[F] at m;exact XM g _ _ _ _ _ m
   | false=>exact F4 g _ _ _ _ q
 | seq a b s t =>
   intro j σ r h;obtain⟨A,q,d⟩:=bind_some h;have G:=s _ _ _ q;cases H:Nat.beq A.1 0 with
   | true=>rw[H] at d;exact G.trans (t _ _ _ d)
   | false=>rw[H] at d;obtain rfl:=aQ d;exact G
 | block i a u =>
   intro j σ r h;obtain⟨A,q,d⟩:=bind_some h;obtain rfl:=aQ d;exact u _ _ A q
 | scope a u=>intro j σ r h;exact u _ _ _ h
 | cond c a b s t =>
   intro j σ r h;unfold kD at h;split at h
   .rename_i L O R;have:=gN h;cases L with
    | false=>exact t _ _ _ this
    | true=>exact s _ _ _ this
   .split at h
    .cases h
    rename_i σ n;refine(Mu n).trans ?_;split at h
    .cases h
    .rename_i k C;have p:=Ad C;dsimp only at h;split at h
     .rw[Tree.BL] at h;obtain⟨x,q,d⟩:=Ds.1 h;obtain rfl:=aQ d;exact B6 p
     .rw[Tree.BL] at h;obtain⟨x,q,d⟩:=Ds.1 h;exact Ja (Q:=λr:Nat×St=>b7 σ r.2) (λe y D=>by obtain rfl:=aQ D;exact B6 p) d
   .cases h
 | loop a u =>
   intro j σ r h;unfold kD at h;split at h
   .split at h
    .exact UW (λσ r E=>u _ _ _ E) _ _ _ _ h
    split at h
    .cases h
    rename_i σ n;refine(Mu n).trans ?_;split at h
    .cases h
    .rename_i k C;have p:=Ad C;dsimp only at h;split at h
     .cases h
     .split at h
      .obtain⟨x,q,d⟩:=cm h;obtain rfl:=aQ d;exact B6 p
      .obtain⟨x,q,d⟩:=cm h;exact Ja (Q:=λr=>b7 σ r.2) (λe y D=>by obtain rfl:=aQ D;exact B6 p) d
   .exact XN (λσ r E=>u _ _ _ E) _ _ _ h
   .cases h
 | _=>intro j σ r h;cases h
end
end Go.Ge
namespace Go.Ge
variable [Lp]
open RowKit
section
variable {P:Program} {B:BA} {N:Nat} {cx:Ctx} {nb:Nat} {bf:List Nat} {inl:Nat->List cB->St->Tree (cB×St)}
def Ga(k:Carry) σ:(k.lock σ).mem=vP (λb c=>bif Du k.M b then c.lk else true) σ.mem:=by
 funext b;simp only[Carry.lock,vP];cases σ.mem b with
 | none=>rfl
 | some c=>cases Du k.M b<;>rfl
def agX(k:Carry) σ:k.lock σ={ σ with mem:=vP (λb c=>bif Du k.M b then c.lk else true) σ.mem }:=by
 have:=Ga k σ;unfold Carry.lock at this⊢;dsimp only at this⊢;rw[this]
def HE{T β}{t:Tree T}{k:T->Tree β}{y}(h:(t.join k).run=ab y):∃x,t.run=ab x/\(k x).run=ab y:=by
 rw[Tree.BL] at h;exact Ds.1 h
def Mv{α}{o:Option α}{y}(h:(Tree.adI o).run=ab y):o=ab y:=by
 cases o with
 | none=>cases h
 | some x=>exact h
def aet{e0 e i}(h:JN [e0] e=ab i):e=e0:=by
 simp only[JN] at h;cases b:Nat.beq e0 e with
 | true=>exact(iT b).symm
 | false=>rw[b] at h;cases h
def dJ.ZR{γ σ a w}(h:dJ B N γ σ a w){i v}(b:cM γ σ.mem w v .val [a.tmps.getD i Go.undef]):dJ B N γ (σ.put i v) a w where
 br:=λt=>by
  show cM γ σ.mem w (bif Nat.beq t i then v else σ.br t) .val _
  cases c:Nat.beq t i with
  | true=>obtain rfl:=iT c;exact b
  | false=>exact h.br t
 size:=h.size
 defers:=h.defers
 ok:=h.ok
def Se{a w}:∀{l σ aY γ},settle l σ=ab aY->dJ B N γ σ a w->∃bJ,dJ B N bJ aY a w/\Ext B γ σ.mem w bJ aY.mem w/\b7 σ aY:=by
 intro l;induction l with
 | nil=>intro σ aY γ h c;obtain rfl:=aQ h;exact⟨γ,c,Ext.refl _ _ _ _,b7.refl _⟩
 | cons p r e =>
   obtain⟨i,s⟩:=p;intro σ aY γ h c;cases s with
   | d t =>
     simp only[settle] at h;split at h
     .rename_i x b5 j;obtain⟨n,o,q,u⟩:=nY c (c.br i) j;obtain⟨g,y,z,A⟩:=e h (o.ZR u);exact⟨g,y,q.trans z,(qY j).trans A⟩
     .cases h
   | k v=>exact e h c
   | m a b=>exact e h c
def Gb{k fz wr x rz qZ XL γ a a0 w w0}(j:C5 k rz)(l:dJ B N XL rz a0 w0)(m:dJ B N γ qZ a w)(n:Ext B XL rz.mem w0 γ qZ.mem w)
  (o:∀t,dA wr t=false->a.tmps[t]?=a0.tmps[t]?) (c:∀b e,rz.mem b=ab e->Du k.M b=false->qZ.mem b=ab { e with lk:=true }) (g:k.LA fz rz qZ=ab x) :
  ∃bJ,dJ B N bJ (k.pJ fz false wr rz x) a w/\Ext B XL rz.mem w0 bJ (k.pJ fz false wr rz x).mem w:=by
 unfold Carry.LA at g;cases fz with
 | false=>exact⟨γ,uF j l m n o (λb e h d=>⟨true,c b e h d⟩) g⟩
 | true =>
   split at g
   .rename_i b5 p;obtain⟨i,q,r,s⟩:=Se p m;exact⟨i,uF j l q (n.trans r) o (λb e h d=>⟨true,s b _ (c b e h d) rfl⟩) g⟩
   .cases g
noncomputable def roundOf(d:Ctx)(e:Nat)(g:List Nat)(inl:Nat->List cB->St->Tree (cB×St))(k:Carry)(h:Bool)(b:St)(c:Code)(j:List (Option Lx))(x:k.ty.den):Option (k.ty.den⊕(Nat×k.ty.den)) :=
 ((kD d e g inl c j<|k.pJ false true (writes c) b x).bind λr=>bif Nat.beq r.1 0 then(match k.out false b r.2 with
   | some y=>.ret (.inl y)
   | none=>.fail)
  else match JN (vy c) r.1,k.LA h b r.2 with
   | some i,ab y=>.ret (.inr (i,y))
   | _,_=>.fail).run
def Ql{c k fz σ γ a w Q R}(C:C5 k σ)(h:dJ B N γ σ a w){x0}(D:k.out false σ σ=ab x0)
  f (Out:R->Nat->k.ty.den->Prop) {z} (X:Loop f x0=ab z)
  (Y:∀x r,f x=ab r->∃e y,(match r with|.inl E=>e=0/\E=y|.inr z=>e≠0/\Out z e y) /\
   ∀j q t S,dJ B N j (k.pJ false true (writes c) σ x) q t->(∀qZ bJ d w',(bif Nat.beq e 0 then k.out false σ qZ else k.LA fz σ qZ)=ab y->b7 (k.pJ false true (writes c) σ x) qZ->dJ B N bJ qZ d w'->Ext B j (k.pJ false true (writes c) σ x).mem t bJ qZ.mem w'->F9 (writes c) q d->S (Mt e) d w') ->
    c.wp P S q t)
  (final:∀e y,e≠0->Out z e y->∀bJ d w',dJ B N bJ (k.pJ fz false (writes c) σ y) d w'->Ext B γ σ.mem w bJ (k.pJ fz false (writes c) σ y).mem w'->F9 (writes c) a d->Q (Mt e) d w') :
  (Code.loop c).wp P Q a w:=by
 obtain⟨n,Z⟩:=rJ X;refine HD (λm d w'=>∃bJ x,dJ B N bJ (k.pJ false true (writes c) σ x) d w'/\Ext B γ σ.mem w bJ (k.pJ false true (writes c) σ x).mem w'/\F9 (writes c) a d/\rounds f m x=ab z) (n:=n) ?_ ?_
 .obtain⟨s,x⟩:=uF C h h (Ext.refl _ _ _ _) (λ_ _=>rfl) (λb o u _=>⟨o.lk,u⟩) D;exact⟨γ,x0,s,x,F9.refl _ _,Z⟩
 .intro m q t hI;obtain⟨j,x,s1,e1,f1,T⟩:=hI;cases m with
  | zero=>cases T
  | succ m =>
    obtain⟨r,F,v⟩:=Ds.1 T;obtain⟨e,y,U,G⟩:=Y x r F;refine G j q t _ s1 λqZ bJ d w' H I W e2 f2=>?_;have hx:=e1.trans e2;have l:=f1.trans f2;have g:∀b o,σ.mem b=ab o->Du k.M b=false->qZ.mem b=ab { o with lk:=true }:=λb o u p=>by
     have:=I b _ (UU u p) bb;simpa using this
    cases r with
    | inl E =>
      obtain⟨rfl,rfl⟩:=U;obtain⟨J,K⟩:=uF C h W hx l (λb o u p=>⟨true,g b o u p⟩) H;exact⟨m,Zx m,bJ,E,J,K,l,v⟩
    | inr z' =>
      obtain⟨A,hO⟩:=U;obtain rfl:=aQ v;have L:Nat.beq e 0=false:=ko A;rw[L] at H;obtain⟨O,J,K⟩:=Gb C h W hx l g H;have:=final e y A hO O d w' J K l
      match e,A,this with
      | 0,A,_=>exact absurd rfl A
      | 1,_,this=>exact this
      | i+2,_,this=>exact this
def abk{S}{o:Option (S⊕(Nat×S))}{r}(h:dq o=ab r):(∃y,r=.inl y/\o=ab (.inl y))\/∃i y,r=.inr y/\o=ab (.inr (i,y)):=by
 obtain⟨q,b,c⟩:=Em.1 h;cases q with
 | inl y=>exact .inl ⟨y,c.symm,b⟩
 | inr p=>exact .inr ⟨p.1,p.2,c.symm,b⟩
def uG(al9:P.follows .mixedOrders=true)(hc:fS P cx)(agP:qX P B.G cx)(agQ:xV P B.G inl)(H:∀f aiV σ v aY,(inl f aiV σ).run=ab (v,aY)->b7 σ aY) :
  ∀c {pl σ γ a w e aY Q},(∀t∈writes c,t<N)->(kD cx nb bf inl c pl σ).run=ab (e,aY)->dJ B N γ σ a w ->
   (∀bJ d w',dJ B N bJ aY d w'->Ext B γ σ.mem w bJ aY.mem w'->F9 (writes c) a d->Q (Mt e) d w')->c.wp P Q a w:=by
 intro c;induction c with
 | skip =>
   intro pl σ γ a w e aY Q F g h u;obtain⟨rfl,rfl⟩:=cd (aQ g);exact wp_skip (u γ a w h (Ext.refl _ _ _ _)<|F9.refl _ _)
 | label l =>
   intro pl σ γ a w e aY Q F g h u;obtain⟨rfl,rfl⟩:=cd (aQ g);exact wp_label (u γ a w h (Ext.refl _ _ _ _)<|F9.refl _ _)
 | ret =>
   intro pl σ γ a w e aY Q F g h u;obtain⟨rfl,rfl⟩:=cd (aQ g);exact wp_ret (u γ a w h (Ext.refl _ _ _ _)<|F9.refl _ _)
 | exit i =>
   intro pl σ γ a w e aY Q F g h u;obtain⟨rfl,rfl⟩:=cd (aQ g);exact wp_exit (u γ a w h (Ext.refl _ _ _ _)<|F9.refl _ _)
 | region id ops dr =>
   intro pl σ γ a w e aY Q F g h u;obtain⟨b5,R,L⟩:=bind_some g;obtain⟨rfl,rfl⟩:=cd (aQ L);have hd':∀o∈ops.toList,∀k,o.dst=ab k->k<N:=λo ho k hk=>F k (Sd ho hk);have hfr:∀{a d},Fr (number 0 ops.toList) a d->F9 _ a d:=λhf t ht=>hf t (UT ht);cases dr with
   | true=>exact UP al9 hc agP agQ hd' R h λbJ d w' s x f=>u bJ d w' s x (hfr f)
   | false=>exact RW hc agP agQ H hd' R h λbJ d w' s x f=>u bJ d w' s x (hfr f)
 | seq x y ihx ihy =>
   intro pl σ γ a w e aY Q F g h u;obtain⟨r1,R,L⟩:=bind_some g;obtain⟨Y,b5⟩:=r1;have hdx:=λt ht=>F t (En _ ht);have hdy:∀t∈writes y,t<N:=λt ht=>F t (Lc _ ht);refine wp_seq (ihx hdx R h λbJ d w' D I C=>?_);cases Y with
   | zero=>exact ihy hdy L D λama a'' w'' s2 x2 f2=>u ama a'' w'' s2 (I.trans x2) (C.left.trans f2.right)
   | succ Y =>
     obtain⟨rfl,rfl⟩:=cd (aQ L);have:=u bJ d w' D I C.left;cases Y with
     | zero=>exact this
     | succ i=>exact this
 | block i x ih =>
   intro pl σ γ a w e aY Q F g h u;obtain⟨r1,R,L⟩:=bind_some g;obtain⟨Y,b5⟩:=r1;obtain⟨rfl,rfl⟩:=cd (aQ L);refine wp_block (ih F R h λbJ d w' D I C=>?_);have:=u bJ d w' D I C
   match Y,this with
   | 0,this=>exact this
   | 1,this=>exact this
   | j+2,this =>
     show Exit.inBlock i Q (.exit j) d w'
     unfold Exit.inBlock;by_cases e:j=i
     .subst e;simpa [Mt] using this
     .simp only[aR e];have hb:Nat.beq (j+2) (i+2)=false:=ko ai;rw[hb] at this;exact this
 | scope x ih =>
   intro pl σ γ a w e aY Q F g h u;refine wp_scope_straight (ih F g h λbJ d w' D I C=>?_);have:=u bJ d w' D I C
   match e,this with
   | 0,this=>exact this
   | 1,this=>exact this
   | j+2,this=>exact this
 | cond o x y ihx ihy =>
   intro pl σ γ a w e aY Q F g h u;have hdx:=λt ht=>F t (En _ ht);have hdy:=λt ht=>F t (Lc _ ht);unfold kD at g;split at g
   .rename_i c0 O hcv;have E:=h.dw o;rw[hcv] at E;have E:=z8 E;have hn:=gN g;cases c0 with
    | false=>exact wp_cond_false E (ihy hdy hn h λbJ d w' D I C=>u bJ d w' D I C.right)
    | true=>exact wp_cond_true E (ihx hdx hn h λbJ d w' D I C=>u bJ d w' D I C.left)
   .rename_i c0 p O hcv;have E:=h.dw o;rw[hcv] at E;have E:=z8 E;split at g
    .cases g
    rename_i σ Z;obtain⟨γ,h,hx⟩:=Jb Z h;replace u:=λbJ d w' s x f=>u bJ d w' s (hx.trans x) f;split at g
    .cases g
    rename_i k hk;have hok:=Ad hk;have go:∀{r},(Tree.node c0 (kD cx nb bf inl x O<|k.lock σ)<|kD cx nb bf inl y (O.drop<|marks x)<|k.lock σ).run=ab r->∀{v},k.LA p.fz σ r.2=ab v ->
      (∀bJ d w',dJ B N bJ (k.pJ p.fz false (writes x++writes y) σ v) d w'->Ext B γ σ.mem w bJ (k.pJ p.fz false (writes x++writes y) σ v).mem w'->F9 (writes x++writes y) a d->Q (Mt r.1) d w') ->
      (Code.cond o x y).wp P Q a w:=by
     intro r S v ho hQ;have hlk:dJ B N γ (k.lock σ) a w:=by rw[agX];exact h.vP
     have hle:Ext B γ σ.mem w γ (k.lock σ).mem w:=by rw[Ga];exact Ext.vP
     have fin:b7 (k.lock σ) r.2->∀bJ d w',dJ B N bJ r.2 d w'->Ext B γ (k.lock σ).mem w bJ r.2.mem w'->F9 (writes x++writes y) a d->Q (Mt r.1) d w':=by
      intro hkp bJ d w' D I C;obtain⟨γ2,s2,x2⟩:=Gb hok h D (hle.trans I) C (λb bx hb ZL=>hkp b _ (by rw[Ga,Qj hb,ZL];rfl) rfl) ho;exact hQ γ2 d w' s2 x2 C
     have hn:=gN S;cases c0 with
     | false=>exact wp_cond_false E (ihy hdy hn hlk λbJ d w' D I C=>fin (wU H _ _ _ _ hn) bJ d w' D I C.right)
     | true=>exact wp_cond_true E (ihx hdx hn hlk λbJ d w' D I C=>fin (wU H _ _ _ _ hn) bJ d w' D I C.left)
    split at g
    .obtain⟨v,R,L⟩:=HE g;obtain⟨rfl,rfl⟩:=cd (aQ L);obtain⟨r,h3,h4⟩:=bind_some R;obtain⟨h5,h6⟩:=aI h4;refine go h3 (Mv h6) λbJ d w' s x f=>?_;rw[iT h5];exact u bJ d w' s x f
    .rename_i es hes;obtain⟨v,R,L⟩:=HE g;obtain⟨r,h3,h4⟩:=bind_some R;split at h4
     .rename_i i v' J ho;obtain rfl:=aQ h4;rw[Qk J] at L;obtain⟨rfl,rfl⟩:=cd (aQ L);exact go h3 ho λbJ d w' s x f=>u bJ d w' s x f
     .cases h4
   .cases g
 | loop c ih =>
   intro pl σ γ a w e aY Q F g h u;unfold kD at g;split at g
   case h_2 =>
    generalize 100000=n at g;refine HD (λm d w'=>∃bJ b5,dJ B N bJ b5 d w'/\Ext B γ σ.mem w bJ b5.mem w'/\F9 (writes c) a d/\(again _ m b5).run=ab _) ⟨γ,σ,h,Ext.refl _ _ _ _,F9.refl _ _,g⟩ ?_;intro m a1 w1 hI;obtain⟨T,b5,D,Y,C,K⟩:=hI;cases m with
    | zero=>cases K
    | succ m =>
      obtain⟨r,U,A⟩:=bind_some K;obtain⟨e',cP⟩:=r;refine ih F U D λbJ d w' s2 e2 f2=>?_;cases X:Nat.beq e' 0 with
      | true =>
        dsimp only at A;rw[X] at A;obtain rfl:=iT X;exact⟨m,Zx m,bJ,cP,s2,Y.trans e2,C.trans f2,A⟩
      | false =>
        dsimp only at A;rw[X] at A;obtain⟨rfl,rfl⟩:=cd (aQ A);have:=u bJ d w' s2 (Y.trans e2) (C.trans f2)
        match e',X,this with
        | 0,X,_=>cases X
        | 1,_,this=>exact this
        | i+2,_,this=>exact this
   case h_3=>cases g
   rename_i p O;split at g
   .rename_i ct hct;generalize 100=n at g;generalize 0=j at g;refine HD (λm d w'=>∃bJ b5 j',dJ B N bJ b5 d w'/\Ext B γ σ.mem w bJ b5.mem w'/\F9 (writes c) a d/\(Ho _ ct m j' b5).run=ab _) ⟨γ,σ,j,h,Ext.refl _ _ _ _,F9.refl _ _,g⟩ ?_;intro m a1 w1 hI;obtain⟨T,b5,j1,D,Y,C,K⟩:=hI;cases m with
    | zero=>cases K
    | succ m =>
      unfold Ho at K;split at K
      case h_2=>cases K
      rename_i x hx;obtain⟨hj,hr2⟩:=cO K;obtain⟨r,U,A⟩:=bind_some hr2;obtain⟨e',cP⟩:=r;change Int at x;have s1':dJ B N T (b5.put ct<|.data (.int .i64) (j1:Int)) a1 w1:=D.ZR (by
       have:=D.br ct;rw[hx] at this;rw[<-(iq hj)];exact this)
      refine ih F U s1' λbJ d w' s2 e2 f2=>?_;cases X:Nat.beq e' 0 with
      | true =>
        obtain rfl:=iT X;exact⟨m,Zx m,bJ,cP,j1+1,s2,Y.trans e2,C.trans f2,A⟩
      | false =>
        dsimp only at A;rw[X] at A;obtain⟨rfl,rfl⟩:=cd (aQ A);have:=u bJ d w' s2 (Y.trans e2) (C.trans f2)
        match e',X,this with
        | 0,X,_=>cases X
        | 1,_,this=>exact this
        | i+2,_,this=>exact this
   split at g
   .cases g
   rename_i σ Z;obtain⟨γ,h,hx⟩:=Jb Z h;replace u:=λbJ d w' s x f=>u bJ d w' s (hx.trans x) f;split at g
   .cases g
   rename_i k hk;have hok:=Ad hk;dsimp only at g;split at g
   .cases g
   rename_i x0 hx0;have hb:∀x r,roundOf cx nb bf inl k p.fz σ c O x=ab r->∃e qZ y,(kD cx nb bf inl c O<|k.pJ false true (writes c) σ x).run=ab (e,qZ)/\(bif Nat.beq e 0 then k.out false σ qZ else k.LA p.fz σ qZ)=ab y/\((e=0/\r=.inl y)\/(e≠0/\∃i,JN (vy c) e=ab i/\r=.inr (i,y))):=by
    intro x r hx;obtain⟨q,U,A⟩:=bind_some hx;obtain⟨e,qZ⟩:=q;cases he:Nat.beq e 0 with
    | true =>
      rw[he] at A;split at A
      .rename_i y hy;exact⟨e,qZ,y,U,by rw[he];exact hy,.inl ⟨iT he,(aQ A).symm⟩⟩
      .cases A
    | false =>
      rw[he] at A;simp at A;split at A
      .rename_i i y hi hy;exact⟨e,qZ,y,U,by rw[he];exact hy,.inr ⟨λe0=>(by subst e0;cases he),i,hi,(aQ A).symm⟩⟩
      .cases A
   have step:∀{x e qZ y},(kD cx nb bf inl c O<|k.pJ false true (writes c) σ x).run=ab (e,qZ)->(bif Nat.beq e 0 then k.out false σ qZ else k.LA p.fz σ qZ)=ab y->∀T a1 w1 Q',dJ B N T (k.pJ false true (writes c) σ x) a1 w1 ->
     (∀qZ bJ d w',(bif Nat.beq e 0 then k.out false σ qZ else k.LA p.fz σ qZ)=ab y->b7 (k.pJ false true (writes c) σ x) qZ->dJ B N bJ qZ d w'->Ext B T (k.pJ false true (writes c) σ x).mem w1 bJ qZ.mem w'->F9 (writes c) a1 d->Q' (Mt e) d w')->c.wp P Q' a1 w1:=by
    intro x e qZ y S ho T a1 w1 Q' s hQ;exact ih F S s λbJ d w' D I C=>hQ qZ bJ d w' ho (wU H _ _ _ _ S) D I C
   split at g
   .rename_i e0 hes;obtain⟨v,R,L⟩:=cm g;obtain⟨rfl,rfl⟩:=cd (aQ L);refine Ql (fz:=p.fz) hok h hx0 _ (λz e' y=>e'=e0/\z=y) R (λx r hx=>?_) (λe' y hne hO bJ d w' s x f=>?_)
    .rcases abk hx with ⟨y,rfl,hy⟩|⟨i,y,rfl,hy⟩
     .obtain⟨e,qZ,y',U,A,W⟩:=hb x _ hy;rcases W with ⟨rfl,W⟩|⟨_,i,_,W⟩
      .obtain rfl:=T4 W;exact⟨0,y,⟨rfl,rfl⟩,step U A⟩
      .cases W
     .obtain⟨e,qZ,y',U,A,W⟩:=hb x _ hy;rcases W with ⟨rfl,W⟩|⟨hne,i',J,W⟩
      .cases W
      .obtain⟨rfl,rfl⟩:=cd (Sum.inr.inj W);rw[hes] at J;exact⟨e,y,⟨hne,aet J,rfl⟩,step U A⟩
    .obtain⟨rfl,rfl⟩:=hO;exact u bJ d w' s x f
   .obtain⟨v,R,L⟩:=cm g;refine Ql (fz:=p.fz) hok h hx0 _ (λz e' y=>JN (vy c) e'=ab z.1/\z.2=y) R (λx r hx=>?_) (λe' y hne hO bJ d w' s x f=>?_)
    .obtain⟨e,qZ,y',U,A,W⟩:=hb x _ hx;rcases W with ⟨rfl,rfl⟩|⟨hne,i,J,rfl⟩
     .exact⟨0,y',⟨rfl,rfl⟩,step U A⟩
     .exact⟨e,y',⟨hne,J,rfl⟩,step U A⟩
    .obtain⟨J,rfl⟩:=hO;rw[Qk J] at L;obtain⟨rfl,rfl⟩:=cd (aQ L);exact u bJ d w' s x f
 | _=>intro pl σ γ a w e aY Q F g h u;cases g
end
end Go.Ge
namespace Go.Ge
variable [Lp]
open RowKit
def XO(b:Func):Bool:=!(b.name == "runtime.NumGoroutine")&&(match b.body with|some c=>(writes c).all λt=>Nat.blt t b.ntmps|none=>true)
def Qm(cx:Ctx):Prop:=∀f b,find cx.fns f=ab b->XO b=true
def uH{α}{l:List (Nat×α)}{k x}(h:find l k=ab x):(k,x)∈l:=by
 induction l with
 | nil=>cases h
 | cons p r c =>
   obtain⟨i,a⟩:=p;simp only[find] at h;cases b:Nat.beq i k with
   | true =>
     rw[b] at h;obtain rfl:=aQ h;obtain rfl:=iT b;exact pI ..
   | false=>rw[b] at h;exact va _ (c h)
def UX{cx}(h:(cx.fns.all λp=>XO p.2)=true):Qm cx:=λf c b=>by
 rw[vL] at h;exact h _ (uH b)
section
variable {P:Program} {B:BA} {N:Nat} {γ:Gh} {σ:St} {a:Act} {w:World} {cx:Ctx}
def HF(b:Array Value):ResultVar->Sem Value
 | .tmp t=>pure (b.getD t undef)
 | .cell a t=>do loadVar t (<-asAddr (b.getD a undef))
def A8(e:fS P cx)(h:dJ B N γ σ a w){r v}(d:(Hp cx σ r).run=ab v):∃b,(HF a.tmps r).run P w=.ok b w/\cM γ σ.mem w v .val [b]:=by
 cases r with
 | tmp t =>
   obtain rfl:=aQ d;exact⟨_,rfl,h.br t⟩
 | cell t ty =>
   obtain⟨τ,g,i⟩:=bind_some d;obtain rfl:=aQ i;obtain⟨u,b,j,rfl,k,l,m⟩:=Uk e (x:=.tmp t) h g;refine⟨b,?_,?_⟩
   .have c:a.tmps.getD t undef=.pointer (ab j):=k;simp only[HF,c,asAddr,Sem.run_bind,Sem.run_pure,Result.andThen_ok,l]
   .simpa [St.bD,St.put] using m
def Mw(e:fS P cx)(h:dJ B N γ σ a w):∀{rs v},(FD cx σ rs).run=ab v->∃b,b.length=rs.length/\(rs.mapM<|HF a.tmps).run P w=.ok b w/\cM γ σ.mem w v .many b:=by
 intro rs;induction rs with
 | nil=>intro v d;obtain rfl:=aQ d;exact⟨[],rfl,rfl,rfl⟩
 | cons r rs g =>
   intro v d;obtain⟨t,i,j⟩:=bind_some d;obtain⟨l,k,m⟩:=bind_some j;obtain rfl:=aQ m;obtain⟨c,n,o⟩:=A8 e h i;obtain⟨b,p,q,s⟩:=g k;refine⟨c::b,by simp[p],?_,c,b,rfl,o,s⟩;simp only[ZC,Sem.run_bind,n,Result.andThen_ok,q,Sem.run_pure]
def XP fn tmps:results fn tmps=(do
  let vs <-fn.results.toList.mapM (HF tmps)
  pure (if h:vs.toArray.size=1 then vs.toArray[0] else .tuple vs.toArray)):=by
 have h:results fn tmps=(do
   let vs <-fn.results.mapM (HF tmps)
   pure (if h:vs.size=1 then vs[0] else .tuple vs)):=by
  congr 1
 rw[h,Array.mapM_eq_mapM_toList];simp
def yI(j:fS P cx)(h:dJ B N γ σ a w){fn v}(d:(results1 cx σ fn.results.toList).run=ab v):∃b,(results fn a.tmps).run P w=.ok b w/\cM γ σ.mem w v .val [b]:=by
 rw[XP];generalize fn.results.toList=rs at d;have many:∀{l},rs.length≠1->(FD cx σ rs).run=ab l->∃b,(do
   let vs <-rs.mapM (HF a.tmps)
   pure (if h:vs.toArray.size=1 then vs.toArray[0] else .tuple vs.toArray):Sem Value).run P w=.ok b w/\cM γ σ.mem w (.BF l) .val [b]:=by
  intro l e k;obtain⟨c,m,n,o⟩:=Mw j h k;refine⟨.tuple c.toArray,?_,c.toArray,rfl,by simpa using o⟩;have:¬c.toArray.size=1:=by simp[m,e]
  simp only[Sem.run_bind,n,Result.andThen_ok,Sem.run_pure,dif_neg this]
 match rs,d with
 | [],d =>
   obtain⟨l,g,i⟩:=bind_some d;obtain rfl:=aQ i;exact many bb g
 | [r],d =>
   obtain⟨b,p,q⟩:=A8 j h d;refine⟨b,?_,q⟩;simp only[ZC,Sem.run_bind,p];rfl
 | r::s::rs,d =>
   obtain⟨l,g,i⟩:=bind_some d;obtain rfl:=aQ i;exact many bb g
def HG{mem}(i:bM B γ mem w){b c}(e:nr γ mem w b c.toList) n :
  dJ B (c.size+(n-c.size)) γ (pS mem b) { tmps:=c++Array.replicate (n-c.size) undef,defers:=[] } w where
 br:=λt=>by
  show cM γ mem w ((b[t]?).getD .undef) .val [_]
  cases g:b[t]? with
  | none=>exact⟨_,rfl⟩
  | some v =>
    have h:t<c.size:=by
     have:=(hR.1 g).1;have d:=e.1;simp at d;omega
    have d:(c++Array.replicate (n-c.size) undef).getD t undef=c[t]:=by
     rw[WY,ah9 h,(Array.getElem?_eq_getElem h)];rfl
    rw[d];exact e.2 t v c[t] g bb
 size:=bb
 defers:=rfl
 ok:=i
noncomputable def Qn(c:Ctx)(n d:Nat)(b:Nat->FA):Nat->List cB->St->Tree (cB×St) :=
 λg e σ=>(FE c n ((d+g+1)*1000) b g e σ.mem).bind λr=>.ret (r.1,{ σ with mem:=r.2 })
def Mx{n nb f fF b mem r}(d:(FE cx (n+1) nb fF f b mem).run=ab r) :
  ∃e c,find cx.fns f=ab e/\e.body=ab c/\((LB cx nb (fF f) (Qn cx n nb fF) e c b mem).run=ab r\/∃R,(ZK R b mem<|LB cx nb (fF f) (Qn cx n nb fF) e c b).run=ab r):=by
 unfold FE at d;split at d
 case h_2=>cases d
 rename_i e g;split at d
 case h_2=>cases d
 rename_i c h;refine⟨e,c,g,h,?_⟩;split at d
 .exact .inl d
 .exact .inr ⟨_,d⟩
def EI{nb p inl fn c b mem r}(g:(LB cx nb p inl fn c b mem).run=ab r) :
  ∃e aY,(kD cx nb p.aiI inl c p.marks<|pS mem b).run=ab (e,aY)/\(e=0\/e=1)/\(results1 cx aY fn.results.toList).run=ab r.1/\r.2=aY.mem:=by
 obtain⟨q,h,i⟩:=bind_some g;obtain⟨e,aY⟩:=q;obtain⟨d,j⟩:=aI i;obtain⟨v,k,l⟩:=bind_some j;obtain rfl:=aQ l;refine⟨e,aY,h,?_,k,rfl⟩;simp only[Fs] at d;rcases d with d|d
 .exact .inl (iT d)
 .exact .inr (iT d)
def agY:∀{l i t s},(t,s)∈ZJ l i->∃u,s=.d u:=by
 intro l;induction l with
 | nil=>intro i t s h;cases h
 | cons a r b =>
   intro i t s h;rcases lW.1 h with h|h
   .obtain⟨rfl,rfl⟩:=cd h;exact⟨a,rfl⟩
   .exact b h
def My{R c mem F r}(d:(ZK R c mem F).run=ab r) :
  ∃(k:Carry) (x:k.ty.den) (v:cB) (cT:Nat->Option Box),C5 k (lQ mem)/\(F (k.lock<|lQ mem).mem).run=ab (v,cT)/\k.out false (lQ mem) (adT R.1 v cT)=ab x/\Ue R.1 v R.2.length=true /\
   r=(Ry R.1 R.2.length (k.pJ false false (List.range R.2.length) (lQ mem) x).br,(k.pJ false false (List.range R.2.length) (lQ mem) x).mem):=by
 unfold ZK at d;split at d
 .cases d
 rename_i m i;obtain⟨x,j,l⟩:=HE d;obtain⟨q,n,e⟩:=bind_some j;obtain⟨o,e⟩:=aI e;refine⟨⟨ZJ R.2 0,m,λ_ g=>g⟩,x,q.1,q.2,⟨λt s h=>?_,aer i,λb x p=>(by cases p)⟩,n,Mv e,o,(aQ l).symm⟩;obtain⟨u,rfl⟩:=agY h;trivial
def aeu{γ mem w}:∀{m vs},cM γ mem w m .many vs->Rx m=vs.length/\∀t u,nth m t=ab u->∃v,vs[t]?=ab v/\cM γ mem w u .val [v]:=by
 intro m;induction m with
 | mix a b _ d =>
   intro vs h;obtain⟨v,r,rfl,e,g⟩:=h;obtain⟨i,j⟩:=d g;refine⟨by simp only[Rx,jC,i],λt u c=>?_⟩;cases t with
   | zero=>obtain rfl:=aQ c;exact⟨v,rfl,e⟩
   | succ t=>exact j t u c
 | nl=>intro vs h;obtain rfl:vs=[]:=h;exact⟨rfl,λt u c=>(by cases t<;>cases c)⟩
 | _=>intro vs h;exact h.elim
def abl{γ mem w br}:∀b i,(∀t v,b[t]?=ab v->cM γ mem w (br<|i+t) .val [v])->cM γ mem w (aiK br i b.length) .many b:=by
 intro b;induction b with
 | nil=>intro i h;exact rfl
 | cons v r c =>
   intro i h;refine⟨v,r,rfl,h 0 v rfl,c _ λt u d=>?_⟩;have:=h (t+1) u (by simpa using d)
   rwa [show i+_=i+1+t by omega] at this
def XQ{fF}:∀n nb f d mem r,(FE cx n nb fF f d mem).run=ab r->∀b g,mem b=ab g->g.lk=true->r.2 b=ab g:=by
 intro n;induction n with
 | zero=>intro nb f d mem r h;cases h
 | succ n m =>
   intro nb f d mem r h b g j l;obtain⟨o,c,z,A,i⟩:=Mx h;have body:∀{mem r},(LB cx nb (fF f) (Qn cx n nb fF) o c d mem).run=ab r->∀b g,mem b=ab g->g.lk=true->r.2 b=ab g:=by
    intro mem r h b g j l;obtain⟨e,aY,i,C,D,p⟩:=EI h;have:=wU (λf d σ v aY s=>by
     obtain⟨q,t,u⟩:=bind_some s;obtain⟨rfl,rfl⟩:=cd (aQ u);exact λb g j l=>m _ _ _ _ q t b g j l) c _ _ _ i
    rw[p];exact this b g j l
   rcases i with i|⟨R,i⟩
   .exact body i b g j l
   .obtain⟨k,x,v,cT,y,_,_,_,rfl⟩:=My i;exact B6 (wr:=List.range R.2.length) y b g j l
def Mz{fF} n nb:∀f c σ v aY,(Qn cx n nb fF f c σ).run=ab (v,aY)->b7 σ aY:=by
 intro f c σ v aY d;obtain⟨q,e,g⟩:=bind_some d;obtain⟨rfl,rfl⟩:=cd (aQ g);exact λb h i j=>XQ _ _ _ _ _ q e b h i j
def Jc(Q:P.follows .mixedOrders=true)(hc:fS P cx){G}(S:qX P G cx)(T:Qm cx){fF} :
  ∀n nb f B γ mem cT w g y v,B.G=G->bM B γ mem w->nr γ mem w g y.toList->(FE cx n nb fF f g mem).run=ab (v,cT) ->
  (∃p U,P.funcs[f]?=ab p/\(p.name == "runtime.NumGoroutine")=false/\p.body=ab U) /\
  Calls P f y w λe w'=>∃d bJ,e=.returned d/\bM B bJ cT w'/\Ext B γ mem w bJ cT w'/\cM bJ cT w' v .val [d]:=by
 intro n;induction n with
 | zero=>intro nb f B γ mem cT w g y v _ _ _ h;cases h
 | succ n ih =>
   intro nb f B γ mem cT w g y v hG A K h;subst hG;obtain⟨p,c,h1,h2,C⟩:=Mx h;have D:=T f p h1;simp only[XO,h2,gy,zP,vL] at D;have hP:=hc.fns f p h1;refine⟨⟨p,c,hP,D.1,h2⟩,?_⟩;have W:xV P B.G (Qn cx n nb fF):=by
    intro B' γ σ aoX w f g y v hG A K hi;obtain⟨q,g1,g2⟩:=bind_some hi;obtain⟨rfl,rfl⟩:=cd (aQ g2);obtain⟨k1,k2⟩:=ih _ f B' γ σ.mem q.2 w g y q.1 hG A K g1;exact⟨k1,rfl,k2⟩
   have body:∀{γ mem cT v},bM B γ mem w->nr γ mem w g y.toList->(LB cx nb (fF f) (Qn cx n nb fF) p c g mem).run=ab (v,cT) ->
     Calls P f y w λe w'=>∃d bJ,e=.returned d/\bM B bJ cT w'/\Ext B γ mem w bJ cT w'/\cM bJ cT w' v .val [d]:=by
    intro γ mem cT v A K h;obtain⟨e,aY,C,h4,h5,h6⟩:=EI h;subst h6;refine calls_of_wp hP h2 ?_;refine uG Q hc S W (Mz _ _) c (λt r=>?_) C (HG A K p.ntmps) λbJ a' w' s x f=>?_
    .have:=D.2 t r;have:=JH (by simpa [Nat.blt] using this);omega
    .obtain⟨d,r1,r2⟩:=yI hc s h5;have:a'.defers=[]/\∃O,(results p a'.tmps).run P w'=.ok O w'/\∃d bJ,Ending.returned O=.returned d/\bM B bJ aY.mem w'/\Ext B γ mem w bJ aY.mem w'/\cM bJ aY.mem w' v .val [d] :=
      ⟨s.defers,d,r1,d,bJ,rfl,s.ok,x,r2⟩
     rcases h4 with rfl|rfl
     .exact this
     .exact this
   rcases C with C|⟨R,C⟩
   .exact body A K C
   .obtain⟨k,x,O,i,hk,h4,h5,E,h6⟩:=My C;obtain⟨rfl,rfl⟩:=cd h6;have F:(k.lock<|lQ mem).mem=vP _ mem:=Ga k _;have X:Ext B γ mem w γ (k.lock<|lQ mem).mem w:=by rw[F];exact Ext.vP
    have H:∀b I,(k.lock<|lQ mem).mem b=ab I->I.lk=true->i b=ab I:=by
     intro b I hb hl;obtain⟨e,aY,g3,_,_,g6⟩:=EI h4;have:=wU (λf g σ v aY hi=>Mz n nb f g σ v aY hi) c _ _ _ g3;rw[show i=aY.mem from g6];exact this b I hb hl
    refine(body (by rw[F];exact A.vP) (K.ext X) h4).mono λe w' hw=>?_;obtain⟨d,j,rfl,m1,x1,r1⟩:=hw;have fin:∀n (ts:Array Value),ts.size=n->n=R.2.length->(∀t,cM j i w' (spread R.1 O t) .val [ts.getD t undef]) ->
      (∀{o sl},(∀t,cM j o w' (sl t) .val [ts.getD t undef])->cM j o w' (Ry R.1 R.2.length sl) .val [d]) ->
      ∃z J,Ending.returned d=.returned z/\bM B J (k.pJ false false (List.range R.2.length) (lQ mem) x).mem w'/\Ext B γ mem w J (k.pJ false false (List.range R.2.length) (lQ mem) x).mem w' /\
       cM J (k.pJ false false (List.range R.2.length) (lQ mem) x).mem w' (Ry R.1 R.2.length (k.pJ false false (List.range R.2.length) (lQ mem) x).br) .val [z]:=by
     intro n ts hts hn hr hg;have s0:dJ B n γ (lQ mem) { tmps:=Array.replicate n undef,defers:=[] } w:=⟨λt=>⟨_,rfl⟩,bb,rfl,A⟩;have s1:dJ B n j (adT R.1 O i) { tmps:=ts,defers:=[] } w':=⟨hr,hts,rfl,m1⟩;obtain⟨s2,x2⟩:=uF hk s0 s1 (X.trans x1) (λt r=>by
      have r:¬t<n:=λhlt=>by
       have Y:t∈List.range R.2.length:=Ll.2 ai;have:=LY.2 Y;rw[this] at r;cases r
      rw[TS<|by show ts.size<=t;omega,TS jA]) (λb I hb ZL=>⟨true,H b _ (by rw[F];simp only[vP,show mem b=ab I from hb,ZL,Fu]) rfl⟩) h5
     exact⟨d,j,rfl,s2.ok,x2,hg s2.br⟩
    obtain⟨BF,L⟩:=R;cases BF with
    | false =>
      refine fin 1 #[d] rfl (iT E).symm (λt=>?_) (λh=>h 0);cases t with
      | zero=>exact r1
      | succ t=>exact⟨_,rfl⟩
    | true =>
      cases O with
      | BF m =>
        obtain⟨l,e1,r2⟩:=r1;obtain⟨q1,q2⟩:=aeu r2;obtain rfl:d=.tuple l:=BH e1;have Z:l.size=L.length:=by rw[<-(iT E),q1];simp
        refine fin L.length l Z rfl (λt=>?_) (λ{o sl} h=>⟨l,rfl,?_⟩)
        .show cM j i w' (match nth m t with|some u=>u|none=>.undef) .val _
         cases r:nth m t with
         | none=>exact⟨_,rfl⟩
         | some u =>
           obtain⟨v,g1,g2⟩:=q2 t u r;rw[WY,<-adg,g1];exact g2
        .have:=abl l.toList 0 λt v r=>by
          have:=h t;rw[WY,<-adg,r] at this;rw[BJ];exact this
         rwa [show l.toList.length=L.length by rw[<-Z];simp] at this
      | _=>cases E
end
end Go.Ge
