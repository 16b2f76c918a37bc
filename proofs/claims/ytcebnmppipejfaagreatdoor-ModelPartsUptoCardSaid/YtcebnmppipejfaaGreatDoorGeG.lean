import Derived.Test.YtcebnmppipejfaaGreatDoorGeF
import Derived.Scope
import Derived.Laws.Sem
set_option linter.unusedVariables false
set_option linter.unusedSimpArgs false
set_option linter.unusedSectionVars false
set_option linter.defProp false
open Option renaming some->ab,none->ah
namespace Go.Ge
open RowKit
section
variable {P:Program} {B:BI} {N:Nat} {γ:Gh} {cx:Ctx} {nb:Nat} {bf:List Nat} {inl:Nat->List cA->St->Tree (cA×St)} {σ ba:St} {ops:Array Oper} {fp:Nat->Fp}
def aeF{b:St}{d v}(h:b.br d=v):b.put d v=b:=by
 unfold St.put
 congr 1
 funext t;cases c:Nat.beq t d with
 | true=>obtain rfl:=ja c;exact h.symm
 | false=>rfl
def ahg(d:Ctx)(g:Nat)(h:List Nat)(inl:Nat->List cA->St->Tree (cA×St))(b:Array Oper)(c:Nat->Fp):Nat->List Oper->Gst->Gst->Prop
 | _,[],s,s'=>s=s'
 | k,o::l,s,s'=>(((c k).KT=false->U1 d g o (c k))/\((c k).KT=true->(c k).wr=[]))/\(∀e∈o.after,Region.binds .any e=true->e.on<k) /\
  (∀j i,l[j]?=ab i->Reach b (k+1+j) k\/B2 b k (k+1+j) o i (c k) (c<|k+1+j)=true) /\
  ∃m,pJ d g h inl b (c k) k o s=ab m/\ahg d g h inl b c (k+1) l m s'
def Ji{i o f b k m mk ok r}(h:EF ops i o f m ((k,ok,b,mk)::r)=true):(Nat.testBit m k=true\/B2 ops k i ok o b f=true)/\EF ops i o f m r=true:=by
 simp only[EF,gw,BS] at h;exact h
def MG{i o r done d}(h:(xV cx nb bf inl ops ((i,o)::r) done σ d).run=ab ba) :
  ∃l,EF ops i o (B0 cx nb o σ) (mask done o) done=true/\(∀e∈o.after,Region.binds .any e=true->e.on<i)/\pJ cx nb bf inl ops (B0 cx nb o σ) i o (σ,d)=ab l /\
   (xV cx nb bf inl ops r ((i,o,B0 cx nb o σ,mask done o)::done) l.1 l.2).run=ab ba:=by
 simp only[xV] at h;obtain⟨A,k⟩:=aJ h;simp only[gw] at A;obtain⟨y,t⟩:=A;have p:∀e∈o.after,Region.binds .any e=true->e.on<i:=λe C D=>by
  rw[<-Array.all_toList,vR] at t;have:=t e (by simpa using C);rw[D] at this;have:=JU (by simpa [Nat.blt] using this);omega
 suffices ∃l,pJ cx nb bf inl ops _ i o _=ab l/\(xV cx nb bf inl ops r _ l.1 l.2).run=ab ba by
  obtain⟨l,E,F⟩:=this;exact⟨l,y,p,E,F⟩
 split at k
 .rename_i x;obtain⟨b6,q,u⟩:=bind_some k;refine⟨(b6,d),?_,u⟩;have hd:ES ops o (σ,d)=ab true:=by unfold ES;rw[x]
  unfold pJ;rw[hd];rw[q];rfl
 .rename_i g b x;split at k
  .cases k
  .rename_i G v;cases m:d g with
   | true =>
     rw[m] at k;refine⟨(σ.bD o.dst .undef,kJ i d),?_,k⟩;have hd:ES ops o (σ,d)=ab false:=by unfold ES;rw[x];dsimp only;rw[v];rw[m];rfl
     unfold pJ;rw[hd]
   | false =>
     rw[m] at k;split at k
     .rename_i c j;change Bool at c;have s:=gR k;have hd:ES ops o (σ,d)=ab (c==b):=by unfold ES;rw[x];dsimp only;rw[v];rw[m];simp;rw[j]
      have n:=aeF j;have run:∀{b6},(jA cx nb bf inl (B0 cx nb o σ) o σ).run=ab b6->(c==b)=true->pJ cx nb bf inl ops _ i o _=ab (b6,d):=λq z=>by
       unfold pJ;rw[hd,z];rw[q];rfl
      have skip:(c==b)=false->pJ cx nb bf inl ops (B0 cx nb o σ) i o _=ab _:=λz=>by
       unfold pJ;rw[hd,z]
      cases c with
      | true =>
        rw[n] at s;cases b with
        | true=>obtain⟨b6,q,u⟩:=bind_some s;exact⟨(b6,d),run q rfl,u⟩
        | false=>exact⟨_,skip rfl,s⟩
      | false =>
        rw[n] at s;cases b with
        | true=>exact⟨_,skip rfl,s⟩
        | false=>obtain⟨b6,q,u⟩:=bind_some s;exact⟨(b6,d),run q rfl,u⟩
     .cases k
def Pd:∀l k c σ n,(∀j o,l[j]?=ab o->ops[k+j]?=ab o)->tV ops c->(xV cx nb bf inl ops (number k l) c σ n).run=ab ba ->
  ∃(g:List (Fp×Nat)) (i:Nat->Bool),g.length=l.length/\(∀j m b,g[j]?=ab m->Nat.testBit m.2 b=true->Reach ops (k+j) b) /\
   ∀fp,(∀j f,g[j]?=ab f->fp (k+j)=f.1)->ahg cx nb bf inl ops fp k l (σ,n) (ba,i)/\∀j o f,l[j]?=ab o->g[j]?=ab f->EF ops (k+j) o (fp<|k+j) f.2 c=true:=by
 intro l;induction l with
 | nil =>
   intro k c σ n _ _ h;obtain rfl:=aR h;exact⟨[],n,rfl,λj m b h=>absurd h aY,λfp _=>⟨rfl,λj o f d=>absurd d aY⟩⟩
 | cons o l D =>
   intro k c σ n v x h;obtain⟨t,E,F,G,H⟩:=MG h;have y:=v 0 o rfl;obtain⟨g,i,z,A,I⟩:=D _ _ t.1 t.2 (λj u d=>by have:=v (j+1) u (by simpa using d);rw[<-this];congr 1;omega) (x.cons y) H;refine⟨(B0 cx nb o σ,mask c o)::g,i,by simp[z],λj m b d e=>?_,λfp p=>?_⟩
   .cases j with
    | zero=>obtain rfl:=aR d;exact ER x y e
    | succ j=>have:=A j m b (by simpa using d) e;rw[show k+_=k+1+j by omega];exact this
   have r:fp k=B0 cx nb o σ:=p 0 _ rfl;obtain⟨J,C⟩:=I fp λj f d=>by have:=p (j+1) f (by simpa using d);rw[<-this];congr 1;omega
   refine⟨⟨⟨λe=>by rw[r] at e⊢;exact K0 o σ e,λe=>by rw[r] at e⊢;exact aeC o σ e⟩,F,λj K d=>?_,t,by rw[r];exact G,J⟩,λj u f d s=>?_⟩
   .obtain⟨f,s⟩:∃f,g[j]?=ab f:=⟨_,ia (by rw[z];exact(ib.1 d).1)⟩;rcases(Ji<|C j K f d s).1 with q|q
    .exact .inl (A j f k s q)
    .rw[r];exact .inr q
   .cases j with
    | zero =>
      obtain rfl:=aR d;obtain rfl:=aR s;rw[FB,r];exact E
    | succ j =>
      have:=(Ji<|C j u f (by simpa using d)<|by simpa using s).2;rw[show k+_=k+1+j by omega];exact this
def aeG{s'}:∀l k c s,(∀j,l[j]?=ops[k+j]?)->c.size=ops.size->(∀j,j<k->j<ops.size->c.getD j false=true) ->
  (∀j,k<=j->j<ops.size->c.getD j true=false)->Sr ops c->ahg cx nb bf inl ops fp k l s s'->Sv cx nb bf inl ops fp (·=s') l.length c s:=by
 intro l;induction l with
 | nil =>
   intro k c s x y z E d h;refine⟨?_,h⟩;cases K:Region.ready .any ops c with
   | nil=>rfl
   | cons i r =>
     obtain⟨F,o,H,_⟩:=mem_ready.1 (by rw[K];exact pL ..);have n:=(zf.1 H).1;rcases vS i k with v|v
     .have:=z i v n;simp[y,n] at this F;rw[this] at F;cases F
     .have:=x (i-k);rw[show k+_=i by omega,H] at this;cases this
 | cons o l L =>
   intro k c s x y z E d h;have v:ops[k]?=ab o:=by simpa using(x 0).symm
   have n:=(zf.1 v).1;obtain⟨I,O,Q,J,R,S⟩:=h;have g:=mem_ready.2 ⟨E k (cq _) n,o,v,λe T A=>by
    have:=O e T A;exact z e.on this ai⟩
   refine XU v (λb A=>by
    cases p:(fp k).KT with
    | true=>rw[I.2 p] at A;cases A
    | false=>exact(I.1 p).sub b A) l.length c s J d (λj U D W t=>?_) g R (L _ _ J (λj=>?_) (by simp[y]) (λj D u=>?_) (λj D u=>?_) (d.list g) S)
   .have q:=(zf.1 D).1;rcases vS j k with C|C
    .exfalso;have:=z j C q;simp[y,q] at this t;rw[this] at t;cases t
    .have G:=x (j-k);rw[show k+_=j by omega,D] at G;obtain⟨m,X⟩:∃m,j-k=m+1:=⟨j-k-1,ai⟩;rw[X] at G;have:=Q m U (by simpa using G);rw[show k+1+m=j by omega] at this;exact this
   .have:=x (j+1);rw[show k+1+j=k+(j+1) by omega,<-this];simp
   .by_cases e:j=k
    .subst e;simp[y,n]
    .rw[getD_set_ne false<|LI e];exact z j ai u
   .rw[getD_set_ne true (by omega:k≠j)];exact E j ai u
def XV(c:∀f d σ v ba,(inl f d σ).run=ab (v,ba)->b8 σ ba):∀l k b σ ba g,(xV cx nb bf inl ops (number k l) b σ g).run=ab ba->b8 σ ba:=by
 intro l;induction l with
 | nil=>intro k b σ ba g h;obtain rfl:=aR h;apply b8.refl
 | cons o l i =>
   intro k b σ ba g h;obtain⟨n,p,q,e,j⟩:=MG h;refine b8.trans ?_ (i _ _ _ _ _ j);unfold pJ at e;split at e
   .cases e
   .obtain⟨b6,m,rfl⟩:=EA.1 e;exact Cc c b6 (Db (K0 o σ) m)
   .obtain rfl:=aR e;apply b8.bD
end
end Go.Ge
namespace Go.Ge
open RowKit
section
variable {P:Program} {B:BI} {N:Nat} {γ:Gh} {cx:Ctx} {nb:Nat} {bf:List Nat} {inl:Nat->List cA->St->Tree (cA×St)} {σ ba:St} {ops:Array Oper} {fp:Nat->Fp}
def XW{l:List Oper}{j:Nat}{o}{d:Nat}(h:l[j]?=ab o)(b:o.dst=ab d):d∈oN.Hy l:=by
 induction l generalizing j with
 | nil=>cases h
 | cons p l c =>
   cases j with
   | zero=>obtain rfl:=aR h;simp only[oN.Hy,b];exact pL ..
   | succ j =>
     have:=c (by simpa using h);simp only[oN.Hy];split
     .exact vi _ this
     .exact this
def MH:∀{l},oN l=true->∀{i j:Nat} {x y} {d:Nat},i<j->l[i]?=ab x->l[j]?=ab y->x.dst=ab d->y.dst≠ab d:=by
 intro l;induction l with
 | nil=>intro _ i j x y d _ h;cases h
 | cons p l n =>
   intro h i j x y d o e q g k;simp only[oN,gw] at h;obtain⟨m,rfl⟩:∃m,j=m+1:=⟨j-1,ai⟩;have b:l[m]?=ab y:=by simpa using q
   cases i with
   | zero =>
     obtain rfl:=aR e;have c:=h.1;rw[g] at c;simp at c;exact ks.1 c (XW b k)
   | succ i=>exact n h.2 (i:=i) ai (by simpa using e) b g k
def XX(h:oN ops.toList=true){i j:Nat}{x y}{d:Nat}(b:i≠j)(e:ops[i]?=ab x)(g:ops[j]?=ab y)(k:x.dst=ab d):y.dst≠ab d:=by
 rcases Nat.lt_or_gt_of_ne b with c|c
 .exact MH h c (by simpa using e) (by simpa using g) k
 .intro l;exact MH h c (by simpa using g) (by simpa using e) l k
def XY(c:Array Oper)(d:Nat->Bool)(b:Array Bool)(a:Act):Prop:=∀k,d k=true->yielded c a.tmps k=ah/\b.getD k true=true
def x8{a:Act}{i k o v}(b:oN ops.toList=true)(d:ops[i]?=ab o)(c:k≠i):yielded ops (a.put o.dst v).tmps k=yielded ops a.tmps k:=by
 unfold yielded;cases e:ops[k]? with
 | none=>rfl
 | some y =>
   simp;cases hd:y.dst with
   | none=>rfl
   | some g =>
     simp;have:=XX b c e d hd;rw[gx this]
def XY.run{d listed a i o v}(h:XY ops d listed a)(c:oN ops.toList=true)(l:ops[i]?=ab o)(g:listed.getD i true=false):XY ops d (listed.setIfInBounds i true) (a.put o.dst v):=λk m=>by
 obtain⟨n,j⟩:=h k m;have b:k≠i:=λe=>by subst e;rw[j] at g;cases g
 exact⟨by rw[x8 c l b];exact n,by rw[getD_set_ne true<|LI b];exact j⟩
def XY.skip{c listed a i o}(h:XY ops c listed a)(d:oN ops.toList=true)(g:ops[i]?=ab o)(m:listed.getD i true=false):XY ops (kJ i c) (listed.setIfInBounds i true) (a.put o.dst Go.undef):=λk j=>by
 by_cases b:k=i
 .subst b;refine⟨F8 g,?_⟩;rcases vS k listed.size with l|l
  .simp
  .simp[T8 l] at m
 .have e:c k=true:=by
   simp only[kJ,kr b] at j;exact j
  obtain⟨n,p⟩:=h k e;exact⟨by rw[x8 d g b];exact n,by rw[getD_set_ne true<|LI b];exact p⟩
def Pe(hc:fX P cx)(E:rb P B.G cx)(F:x4 P B.G inl){Q}(H:oN ops.toList=true)(L:∀i o,ops[i]?=ab o->(fp i).KT=false->U1 cx nb o (fp i))
  (hd:∀o∈ops.toList,∀k,o.dst=ab k->k<N):∀n d s γ a w,Sv cx nb bf inl ops fp (λs=>s.1=ba) n d s->dK B N γ s.1 a w->XY ops s.2 d a ->
   (∀bK O w',dK B N bK ba O w'->Ext B γ s.1.mem w bK ba.mem w'->Fr (number 0 ops.toList) a O->Q .normal O w')->wpAny P .any ops Q n d a w:=by
 intro n;induction n with
 | zero =>
   intro d s γ a w h D r y;obtain⟨u,R⟩:=h;rw[<-R] at y;exact⟨u,y γ a w D (Ext.refl _ _ _ _) λt _=>rfl⟩
 | succ n ih =>
   intro d s γ a w h D r y;refine⟨λh0=>?_,λi hi=>?_⟩
   .have R:=h.1 h0;rw[<-R] at y;exact y γ a w D (Ext.refl _ _ _ _) λt _=>rfl
   .obtain⟨o,s1,u,I,h4⟩:=h.2 i hi;have J:=(mem_ready.1 hi).1;have x:o∈ops.toList:=by
     have:=adz u;simpa using this
    have j:(i,o)∈number 0 ops.toList:=by
     have:=MD (l:=ops.toList) (k:=0) (by simpa using u);simpa using this
    have hw:∀b,ES ops o s=ab b->Region.wanted o (yielded ops a.tmps)=b:=by
     intro b e;unfold ES at e;cases m:o.guard with
     | none =>
       rw[m] at e;obtain rfl:=aR e;unfold Region.wanted;rw[m]
     | some p =>
       obtain⟨g,K⟩:=p;rw[m] at e;dsimp only at e;split at e
       .cases e
       .rename_i dg S;cases T:s.2 g with
        | true =>
          rw[T] at e;obtain rfl:=aR e;unfold Region.wanted;rw[m];simp only[(r g T).1];rfl
        | false =>
          rw[T] at e;split at e
          .rename_i c z;obtain rfl:=aR e;have A:=Jg D z;unfold Region.wanted;rw[m];simp only[yielded,S,ZN,A];cases c<;>cases K<;>rfl
          .cases e
    unfold wpOp;rw[u];dsimp only;unfold pJ at I;split at I
    .cases I
    .rename_i q;obtain⟨b6,q1,rfl⟩:=EA.1 I;rw[hw true q];refine .inl (Mo hc E F D (hd o x) (Db (L i o u) q1) λU v w1 s1 x1=>?_);refine ih _ _ U _ w1 h4 s1 (r.run H u J) λC W X Y Z f2=>y C W X Y (x1.trans Z) λt A=>?_;rw[f2 t A,gx (ME A j)]
    .rename_i q;obtain rfl:=aR I;rw[hw false q];have hm:(s.1.bD o.dst .undef).mem=s.1.mem:=by cases o.dst<;>rfl
     refine ih _ _ γ _ w h4 (D.wT (hd o x) ⟨_,rfl⟩) (r.skip H u J) λC W X Y Z f2=>y C W X Y (by rw[<-hm];exact Z) λt A=>?_;rw[f2 t A,gx (ME A j)]
def Sv.mono{Q Q'}(b:∀s,Q s->Q' s):∀{n listed s},Sv cx nb bf inl ops fp Q n listed s->Sv cx nb bf inl ops fp Q' n listed s:=by
 intro n;induction n with
 | zero=>intro listed s h;exact⟨h.1,b _ h.2⟩
 | succ n c =>
   intro listed s h;refine⟨λd=>b _ (h.1 d),λi e=>?_⟩;obtain⟨o,g,j,k,l⟩:=h.2 i e;exact⟨o,g,j,k,c l⟩
def Sw(c:P.follows .mixedOrders=true)(v:fX P cx)(d:rb P B.G cx)(g:x4 P B.G inl){Q id a w}(n:oN ops.toList=true)
  (y:∀o∈ops.toList,∀k,o.dst=ab k->k<N) (z:(xV cx nb bf inl ops (number 0 ops.toList) [] σ λ_=>false).run=ab ba) (h:dK B N γ σ a w)
  (A:∀bK m w',dK B N bK ba m w'->Ext B γ σ.mem w bK ba.mem w'->Fr (number 0 ops.toList) a m->Q .normal m w'):(Code.region id ops true).wp P Q a w:=by
 refine wp_region_any c ?_;obtain⟨C,D,R,S,E⟩:=Pd ops.toList 0 [] σ _ (λj o b=>by simpa using b) tV.nil z
 let fp:Nat->Fp:=λi=>(C[i]?.map (·.1)).getD ⟨[],[],true,ah⟩
 obtain⟨t,_⟩:=E fp λj f b=>by simp[fp,b]
 have key:∀l k s s',ahg cx nb bf inl ops fp k l s s'->∀j o,l[j]?=ab o->(fp<|k+j).KT=false->U1 cx nb o (fp<|k+j):=by
  intro l;induction l with
  | nil=>intro k s s' _ j o b;cases b
  | cons o l F =>
    intro k s s' H j I b;obtain⟨J,T,U,p,W,K⟩:=H;cases j with
    | zero=>obtain rfl:=aR b;exact J.1
    | succ j=>rw[show k+_=k+1+j by omega];exact F _ p s' K j I (by simpa using b)
 have hA:=aeG (s':=_) ops.toList 0 (Array.replicate ops.size false) _ aY aY (λj b=>ai)
  (λj _ b=>by simp[b]) (λi o e q=>by
   rcases vS i ops.size with u|u<;>simp[u] at q) t
 have r:=Sv.mono (Q':=λs=>s.1=ba) (λs L=>by rw[L]) hA;obtain⟨p,O⟩:=h.draw _;refine Pe v d g n (λi o q=>by have:=key _ 0 _ _ t i o (by simpa using q);simpa using this) y _ _ _ γ a _ (by simpa using r) p Fx λbK m w' s x f=>A bK m w' s (O.trans x) f
def U7(b:P.follows .mixedOrders=true)(l:fX P cx)(c:rb P B.G cx)(d:x4 P B.G inl){Q id a w}
  (m:∀o∈ops.toList,∀k,o.dst=ab k->k<N) (e:(zr cx nb bf inl ops σ).run=ab ba) (h:dK B N γ σ a w)
  (n:∀bK g w',dK B N bK ba g w'->Ext B γ σ.mem w bK ba.mem w'->Fr (number 0 ops.toList) a g->Q .normal g w'):(Code.region id ops true).wp P Q a w:=by
 unfold zr at e;cases p:ops.any λo=>o.guard.isSome with
 | true =>
   rw[p] at e;obtain⟨i,j⟩:=aJ e;exact Sw b l c d i m j h n
 | false =>
   rw[p] at e;exact Su b l c d m e h n
end
end Go.Ge
namespace Go.Ge
open RowKit
def vV(f:Nat->Box->Bool)(c:Nat->Option Box):Nat->Option Box:=λb=>match c b with|some d=>ab { d with lk:=f b d }|none=>ah
section
variable {P:Program} {B:BI} {N:Nat} {γ XZ:Gh} {mem m0 me m1:Nat->Option Box} {w w0:World} {f:Nat->Box->Bool}
def Qz{b c}(h:mem b=ab c):vV f mem b=ab { c with lk:=f b c }:=by simp[vV,h]
def U8{b d}(h:vV f mem b=ab d):∃c,mem b=ab c/\d={ c with lk:=f b c }:=by
 simp only[vV] at h;split at h
 .rename_i c e;exact⟨c,e,(aR h).symm⟩
 .cases h
def Ext.vV:Ext B γ mem w γ (vV f mem) w where
 below:=wL.refl _ _
 I:=λ_ _ h=>h
 rR:=λ_ _ h=>.inl h
 cells:=λ_ _ _=>rfl
 boxes:=λb d c=>⟨_,Qz c,cq _,λ_=>⟨rfl,rfl,rfl⟩⟩
def bN.vV(h:bN B γ mem w):bN B γ (Go.Ge.vV f mem) w:=by
 have g:∀{b},Go.Ge.vV f mem b≠ah->mem b≠none:=by
  intro b e m;apply e;simp[Go.Ge.vV,m]
 exact
  { du:=h.du
    base:=h.base
    boxes:=λb n e=>by
     obtain⟨i,h0,rfl⟩:=U8 e;exact(h.boxes b i h0).keep (Ext.vV (B:=B)) rfl (λ_ _ _=>rfl)
    inj:=λb c d k o e p j q=>h.inj b c d k o (g e) (g p) j q
    fresh:=λb d k e j=>h.fresh b d k (g e) j
    vG:=h.vG
    sep:=λb n d k l e j r=>by
     obtain⟨i,h0,rfl⟩:=U8 e;exact h.sep b i d k l h0 j r }
def dK.vV{σ a}(h:dK B N γ σ a w):dK B N γ { σ with mem:=Go.Ge.vV f σ.mem } a w:=h.go Ext.vV h.ok.vV
def Mid(g h i:Nat->Option Box):Prop:=∀b d,g b=ab d->∃c,i b=ab c/\d.aV<=c.aV /\
 (c.aV=d.aV->∃e,h b=ab e/\e.aV=d.aV/\e.buf=c.buf/\e.row=c.row)
def n0.down(l:Mid m0 me m1){b aV m K i}(n:n0 m0 b aV m)(h:n0 me b aV K)(o:∀d c,d.buf=c.buf->d.row=c.row->K d->i c):n0 m1 b aV i:=by
 obtain⟨g,p,x,_⟩:=n;obtain⟨d,q,y,r⟩:=h;obtain⟨c,s,z,t⟩:=l b g p;refine⟨c,s,ai,λe=>?_⟩;obtain⟨j,k,A,u,v⟩:=t ai;rw[q] at k;obtain rfl:=aR k;exact o d c u v (r ai)
def cM.down(d:Mid m0 me m1):∀{v m us vs},cM XZ m0 w0 v m us->cM γ me w v m vs->cM γ m1 w v m vs:=by
 intro v;induction v with
 | undef=>intro m us vs _ r;cases m<;>exact r
 | data t x=>intro m us vs _ r;cases m<;>exact r
 | pT=>intro m us vs _ r;cases m<;>exact r
 | uJ=>intro m us vs _ r;cases m<;>exact r
 | cell t x=>intro m us vs _ r;cases m<;>exact r
 | nl=>intro m us vs _ r;cases m<;>exact r
 | uK=>intro m us vs _ r;cases m<;>exact r
 | xT b aV =>
   intro m us vs c r;cases m with
   | many=>exact r
   | cells=>exact⟨r.1,c.2.down d r.2 λ_ _ _ _ k=>k⟩
   | val=>exact⟨r.1,c.2.down d r.2 λ_ _ _ _ k=>k⟩
 | ptr b aV p =>
   intro m us vs c r;cases m with
   | many=>exact r
   | cells=>exact⟨r.1,c.2.down d r.2 λ_ _ _ _ k=>k⟩
   | val=>exact⟨r.1,c.2.down d r.2 λ_ _ _ _ k=>k⟩
 | whole b aV =>
   intro m us vs c r;cases m with
   | many=>exact r
   | cells=>exact⟨r.1,c.2.down d r.2 λ_ _ l o k=>by rw[<-l,<-o];exact k⟩
   | val=>exact⟨r.1,c.2.down d r.2 λ_ _ l o k=>by rw[<-l,<-o];exact k⟩
 | part b aV lo n =>
   intro m us vs c r;cases m with
   | many=>exact r
   | cells=>exact⟨r.1,c.2.down d r.2 λ_ _ l o k=>by unfold FM at k⊢;rw[<-l,<-o];exact k⟩
   | val=>exact⟨r.1,c.2.down d r.2 λ_ _ l o k=>by unfold FM at k⊢;rw[<-l,<-o];exact k⟩
 | win b aV q e k lo n =>
   intro m us vs c r;cases m with
   | many=>exact r
   | cells=>exact⟨r.1,c.2.down d r.2 λ_ _ l o k=>k⟩
   | val=>exact⟨r.1,c.2.down d r.2 λ_ _ l o k=>k⟩
 | fn f H =>
   intro m us vs c r;cases m with
   | many=>exact r
   | cells=>obtain⟨_,_,_,s⟩:=c;obtain⟨g,h,j,G⟩:=r;exact⟨g,h,j,λi b aV A=>(s i b aV A).down d (G i b aV A) λ_ _ _ _ k=>k⟩
   | val=>obtain⟨_,_,_,s⟩:=c;obtain⟨g,h,j,G⟩:=r;exact⟨g,h,j,λi b aV A=>(s i b aV A).down d (G i b aV A) λ_ _ _ _ k=>k⟩
 | mix a b y z =>
   intro m us vs c r;cases m with
   | cells=>obtain⟨_,_,_,C,D⟩:=c;obtain⟨E,F,c,h,j⟩:=r;exact⟨E,F,c,y C h,z D j⟩
   | val=>obtain⟨_,_,_,C,D⟩:=c;obtain⟨E,F,c,h,j⟩:=r;exact⟨E,F,c,y C h,z D j⟩
   | many=>obtain⟨_,_,_,C,D⟩:=c;obtain⟨E,F,c,h,j⟩:=r;exact⟨E,F,c,y C h,z D j⟩
 | BN u I =>
   intro m us vs c r;cases m with
   | val=>obtain⟨_,_,s⟩:=c;obtain⟨g,h,j⟩:=r;exact⟨g,h,I s j⟩
   | cells=>exact r
   | many=>exact r
def aeH(M:Nat->Bool)(V:Nat->Bool->Bool)(e g h:Nat->Option Box):Prop:=∀b c,e b=ab c->∃d Sx,g b=ab d/\h b=ab Sx/\d.buf=c.buf/\Sx.buf=c.buf/\Sx.row=d.row /\
 Sx.aV=(bif M b&&V b c.buf then c.aV+1 else c.aV)/\((M b&&V b c.buf)=false->d.aV=c.aV)
def aeH.mid{M V}(h:aeH M V m0 me m1):Mid m0 me m1:=λb c l=>by
 obtain⟨i,d,m,k,n,o,p,g,q⟩:=h b c l;cases j:(M b&&V b c.buf) with
 | true =>
   rw[j] at g;simp at g;exact⟨d,k,ai,λe=>absurd e ai⟩
 | false =>
   rw[j] at g;simp at g;exact⟨d,k,ai,λe=>⟨i,m,q j,n.trans o.symm,p.symm⟩⟩
def MI:Sh->cA->Prop
 | .d _,_=>True
 | .k v,u=>v=u
 | .m a b,u=>∃p q,u=.mix p q/\MI a p/\MI b q
def ahh v:MI (agX v) v:=by
 induction v with
 | mix a b c d=>exact⟨a,b,rfl,c,d⟩
 | data t x=>trivial
 | _=>rfl
def aeI{t v y}(h:toD t v=ab y){m vs}(b:cM γ me w v m vs):cM γ m1 w (.data t y) m vs:=by
 unfold toD at h;split at h
 .obtain⟨q,c⟩:=Ty.l5 h;subst q;subst c;cases m<;>exact b
 .split at h
  .obtain rfl:=aR h;cases m with
   | many=>exact b
   | cells=>exact .inl ⟨⟨ah,b⟩,rfl⟩
   | val=>exact⟨[.slice ah 0 0],.inl ⟨⟨ah,rfl⟩,rfl⟩,b⟩
  .cases h
 .cases h
def U9{M V rE rf}(D:aeH M V rE.mem rf.mem m1)(hV:∀b x,V b false=true->rE.mem b=ab x->x.buf=false){u v}(h:FE V rE rf u v=true){m us vs}(K:cM XZ rE.mem w0 u m us)(i:cM γ rf.mem w v m vs) :
  cM γ m1 w (bump M V u) m vs:=by
 unfold FE at h;split at h
 .rename_i b c p b' k p';simp only[gw] at h;obtain⟨⟨L,A⟩,g⟩:=h;obtain rfl:=ja L;obtain rfl:=Xj A;have still:c=k->(M b&&V b false)=false->cM γ m1 w (bump M V<|.ptr b c p) m vs:=by
   intro e q;subst e;have e:bump M V (.ptr b c p)=.ptr b c p:=by simp only[bump,q];rfl
   rw[e];exact cM.down D.mid K i
  cases j:V b false with
  | false =>
    rw[j] at g;exact still (ja g) (by simp[j])
  | true =>
    rw[j] at g;simp at g;split at g
    .rename_i x y G C;simp only[gw] at g;have R:=ja g.1;have H:=ja g.2;obtain⟨O,d,E,I,S,T,U,J,W⟩:=D b x G;rw[C] at E;obtain rfl:=aR E;cases r:M b with
     | false=>exact still (by have:=W (by simp[r]);omega) (by simp[r])
     | true =>
       have e:bump M V (.ptr b c p)=.ptr b (c+1) p:=by simp only[bump,r,j];rfl
       have t:d.aV=c+1:=by rw[J,r,hV b x j G,j];simp;omega
       rw[e];cases m with
       | many=>exact i
       | cells=>exact⟨i.1,d,I,ai,λ_=>bA C H i.2⟩
       | val=>exact⟨i.1,d,I,ai,λ_=>bA C H i.2⟩
    .cases g
 .rename_i b c b' k;simp only[gw] at h;obtain⟨L,g⟩:=h;obtain rfl:=ja L;split at g
  .rename_i x y G C;simp only[gw] at g;obtain⟨⟨A,R⟩,H⟩:=g;have A:=ja A;obtain⟨O,d,E,I,S,T,U,J,W⟩:=D b x G;rw[C] at E;obtain rfl:=aR E;have z:x.buf=true:=by rw[<-S];exact H
   have key:∀s,d.aV=s->((∃v,vs=[v]/\v.oneCell'=true)/\n0 rf.mem b k λF=>∃e n,F.buf=true/\F.row=ab (e,n) /\
     ((γ.loc b=ah/\vs=[.slice ah 0 0])\/∃l o,γ.loc b=ab (l,o)/\vs=[.slice (ab ⟨l,0,ah⟩) n o])) ->
     ((∃v,vs=[v]/\v.oneCell'=true)/\n0 m1 b s λF=>∃e n,F.buf=true/\F.row=ab (e,n) /\
     ((γ.loc b=ah/\vs=[.slice ah 0 0])\/∃l o,γ.loc b=ab (l,o)/\vs=[.slice (ab ⟨l,0,ah⟩) n o])):=by
    intro s t X;exact⟨X.1,d,I,ai,λ_=>by obtain⟨e,n,q1,q2,q3⟩:=(bA C (ja R) X.2);exact⟨e,n,T.trans z,U.trans q2,q3⟩⟩
   have t:∃s,bump M V (.whole b c)=.whole b s/\d.aV=s:=by
    unfold bump;cases r:(M b&&V b true) with
    | true=>exact⟨c+1,by simp[r],by rw[J,z,r,<-A];rfl⟩
    | false=>exact⟨c,by simp[r],by rw[J,z,r,<-A];rfl⟩
   obtain⟨s,e1,Y⟩:=t;rw[e1];cases m with
   | many=>exact i
   | cells=>exact key s Y i
   | val=>exact key s Y i
  .cases g
 .rename_i f Z f' Q;simp only[gw] at h;obtain rfl:=ja h.1;obtain rfl:=Xk h.2;exact cM.down D.mid K i
 .cases m<;>exact i
 .cases m<;>exact i
 .simp only[gw] at h;obtain rfl:=ja h.1;obtain rfl:=ja h.2;exact cM.down D.mid K i
 .cases h
def akN{V rE σ u v}:Sh.out V rE σ (.k u) v=bif FE V rE σ u v then ab () else none:=rfl
def akO{V rE σ a b v w}:Sh.out V rE σ (.m a b) (.mix v w)=(match Sh.out V rE σ a v,Sh.out V rE σ b w with
 | some x,ab y=>ab ((x,y):(Sh.m a b).ty.den)
 | _,_=>ah):=rfl
def Z5{M V rE rf}(I:aeH M V rE.mem rf.mem m1)(J:∀b x,V b false=true->rE.mem b=ab x->x.buf=false):∀{s u v y m us vs},MI s u->Sh.out V rE rf s v=ab y ->
  cM XZ rE.mem w0 u m us->cM γ rf.mem w v m vs->cM γ m1 w (s.pV M V y) m vs:=by
 intro s;induction s with
 | d t=>intro u v y m us vs _ c _ e;exact aeI c e
 | k x =>
   intro u v y m us vs C c i e;obtain rfl:=C;rw[akN] at c;cases H:FE V rE rf x v with
   | false=>rw[H] at c;cases c
   | true=>exact U9 I J H i e
 | m a b g h =>
   intro u v y m us vs C c i e;obtain⟨p,q,rfl,D,E⟩:=C;cases v with
   | mix K L =>
     rw[akO] at c;split at c
     .rename_i O Q F G;obtain rfl:=aR c;cases m with
      | cells=>obtain⟨_,_,_,j,l⟩:=i;obtain⟨n,o,r,z,A⟩:=e;exact⟨n,o,r,g D F j z,h E G l A⟩
      | val=>obtain⟨_,_,_,j,l⟩:=i;obtain⟨n,o,r,z,A⟩:=e;exact⟨n,o,r,g D F j z,h E G l A⟩
      | many=>obtain⟨_,_,_,j,l⟩:=i;obtain⟨n,o,r,z,A⟩:=e;exact⟨n,o,r,g D F j z,h E G l A⟩
     .cases c
   | _=>cases c
def abw{t v y}(h:toD t v=ab y):(v=.data t y)\/(v=.pT/\∃e,t=.slice e):=by
 unfold toD at h;split at h
 .obtain⟨q,b⟩:=Ty.l5 h;subst q;subst b;exact .inl rfl
 .split at h
  .exact .inr ⟨rfl,_,rfl⟩
  .cases h
 .cases h
def Z6{M V rE rf s}{c Sx:Box}{y}(j:Sh.out V rE rf s c.val=ab y)(E:Sx.val=s.pV M V y)(F:Sx.buf=c.buf)(i:c.buf=true->∃e l,c.val=.data (.slice e) l) :
  Sx.row=c.row/\(c.buf=true->Sx.val=c.val):=by
 have n:∀t x,c.val=.data t x->Sx.val=c.val:=by
  intro t x g;rw[g] at j;cases s with
  | d u =>
    obtain⟨q,o⟩:=Ty.l5 j;subst q;subst o;rw[E,g];rfl
  | k z=>cases z<;>cases j
  | m a b=>cases j
 have r:∀{b1 A:Box},b1.buf=A.buf->b1.val=A.val->b1.row=A.row:=by
  intro b1 A G H;unfold Box.row;rw[G,H]
 cases g:c.val with
 | data t x =>
   have:=n t x g;exact⟨r F this,λ_=>by rw[this,g]⟩
 | _ =>
   refine⟨?_,λh=>by obtain⟨e,l,q⟩:=i h;rw[g] at q;cases q⟩;cases o:c.buf with
   | true=>obtain⟨e,l,q⟩:=i o;rw[g] at q;cases q
   | false =>
     have I:c.row=none:=by unfold Box.row;rw[o,g]
     rw[I];unfold Box.row;rw[F,o,E];rw[g] at j;cases s with
     | d u =>
       rcases abw j with q|⟨q,e,rfl⟩
       .first|cases q|exact absurd g (by cases k)
       .rfl
     | k z =>
       simp only[Sh.pV];have C:∀t x,bump M V z≠.data t x:=by
        intro t x q;cases z with
        | data K L=>cases j
        | whole b v=>simp only[bump] at q;cases D:(M b&&V b true)<;>rw[D] at q<;>cases q
        | ptr b v p=>simp only[bump] at q;cases D:(M b&&V b false)<;>rw[D] at q<;>cases q
        | _=>cases q
       split<;>first|rfl|(rename_i J;exact absurd J (C _ _))
     | m a b=>rfl
end
end Go.Ge
namespace Go.Ge
open RowKit
section
variable {P:Program} {B:BI} {N:Nat} {γ XZ:Gh} {w w0:World} {rE rf:St} {a a0:Act} {M:Nat->Bool} {V:Nat->Bool->Bool}
def aeJ:∀{l x},agY V rE rf l=ab x->∀t,(RM M V l x t=ah/\∀s,(t,s)∉l)\/∃s y,(t,s)∈l/\Sh.out V rE rf s (rf.br t)=ab y/\RM M V l x t=ab (s.pV M V y):=by
 intro l;induction l with
 | nil=>intro x _ t;exact .inl ⟨rfl,λs h=>by cases h⟩
 | cons p r j =>
   obtain⟨i,s⟩:=p;intro x h t;simp only[agY] at h;split at h
   .rename_i y z k m;obtain rfl:=aR h;by_cases e:t=i
    .subst e;refine .inr ⟨s,y,pL ..,k,?_⟩;show(bif Nat.beq t t then ab _ else RM M V r z t)=_
     simp
    .have n:=kr e;have o:RM M V ((i,s)::r) ((y,z):(tyS ((i,s)::r)).den) t=RM M V r z t:=by
      show(bif Nat.beq t i then ab _ else RM M V r z t)=_
      rw[n];rfl
     rw[o];rcases j m t with ⟨c,d⟩|⟨g,q,c,d,u⟩
     .refine .inl ⟨c,λg b=>?_⟩;rcases ld.1 b with b|b
      .exact e (cg b).1
      .exact d g b
     .exact .inr ⟨g,q,vi _ c,d,u⟩
   .cases h
def ET{fz g d b}(h:I4 fz g d b=true):(d.ro=true->(b.ro||fz)=true)/\d.buf=b.buf/\(g=false->d.aV=b.aV):=by
 simp only[I4,gw,BS,Un] at h;obtain⟨⟨⟨e,l⟩,i⟩,c⟩:=h;refine⟨λj=>by rcases e with e|e<;>simp[e,<-j],i,λk=>?_⟩;rcases c with c|c
 .rw[k] at c;cases c
 .exact ja c
def abx{fz d c b}(h:I4 fz d c b=true):c.tid=b.tid:=by
 simp only[I4,gw] at h;exact ja h.1.1.2
def Va{fz}:∀{l x},agZ V fz rE rf l=ab x->∀t,(LR fz M V l x t=ah/\DI l t=false) \/
  ∃s b y d,DI l t=true/\(t,s,b)∈l/\rf.mem t=ab d/\I4 fz (V t b.buf) d b=true/\Sh.out V rE rf s d.val=ab y/\LR fz M V l x t=ab { b with val:=s.pV M V y,ro:=b.ro||fz,aV:=bif V t b.buf then b.aV+1 else b.aV }:=by
 intro l;induction l with
 | nil=>intro x _ t;exact .inl ⟨rfl,rfl⟩
 | cons p r o =>
   obtain⟨i,s,b⟩:=p;intro x h t;simp only[agZ] at h;split at h
   .rename_i d g;cases c:I4 fz _ d b with
    | false=>rw[c] at h;cases h
    | true =>
      rw[c] at h;split at h
      .rename_i y z q u;obtain rfl:=aR h;by_cases e:t=i
       .subst e;refine .inr ⟨s,b,y,d,by simp[DI],pL ..,g,c,q,?_⟩;show(bif Nat.beq t t then ab { b with val:=s.pV M V y,ro:=b.ro||fz,aV:=bif V t b.buf then b.aV+1 else b.aV } else LR fz M V r z t)=_
        simp
       .have n:=kr e;have v:LR fz M V ((i,s,b)::r) ((y,z):(tyM ((i,s,b)::r)).den) t=LR fz M V r z t:=by
         show(bif Nat.beq t i then ab { b with val:=s.pV M V y,ro:=b.ro||fz,aV:=bif V t b.buf then b.aV+1 else b.aV } else LR fz M V r z t)=_
         rw[n];rfl
        have j:DI ((i,s,b)::r) t=DI r t:=by simp only[DI,n,LF]
        rw[v,j];rcases o u t with k|⟨A,C,D,m,E,F,G⟩
        .exact .inl k
        .exact .inr ⟨A,C,D,m,E,vi _ F,G⟩
      .cases h
   .cases h
structure Dd (k:Carry) (rE:St):Prop where
 S:∀t s,(t,s)∈k.S->MI s (rE.br t)
 M:∀b s bx,(b,s,bx)∈k.M->rE.mem b=ab bx/\MI s bx.val/\bx.lk=false
 V:∀b x,k.V b false=true->rE.mem b=ab x->x.buf=false
def ajk{cx σ}:∀{p l},mkS cx σ p=ab l->∀t s,(t,s)∈l->MI s (σ.br t):=by
 intro p;induction p with
 | nil=>intro l h t s c;obtain rfl:=aR h;cases c
 | cons q r n =>
   obtain⟨i,o⟩:=q;intro l h t s c;simp only[mkS] at h;split at h
   .cases h
   .rename_i u g;have fin:∀m,MI m (σ.br i)->ab ((i,m)::u)=ab l->MI s (σ.br t):=by
     intro m x e;obtain rfl:=aR e;rcases ld.1 c with c|c
     .obtain⟨rfl,rfl⟩:=cg c;exact x
     .exact n g t s c
    cases j:Nat.beq o 999999 with
    | true =>
      rw[j] at h;split at h
      .rename_i b v y;exact fin (.k _) y.symm h
      .obtain rfl:=aR h;exact n g t s c
    | false =>
    rw[j] at h;simp at h;split at h
    .exact fin (.d _) trivial h
    .split at h
     .exact fin (.d _) trivial h
     .cases h
    .split at h
     .exact fin (.d _) trivial h
     .cases h
    .exact fin (.k _) rfl h
def aeK{σ}:∀{p l},mkM σ p=ab l->∀b s d,(b,s,d)∈l->σ.mem b=ab d/\MI s d.val/\d.lk=false:=by
 intro p;induction p with
 | nil=>intro l h b s d c;obtain rfl:=aR h;cases c
 | cons i r k =>
   intro l h b s d c;simp only[mkM] at h;split at h
   .rename_i g t m j;cases e:g.lk with
    | true=>rw[e] at h;cases h
    | false =>
      rw[e] at h;obtain rfl:=aR h;rcases ld.1 c with c|c
      .injection c with n c
       injection c with o q
       subst n;subst o;subst q;exact⟨m,ahh _,e⟩
      .exact k j b s d c
   .cases h
def Al{cx nb bf σ p k}(h:KW cx nb bf σ p=ab k):Dd k σ:=by
 unfold KW at h;split at h
 .rename_i s m d e;obtain rfl:=aR h;refine⟨ajk d,aeK e,λb x c g=>?_⟩;simp only[FA,akv,g,gw,zh] at c;exact c.2.1
 .cases h
def ahi{l b}(h:DI l b=true):∃s c,(b,s,c)∈l:=by
 induction l with
 | nil=>cases h
 | cons p r e =>
   obtain⟨i,s,c⟩:=p;simp only[DI,BS] at h;rcases h with h|h
   .obtain rfl:=ja h;exact⟨s,c,pL ..⟩
   .obtain⟨g,d,j⟩:=e h;exact⟨g,d,vi _ j⟩
def uQ{k fz lock wr x}(hk:Dd k rE)(h0:dK B N XZ rE a0 w0)(G:dK B N γ rf a w)(hx:Ext B XZ rE.mem w0 γ rf.mem w)
  (hf:∀t,dz wr t=false->a.tmps[t]?=a0.tmps[t]?) (C:∀b g,rE.mem b=ab g->DI k.M b=false->∃bl,rf.mem b=ab { g with lk:=bl }) (ho:k.out fz rE rf=ab x) :
  dK B N γ (k.pV fz lock wr rE x) a w/\Ext B XZ rE.mem w0 γ (k.pV fz lock wr rE x).mem w:=by
 unfold Carry.out at ho;split at ho
 case h_2=>cases ho
 rename_i xs xm hxs hxm;obtain rfl:=aR ho;generalize Q:k.pV fz lock wr rE (xs,xm)=b6;have U:∀t,b6.br t=match RM _ k.V k.S xs t with|some v=>v|none=>bif dz wr t then .undef else rE.br t:=λt=>by rw[<-Q];rfl
 have R:∀b,b6.mem b=match LR fz _ k.V k.M xm b with|some g=>ab g|none=>match rE.mem b with|some g=>ab { g with lk:=g.lk||lock }|none=>none:=λb=>by rw[<-Q];rfl
 have D:∀b,DI k.M b=false->b6.mem b=match rE.mem b with|some g=>ab { g with lk:=g.lk||lock }|none=>none:=by
  intro b i;rw[R b];rcases Va hxm b with ⟨q,_⟩|⟨s,b',y,g,q,_⟩
  .rw[q]
  .rw[i] at q;cases q
 have here:∀b,DI k.M b=true->∃s m y g,rE.mem b=ab m/\MI s m.val/\rf.mem b=ab g/\I4 fz (k.V b m.buf) g m=true/\Sh.out k.V rE rf s g.val=ab y /\
   b6.mem b=ab { m with val:=s.pV (DI k.M) k.V y,ro:=m.ro||fz,aV:=bif k.V b m.buf then m.aV+1 else m.aV }:=by
  intro b i;rcases Va hxm b with ⟨_,q⟩|⟨s,m,y,g,q,q1,q2,q3,q4,q5⟩
  .rw[i] at q;cases q
  .obtain⟨W,k2,_⟩:=hk.M b s m q1;exact⟨s,m,y,g,W,k2,q2,q3,q4,by rw[R b,q5]⟩
 have E:∀b g,rf.mem b=ab g->g.buf=true->∃e l,g.val=.data (.slice e) l:=by
  intro b g i J;have:=G.ok.boxes b g i;rw[fu,J] at this;obtain⟨e,l,q,_⟩:=this;exact⟨e,l,q⟩
 have hC:aeH (DI k.M) k.V rE.mem rf.mem b6.mem:=by
  intro b d i;cases j:DI k.M b with
  | false =>
    obtain⟨bl,F⟩:=C b d i j;have u:=D b j;rw[i] at u;exact⟨_,_,F,u,rfl,rfl,rfl,aY,λ_=>rfl⟩
  | true =>
    obtain⟨s,m,y,g,X,g2,T,g4,g5,Y⟩:=here b j;rw[i] at X;obtain rfl:=aR X;obtain⟨o1,Z,o3⟩:=ET g4;obtain⟨r1,r2⟩:=Z6 (M:=DI k.M) (V:=k.V) (Sx:={ d with val:=s.pV _ k.V y,ro:=d.ro||fz,aV:=bif k.V b d.buf then d.aV+1 else d.aV }) g5 rfl Z.symm (E b g T);refine⟨g,_,T,Y,Z,rfl,r1,aY,λH=>o3 ?_⟩;simpa using H
 have hE:Ext B XZ rE.mem w0 γ b6.mem w :=
  { below:=hx.below
    I:=hx.I
    rR:=hx.rR
    cells:=hx.cells
    boxes:=λb d i=>by
     obtain⟨O,Sx,c1,c2,c3,c4,c5,c6,c7⟩:=hC b d i;obtain⟨apd,e1,e2,e3⟩:=hx.boxes b d i;rw[c1] at e1;obtain rfl:=aR e1;cases H:(DI k.M b&&k.V b d.buf) with
     | true =>
       rw[H] at c6;simp at c6;exact⟨Sx,c2,ai,λe=>absurd e ai⟩
     | false =>
       rw[H] at c6;simp at c6;obtain⟨r1,r2,r3⟩:=e3 (c7 H);exact⟨Sx,c2,ai,λ_=>⟨r1,c4,c5.trans r3⟩⟩ }
 refine⟨⟨λt=>?_,G.size,G.defers,?_⟩,hE⟩
 .rw[U t];rcases aeJ hxs t with ⟨q,_⟩|⟨s,y,q1,q2,q3⟩
  .rw[q];cases hw:dz wr t with
   | true=>exact⟨_,rfl⟩
   | false =>
     have:a.tmps.getD t undef=a0.tmps.getD t undef:=by simp only[Xc,hf t hw]
     rw[this];exact(h0.br t).ext hE
  .rw[q3];exact Z5 hC hk.V (hk.S t s q1) q2 (h0.br t) (G.br t)
 .have hne:∀b,b6.mem b≠ah->∃d,rE.mem b=ab d:=by
   intro b i;cases j:DI k.M b with
   | true=>obtain⟨s,m,y,g,X,_⟩:=here b j;exact⟨m,X⟩
   | false =>
     rw[D b j] at i;cases H:rE.mem b with
     | none=>rw[H] at i;exact absurd rfl i
     | some d=>exact⟨d,rfl⟩
  have K:∀b,b6.mem b≠ah->rf.mem b≠none:=by
   intro b i;obtain⟨d,u⟩:=hne b i;obtain⟨O,Sx,c1,_⟩:=hC b d u;rw[c1];simp
  exact
   { du:=G.ok.du
     base:=G.ok.base
     boxes:=λb Sx i=>by
      cases j:DI k.M b with
      | true =>
        obtain⟨s,m,y,g,X,g2,T,g4,g5,Y⟩:=here b j;rw[i] at Y;obtain rfl:=aR Y;obtain⟨o1,Z,o3⟩:=ET g4;have o4:=abx g4;obtain⟨r1,r2⟩:=Z6 (Sx:={ m with val:=s.pV _ k.V y,ro:=m.ro||fz,aV:=bif k.V b m.buf then m.aV+1 else m.aV }) g5 rfl Z.symm (E b g T);have o:=G.ok.boxes b g T;have p:=h0.ok.boxes b m X;unfold fu at o p⊢;rcases aiG g.buf with r|r
        .rw[r] at o;rw[<-Z,r,r2 r,<-o4];exact o
        .rw[r] at o;rw[<-Z,r];rw[<-Z,r] at p;obtain⟨_,_,_,_,_,_,_,_,_,z⟩:=p;obtain⟨A,cap,cur,tid,fr,z1,z2,z3,L,z4⟩:=o;exact⟨A,cap,cur,tid,fr,z1,z2,z3,o4▸L,Z5 hC hk.V g2 g5 z z4⟩
      | false =>
        have u:=D b j;rw[i] at u;cases H:rE.mem b with
        | none=>rw[H] at u;cases u
        | some d =>
          rw[H] at u;obtain rfl:=aR u;obtain⟨bl,F⟩:=C b d H j;have o:=G.ok.boxes b _ F;have p:=h0.ok.boxes b d H;unfold fu at o p⊢;rcases aiG d.buf with r|r
          .rw[r] at o⊢;exact o
          .rw[r] at o p⊢;obtain⟨_,_,_,_,_,_,_,_,_,z⟩:=p;obtain⟨A,cap,cur,tid,fr,z1,z2,z3,L,z4⟩:=o;exact⟨A,cap,cur,tid,fr,z1,z2,z3,L,cM.down hC.mid z z4⟩
     inj:=λb c A W k2 i hc u h2=>G.ok.inj b c A W k2 (K b i) (K c hc) u h2
     fresh:=λb A W i u=>G.ok.fresh b A W (K b i) u
     vG:=G.ok.vG
     sep:=λb Sx A W off i u hi=>by
      obtain⟨d,q0⟩:=hne b (by rw[i];simp);obtain⟨O,ape,c1,c2,c3,c4,c5,c6,c7⟩:=hC b d q0;rw[i] at c2;obtain rfl:=aR c2;obtain⟨s1,s2⟩:=G.ok.sep b O A W off c1 u hi;have hro:O.ro=true->Sx.ro=true:=by
       cases j:DI k.M b with
       | true =>
         obtain⟨s,m,y,g,X,g2,T,g4,g5,Y⟩:=here b j;rw[c1] at T;obtain rfl:=aR T;rw[i] at Y;obtain rfl:=aR Y;exact(ET g4).1
       | false =>
         have u:=D b j;rw[i,q0] at u;obtain rfl:=aR u;obtain⟨bl,F⟩:=C b d q0 j;rw[c1] at F;obtain rfl:=aR F;exact λh=>h
      exact⟨hro s1,λJ e n hr=>s2 (by rw[c3,<-c4];exact J) e n (by rw[<-c5];exact hr)⟩ }
end
end Go.Ge
namespace Go.Ge
variable [Lp]
open RowKit
def Gd{p:Nat->Prop}(h:∃n,p n):∃n,p n/\∀m,p m->n<=m:=by
 obtain⟨n,c⟩:=h;induction n using Nat.strongRecOn with
 | _ n d =>
   by_cases h:∃m,m<n/\p m
   .obtain⟨m,e,g⟩:=h;exact d m e g
   .exact⟨n,c,λm i=>Nat.le_of_not_lt λb=>h ⟨m,b,i⟩⟩
open Classical in
noncomputable def least(p:Nat->Prop):Nat:=if h:∃n,p n then Classical.choose (Gd h) else 0
def MJ{p}(h:∃n,p n):p (least p)/\∀m,p m->least p<=m:=by
 unfold least;rw[dif_pos h];exact T5 (Gd h)
def HN{P c Q a w}(I:Nat->Act->World->Prop){n}(j:I n a w)
  (b:∀n a w,I n a w->c.wp P (Exit.then (λg w'=>∃m,m<n/\I m g w') Q) a w):(Code.loop c).wp P Q a w:=by
 refine wp_loop (λa w=>∃n,I n a w) (λa w=>least λn=>I n a w) ⟨n,j⟩ λa w h=>?_;obtain⟨k,l⟩:=MJ h;refine wp_mono (b _ a w k) λe g w' i=>?_;cases e with
 | normal =>
   obtain⟨m,m1,d⟩:=i;exact⟨⟨m,d⟩,Nat.lt_of_le_of_lt ((MJ ⟨m,d⟩).2 m d) m1⟩
 | _=>exact i
def MK:Nat->Exit
 | 0=>.normal
 | 1=>.ret
 | i+2=>.exit i
def Jj{l m t}:dz (l++m) t=(dz l t||dz m t):=by
 induction l with
 | nil=>rfl
 | cons i r b=>simp only[JW,dz,b,ZT]
def Gf(b:List Nat)(a c:Act):Prop:=∀t,dz b t=false->c.tmps[t]?=a.tmps[t]?
def Gf.refl ws a:Gf ws a a:=λ_ _=>rfl
def Gf.trans{ws a b c}(h:Gf ws a b)(k:Gf ws b c):Gf ws a c:=λt d=>(k t d).trans (h t d)
def Gf.left{ws vs a b}(h:Gf ws a b):Gf (ws++vs) a b:=λt c=>h t (by rw[Jj,OM] at c;exact c.1)
def Gf.right{ws vs a b}(h:Gf vs a b):Gf (ws++vs) a b:=λt c=>h t (by rw[Jj,OM] at c;exact c.2)
def Vb{t}:∀{l k},dz (rP l) t=false->oM t (number k l)=false:=by
 intro l;induction l with
 | nil=>intro k _;rfl
 | cons o l b =>
   intro k h;simp only[number,oM];cases hd:o.dst with
   | none=>simp only[rP,hd] at h;rw[b h];rfl
   | some d =>
     simp only[rP,hd,dz,OM] at h;rw[b h.2];simp;exact kr λe=>by subst e;simp at h
def Sy{l:List Oper}{o}(h:o∈l){k:Nat}(c:o.dst=ab k):k∈rP l:=by
 induction l with
 | nil=>cases h
 | cons p l b =>
   rcases ld.1 h with h|h
   .subst h;simp only[rP,c];exact pL ..
   .simp only[rP];split
    .exact vi _ (b h)
    .exact b h
def QA{α}{f:Nat->Tree α}:∀{es e i},J0 es e=ab i->(FH es i f).run=(f e).run:=by
 intro es;induction es with
 | nil=>intro e i h;cases h
 | cons k r l =>
   intro e i h;simp only[J0] at h;have one:∀{b},(bif b then ab 0 else(J0 r e).map (·+1))=ab i->(b=true/\i=0)\/(b=false/\∃j,J0 r e=ab j/\i=j+1):=by
    intro b g;cases b with
    | true=>exact .inl ⟨rfl,(aR g).symm⟩
    | false =>
      obtain⟨j,c,d⟩:=EA.1 g;exact .inr ⟨rfl,j,c,d.symm⟩
   rcases one h with ⟨c,rfl⟩|⟨c,j,d,rfl⟩
   .obtain rfl:=ja c;cases r with
    | nil=>rfl
    | cons m s=>rfl
   .cases r with
    | nil=>cases d
    | cons m s=>exact l d
section
variable {P:Program} {B:BI} {N:Nat} {cx:Ctx} {nb:Nat} {bf:List Nat} {inl:Nat->List cA->St->Tree (cA×St)}
def X0(c:∀f d σ v ba,(inl f d σ).run=ab (v,ba)->b8 σ ba):∀l k b σ ba,(LP cx nb bf inl (number k l) b σ).run=ab ba->b8 σ ba:=by
 intro l;induction l with
 | nil=>intro k b σ ba h;obtain rfl:=aR h;apply b8.refl
 | cons o l e =>
   intro k b σ ba h;simp only[number,LP] at h;split at h
   .cases h
   .obtain⟨m,g⟩:=aJ h;obtain⟨b6,i,j⟩:=bind_some g;exact(Cc c b6<|Db (K0 o σ) i).trans (e _ _ _ _ j)
def aby{fz M V}:∀{l x t},DI l t=false->LR fz M V l x t=none:=by
 intro l;induction l with
 | nil=>intro x t _;rfl
 | cons p r b =>
   intro x t h;simp only[DI,OM] at h;simp only[LR,h.1];exact b h.2
def Vc{k:Carry}{fz lock wr σ x b c}(d:σ.mem b=ab c)(h:DI k.M b=false):(k.pV fz lock wr σ x).mem b=ab { c with lk:=c.lk||lock }:=by
 simp only[Carry.pV];rw[aby h,d]
def Cg{k fz lock wr σ x}(h:Dd k σ):b8 σ (k.pV fz lock wr σ x):=by
 intro b i c d;have:DI k.M b=false:=by
  cases j:DI k.M b with
  | false=>rfl
  | true =>
    obtain⟨s,l,m⟩:=ahi j;obtain⟨e,_,g⟩:=h.M b s l m;rw[c] at e;obtain rfl:=aR e;rw[d] at g;cases g
 rw[Vc c this];cases i;subst d;rfl
def Jk{α}{Q:α->Prop}{f}(b:∀e y,(f e).run=ab y->Q y):∀{es i y},(FH es i f).run=ab y->Q y:=by
 intro es;induction es with
 | nil=>intro i y h;cases h
 | cons k r d =>
   intro i y h;cases r with
   | nil=>exact b k y h
   | cons m s =>
     have:=gR h;cases c:da i 0 with
     | true=>rw[c] at this;exact b k y this
     | false=>rw[c] at this;exact d this
def ML:∀{l σ ba},FG l σ=ab ba->b8 σ ba:=by
 intro l;induction l with
 | nil=>intro σ ba h;obtain rfl:=aR h;apply b8.refl
 | cons m r b =>
   intro σ ba h;unfold FG at h;cases c:Nat.ble 2000000 m with
   | false=>rw[c] at h;exact b h
   | true =>
     rw[c] at h;split at h
     .split at h
      .split at h
       .split at h
        .rename_i d;exact(re d).trans ((b8.put _ _ _).trans<|b h)
        .cases h
       .cases h
      .cases h
     .exact b h
def Jl{B N a w}:∀{l σ ba γ},FG l σ=ab ba->dK B N γ σ a w->∃bK,dK B N bK ba a w/\Ext B γ σ.mem w bK ba.mem w:=by
 intro l;induction l with
 | nil=>intro σ ba γ h b;obtain rfl:=aR h;exact⟨γ,b,Ext.refl _ _ _ _⟩
 | cons m r d =>
   intro σ ba γ h b;unfold FG at h;cases i:Nat.ble 2000000 m with
   | false=>rw[i] at h;exact d h b
   | true =>
     rw[i] at h;generalize m-2000000=k at h;split at h
     .split at h
      .split at h
       .split at h
        .rename_i x b6 j;obtain⟨e,c,n,o⟩:=n9 b (b.br k) j;have p:dK B N e (b6.put k _) a w:=⟨λt=>by
          unfold St.put;dsimp only;cases q:Nat.beq t k with
          | false=>exact c.br t
          | true =>
            obtain rfl:=ja q;exact o,c.size,c.defers,c.ok⟩
         obtain⟨g,s,u⟩:=d h p;exact⟨g,s,n.trans u⟩
        .cases h
       .cases h
      .cases h
     .exact d h b
def X1{f}(e:∀σ r,(f σ).run=ab r->b8 σ r.2):∀n σ r,(again f n σ).run=ab r->b8 σ r.2:=by
 intro n;induction n with
 | zero=>intro σ r h;cases h
 | succ n g =>
   intro σ r h;obtain⟨i,j,b⟩:=bind_some h;have c:=e _ _ j;cases d:Nat.beq i.1 0 with
   | true=>rw[d] at b;exact c.trans (g _ _ b)
   | false=>rw[d] at b;obtain rfl:=aR b;exact c
def Vd{f}(g:∀σ r,(f σ).run=ab r->b8 σ r.2){c}:∀n j σ r,(Hz f c n j σ).run=ab r->b8 σ r.2:=by
 intro n;induction n with
 | zero=>intro j σ r h;cases h
 | succ n i =>
   intro j σ r h;unfold Hz at h;split at h
   .have h:=cP h;obtain⟨k,l,b⟩:=bind_some h.2;have d:=(b8.put σ c _).trans (g _ _ l);cases e:Nat.beq k.1 0 with
    | true=>rw[e] at b;exact d.trans (i _ _ _ b)
    | false=>rw[e] at b;obtain rfl:=aR b;exact d
   .cases h
def w8(g:∀f z σ v ba,(inl f z σ).run=ab (v,ba)->b8 σ ba):∀c j σ r,(kE cx nb bf inl c j σ).run=ab r->b8 σ r.2:=by
 intro c;induction c with
 | skip=>intro j σ r h;obtain rfl:=aR h;exact b8.refl _
 | label l=>intro j σ r h;obtain rfl:=aR h;exact b8.refl _
 | ret=>intro j σ r h;obtain rfl:=aR h;exact b8.refl _
 | exit i=>intro j σ r h;obtain rfl:=aR h;apply b8.refl
 | region id ops I =>
   intro j σ r h;obtain⟨b6,q,d⟩:=bind_some h;obtain rfl:=aR d;cases I with
   | true =>
     have m:(zr cx nb bf inl ops σ).run=ab b6:=q;unfold zr at m;cases F:ops.any λo=>o.guard.isSome with
     | true =>
       rw[F] at m;obtain⟨J,K⟩:=aJ m;exact XV g _ _ _ _ _ _ K
     | false =>
       rw[F] at m;exact X0 g _ _ _ _ _ m
   | false=>exact F9 g _ _ _ _ q
 | seq a b s t =>
   intro j σ r h;obtain⟨A,q,d⟩:=bind_some h;have G:=s _ _ _ q;cases H:Nat.beq A.1 0 with
   | true=>rw[H] at d;exact G.trans (t _ _ _ d)
   | false=>rw[H] at d;obtain rfl:=aR d;exact G
 | block i a u =>
   intro j σ r h;obtain⟨A,q,d⟩:=bind_some h;obtain rfl:=aR d;exact u _ _ A q
 | scope a u=>intro j σ r h;exact u _ _ _ h
 | cond c a b s t =>
   intro j σ r h;unfold kE at h;split at h
   .rename_i L O R;have:=gR h;cases L with
    | false=>exact t _ _ _ this
    | true=>exact s _ _ _ this
   .split at h
    .cases h
    rename_i σ n;refine(ML n).trans ?_;split at h
    .cases h
    .rename_i k C;have p:=Al C;dsimp only at h;split at h
     .rw[Tree.BV] at h;obtain⟨x,q,d⟩:=DD.1 h;obtain rfl:=aR d;exact Cg p
     .rw[Tree.BV] at h;obtain⟨x,q,d⟩:=DD.1 h;exact Jk (Q:=λr:Nat×St=>b8 σ r.2) (λe y D=>by obtain rfl:=aR D;exact Cg p) d
   .cases h
 | loop a u =>
   intro j σ r h;unfold kE at h;split at h
   .split at h
    .exact Vd (λσ r E=>u _ _ _ E) _ _ _ _ h
    split at h
    .cases h
    rename_i σ n;refine(ML n).trans ?_;split at h
    .cases h
    .rename_i k C;have p:=Al C;dsimp only at h;split at h
     .cases h
     .split at h
      .obtain⟨x,q,d⟩:=cp h;obtain rfl:=aR d;exact Cg p
      .obtain⟨x,q,d⟩:=cp h;exact Jk (Q:=λr=>b8 σ r.2) (λe y D=>by obtain rfl:=aR D;exact Cg p) d
   .exact X1 (λσ r E=>u _ _ _ E) _ _ _ h
   .cases h
 | _=>intro j σ r h;cases h
end
end Go.Ge
namespace Go.Ge
variable [Lp]
open RowKit
section
variable {P:Program} {B:BI} {N:Nat} {cx:Ctx} {nb:Nat} {bf:List Nat} {inl:Nat->List cA->St->Tree (cA×St)}
def Gg(k:Carry) σ:(k.lock σ).mem=vV (λb c=>bif DI k.M b then c.lk else true) σ.mem:=by
 funext b;simp only[Carry.lock,vV];cases σ.mem b with
 | none=>rfl
 | some c=>cases DI k.M b<;>rfl
def ahj(k:Carry) σ:k.lock σ={ σ with mem:=vV (λb c=>bif DI k.M b then c.lk else true) σ.mem }:=by
 have:=Gg k σ;unfold Carry.lock at this⊢;dsimp only at this⊢;rw[this]
def HO{T β}{t:Tree T}{k:T->Tree β}{y}(h:(t.join k).run=ab y):∃x,t.run=ab x/\(k x).run=ab y:=by
 rw[Tree.BV] at h;exact DD.1 h
def MM{α}{o:Option α}{y}(h:(Tree.ad1 o).run=ab y):o=ab y:=by
 cases o with
 | none=>cases h
 | some x=>exact h
def aeM{e0 e i}(h:J0 [e0] e=ab i):e=e0:=by
 simp only[J0] at h;cases b:Nat.beq e0 e with
 | true=>exact(ja b).symm
 | false=>rw[b] at h;cases h
def dK.Z7{γ σ a w}(h:dK B N γ σ a w){i v}(b:cM γ σ.mem w v .val [a.tmps.getD i Go.undef]):dK B N γ (σ.put i v) a w where
 br:=λt=>by
  show cM γ σ.mem w (bif Nat.beq t i then v else σ.br t) .val _
  cases c:Nat.beq t i with
  | true=>obtain rfl:=ja c;exact b
  | false=>exact h.br t
 size:=h.size
 defers:=h.defers
 ok:=h.ok
def Sz{a w}:∀{l σ ba γ},settle l σ=ab ba->dK B N γ σ a w->∃bK,dK B N bK ba a w/\Ext B γ σ.mem w bK ba.mem w/\b8 σ ba:=by
 intro l;induction l with
 | nil=>intro σ ba γ h c;obtain rfl:=aR h;exact⟨γ,c,Ext.refl _ _ _ _,b8.refl _⟩
 | cons p r e =>
   obtain⟨i,s⟩:=p;intro σ ba γ h c;cases s with
   | d t =>
     simp only[settle] at h;split at h
     .rename_i x b6 j;obtain⟨n,o,q,u⟩:=n9 c (c.br i) j;obtain⟨g,y,z,A⟩:=e h (o.Z7 u);exact⟨g,y,q.trans z,(re j).trans A⟩
     .cases h
   | k v=>exact e h c
   | m a b=>exact e h c
def Gi{k fz wr x rE rf XZ γ a a0 w w0}(j:Dd k rE)(l:dK B N XZ rE a0 w0)(m:dK B N γ rf a w)(n:Ext B XZ rE.mem w0 γ rf.mem w)
  (o:∀t,dz wr t=false->a.tmps[t]?=a0.tmps[t]?) (c:∀b e,rE.mem b=ab e->DI k.M b=false->rf.mem b=ab { e with lk:=true }) (g:k.LS fz rE rf=ab x) :
  ∃bK,dK B N bK (k.pV fz false wr rE x) a w/\Ext B XZ rE.mem w0 bK (k.pV fz false wr rE x).mem w:=by
 unfold Carry.LS at g;cases fz with
 | false=>exact⟨γ,uQ j l m n o (λb e h d=>⟨true,c b e h d⟩) g⟩
 | true =>
   split at g
   .rename_i b6 p;obtain⟨i,q,r,s⟩:=Sz p m;exact⟨i,uQ j l q (n.trans r) o (λb e h d=>⟨true,s b _ (c b e h d) rfl⟩) g⟩
   .cases g
noncomputable def roundOf(d:Ctx)(e:Nat)(g:List Nat)(inl:Nat->List cA->St->Tree (cA×St))(k:Carry)(h:Bool)(b:St)(c:Code)(j:List (Option LQ))(x:k.ty.den):Option (k.ty.den⊕(Nat×k.ty.den)) :=
 ((kE d e g inl c j<|k.pV false true (writes c) b x).bind λr=>bif Nat.beq r.1 0 then(match k.out false b r.2 with
   | some y=>.ret (.inl y)
   | none=>.fail)
  else match J0 (vF c) r.1,k.LS h b r.2 with
   | some i,ab y=>.ret (.inr (i,y))
   | _,_=>.fail).run
def QB{c k fz σ γ a w Q R}(C:Dd k σ)(h:dK B N γ σ a w){x0}(D:k.out false σ σ=ab x0)
  f (Out:R->Nat->k.ty.den->Prop) {z} (X:Loop f x0=ab z)
  (Y:∀x r,f x=ab r->∃e y,(match r with|.inl E=>e=0/\E=y|.inr z=>e≠0/\Out z e y) /\
   ∀j q t S,dK B N j (k.pV false true (writes c) σ x) q t->(∀rf bK d w',(bif Nat.beq e 0 then k.out false σ rf else k.LS fz σ rf)=ab y->b8 (k.pV false true (writes c) σ x) rf->dK B N bK rf d w'->Ext B j (k.pV false true (writes c) σ x).mem t bK rf.mem w'->Gf (writes c) q d->S (MK e) d w') ->
    c.wp P S q t)
  (final:∀e y,e≠0->Out z e y->∀bK d w',dK B N bK (k.pV fz false (writes c) σ y) d w'->Ext B γ σ.mem w bK (k.pV fz false (writes c) σ y).mem w'->Gf (writes c) a d->Q (MK e) d w') :
  (Code.loop c).wp P Q a w:=by
 obtain⟨n,Z⟩:=rO X;refine HN (λm d w'=>∃bK x,dK B N bK (k.pV false true (writes c) σ x) d w'/\Ext B γ σ.mem w bK (k.pV false true (writes c) σ x).mem w'/\Gf (writes c) a d/\rounds f m x=ab z) (n:=n) ?_ ?_
 .obtain⟨s,x⟩:=uQ C h h (Ext.refl _ _ _ _) (λ_ _=>rfl) (λb o u _=>⟨o.lk,u⟩) D;exact⟨γ,x0,s,x,Gf.refl _ _,Z⟩
 .intro m q t hI;obtain⟨j,x,s1,e1,f1,T⟩:=hI;cases m with
  | zero=>cases T
  | succ m =>
    obtain⟨r,F,v⟩:=DD.1 T;obtain⟨e,y,U,G⟩:=Y x r F;refine G j q t _ s1 λrf bK d w' H I W e2 f2=>?_;have hx:=e1.trans e2;have l:=f1.trans f2;have g:∀b o,σ.mem b=ab o->DI k.M b=false->rf.mem b=ab { o with lk:=true }:=λb o u p=>by
     have:=I b _ (Vc u p) aY;simpa using this
    cases r with
    | inl E =>
      obtain⟨rfl,rfl⟩:=U;obtain⟨J,K⟩:=uQ C h W hx l (λb o u p=>⟨true,g b o u p⟩) H;exact⟨m,ZM m,bK,E,J,K,l,v⟩
    | inr z' =>
      obtain⟨A,hO⟩:=U;obtain rfl:=aR v;have L:Nat.beq e 0=false:=kr A;rw[L] at H;obtain⟨O,J,K⟩:=Gi C h W hx l g H;have:=final e y A hO O d w' J K l
      match e,A,this with
      | 0,A,_=>exact absurd rfl A
      | 1,_,this=>exact this
      | i+2,_,this=>exact this
def abz{S}{o:Option (S⊕(Nat×S))}{r}(h:dn o=ab r):(∃y,r=.inl y/\o=ab (.inl y))\/∃i y,r=.inr y/\o=ab (.inr (i,y)):=by
 obtain⟨q,b,c⟩:=EA.1 h;cases q with
 | inl y=>exact .inl ⟨y,c.symm,b⟩
 | inr p=>exact .inr ⟨p.1,p.2,c.symm,b⟩
def uR(amv:P.follows .mixedOrders=true)(hc:fX P cx)(ahb:rb P B.G cx)(ahc:x4 P B.G inl)(H:∀f ajj σ v ba,(inl f ajj σ).run=ab (v,ba)->b8 σ ba) :
  ∀c {pl σ γ a w e ba Q},(∀t∈writes c,t<N)->(kE cx nb bf inl c pl σ).run=ab (e,ba)->dK B N γ σ a w ->
   (∀bK d w',dK B N bK ba d w'->Ext B γ σ.mem w bK ba.mem w'->Gf (writes c) a d->Q (MK e) d w')->c.wp P Q a w:=by
 intro c;induction c with
 | skip =>
   intro pl σ γ a w e ba Q F g h u;obtain⟨rfl,rfl⟩:=cg (aR g);exact wp_skip (u γ a w h (Ext.refl _ _ _ _)<|Gf.refl _ _)
 | label l =>
   intro pl σ γ a w e ba Q F g h u;obtain⟨rfl,rfl⟩:=cg (aR g);exact wp_label (u γ a w h (Ext.refl _ _ _ _)<|Gf.refl _ _)
 | ret =>
   intro pl σ γ a w e ba Q F g h u;obtain⟨rfl,rfl⟩:=cg (aR g);exact wp_ret (u γ a w h (Ext.refl _ _ _ _)<|Gf.refl _ _)
 | exit i =>
   intro pl σ γ a w e ba Q F g h u;obtain⟨rfl,rfl⟩:=cg (aR g);exact wp_exit (u γ a w h (Ext.refl _ _ _ _)<|Gf.refl _ _)
 | region id ops dr =>
   intro pl σ γ a w e ba Q F g h u;obtain⟨b6,R,L⟩:=bind_some g;obtain⟨rfl,rfl⟩:=cg (aR L);have hd':∀o∈ops.toList,∀k,o.dst=ab k->k<N:=λo ho k hk=>F k (Sy ho hk);have hfr:∀{a d},Fr (number 0 ops.toList) a d->Gf _ a d:=λhf t ht=>hf t (Vb ht);cases dr with
   | true=>exact U7 amv hc ahb ahc hd' R h λbK d w' s x f=>u bK d w' s x (hfr f)
   | false=>exact Sg hc ahb ahc H hd' R h λbK d w' s x f=>u bK d w' s x (hfr f)
 | seq x y ihx ihy =>
   intro pl σ γ a w e ba Q F g h u;obtain⟨r1,R,L⟩:=bind_some g;obtain⟨Y,b6⟩:=r1;have hdx:=λt ht=>F t (DF _ ht);have hdy:∀t∈writes y,t<N:=λt ht=>F t (JV _ ht);refine wp_seq (ihx hdx R h λbK d w' D I C=>?_);cases Y with
   | zero=>exact ihy hdy L D λamw a'' w'' s2 x2 f2=>u amw a'' w'' s2 (I.trans x2) (C.left.trans f2.right)
   | succ Y =>
     obtain⟨rfl,rfl⟩:=cg (aR L);have:=u bK d w' D I C.left;cases Y with
     | zero=>exact this
     | succ i=>exact this
 | block i x ih =>
   intro pl σ γ a w e ba Q F g h u;obtain⟨r1,R,L⟩:=bind_some g;obtain⟨Y,b6⟩:=r1;obtain⟨rfl,rfl⟩:=cg (aR L);refine wp_block (ih F R h λbK d w' D I C=>?_);have:=u bK d w' D I C
   match Y,this with
   | 0,this=>exact this
   | 1,this=>exact this
   | j+2,this =>
     show Exit.inBlock i Q (.exit j) d w'
     unfold Exit.inBlock;by_cases e:j=i
     .subst e;simpa [MK] using this
     .simp only[aQ e];have hb:Nat.beq (j+2) (i+2)=false:=kr ai;rw[hb] at this;exact this
 | scope x ih =>
   intro pl σ γ a w e ba Q F g h u;refine wp_scope_straight (ih F g h λbK d w' D I C=>?_);have:=u bK d w' D I C
   match e,this with
   | 0,this=>exact this
   | 1,this=>exact this
   | j+2,this=>exact this
 | cond o x y ihx ihy =>
   intro pl σ γ a w e ba Q F g h u;have hdx:=λt ht=>F t (DF _ ht);have hdy:=λt ht=>F t (JV _ ht);unfold kE at g;split at g
   .rename_i c0 O hcv;have E:=h.dv o;rw[hcv] at E;have E:=Ah E;have hn:=gR g;cases c0 with
    | false=>exact wp_cond_false E (ihy hdy hn h λbK d w' D I C=>u bK d w' D I C.right)
    | true=>exact wp_cond_true E (ihx hdx hn h λbK d w' D I C=>u bK d w' D I C.left)
   .rename_i c0 p O hcv;have E:=h.dv o;rw[hcv] at E;have E:=Ah E;split at g
    .cases g
    rename_i σ Z;obtain⟨γ,h,hx⟩:=Jl Z h;replace u:=λbK d w' s x f=>u bK d w' s (hx.trans x) f;split at g
    .cases g
    rename_i k hk;have hok:=Al hk;have go:∀{r},(Tree.node c0 (kE cx nb bf inl x O<|k.lock σ)<|kE cx nb bf inl y (O.drop<|marks x)<|k.lock σ).run=ab r->∀{v},k.LS p.fz σ r.2=ab v ->
      (∀bK d w',dK B N bK (k.pV p.fz false (writes x++writes y) σ v) d w'->Ext B γ σ.mem w bK (k.pV p.fz false (writes x++writes y) σ v).mem w'->Gf (writes x++writes y) a d->Q (MK r.1) d w') ->
      (Code.cond o x y).wp P Q a w:=by
     intro r S v ho hQ;have hlk:dK B N γ (k.lock σ) a w:=by rw[ahj];exact h.vV
     have hle:Ext B γ σ.mem w γ (k.lock σ).mem w:=by rw[Gg];exact Ext.vV
     have fin:b8 (k.lock σ) r.2->∀bK d w',dK B N bK r.2 d w'->Ext B γ (k.lock σ).mem w bK r.2.mem w'->Gf (writes x++writes y) a d->Q (MK r.1) d w':=by
      intro hkp bK d w' D I C;obtain⟨γ2,s2,x2⟩:=Gi hok h D (hle.trans I) C (λb bx hb Z1=>hkp b _ (by rw[Gg,Qz hb,Z1];rfl) rfl) ho;exact hQ γ2 d w' s2 x2 C
     have hn:=gR S;cases c0 with
     | false=>exact wp_cond_false E (ihy hdy hn hlk λbK d w' D I C=>fin (w8 H _ _ _ _ hn) bK d w' D I C.right)
     | true=>exact wp_cond_true E (ihx hdx hn hlk λbK d w' D I C=>fin (w8 H _ _ _ _ hn) bK d w' D I C.left)
    split at g
    .obtain⟨v,R,L⟩:=HO g;obtain⟨rfl,rfl⟩:=cg (aR L);obtain⟨r,h3,h4⟩:=bind_some R;obtain⟨h5,h6⟩:=aJ h4;refine go h3 (MM h6) λbK d w' s x f=>?_;rw[ja h5];exact u bK d w' s x f
    .rename_i es hes;obtain⟨v,R,L⟩:=HO g;obtain⟨r,h3,h4⟩:=bind_some R;split at h4
     .rename_i i v' J ho;obtain rfl:=aR h4;rw[QA J] at L;obtain⟨rfl,rfl⟩:=cg (aR L);exact go h3 ho λbK d w' s x f=>u bK d w' s x f
     .cases h4
   .cases g
 | loop c ih =>
   intro pl σ γ a w e ba Q F g h u;unfold kE at g;split at g
   case h_2 =>
    generalize 100000=n at g;refine HN (λm d w'=>∃bK b6,dK B N bK b6 d w'/\Ext B γ σ.mem w bK b6.mem w'/\Gf (writes c) a d/\(again _ m b6).run=ab _) ⟨γ,σ,h,Ext.refl _ _ _ _,Gf.refl _ _,g⟩ ?_;intro m a1 w1 hI;obtain⟨T,b6,D,Y,C,K⟩:=hI;cases m with
    | zero=>cases K
    | succ m =>
      obtain⟨r,U,A⟩:=bind_some K;obtain⟨e',cQ⟩:=r;refine ih F U D λbK d w' s2 e2 f2=>?_;cases X:Nat.beq e' 0 with
      | true =>
        dsimp only at A;rw[X] at A;obtain rfl:=ja X;exact⟨m,ZM m,bK,cQ,s2,Y.trans e2,C.trans f2,A⟩
      | false =>
        dsimp only at A;rw[X] at A;obtain⟨rfl,rfl⟩:=cg (aR A);have:=u bK d w' s2 (Y.trans e2) (C.trans f2)
        match e',X,this with
        | 0,X,_=>cases X
        | 1,_,this=>exact this
        | i+2,_,this=>exact this
   case h_3=>cases g
   rename_i p O;split at g
   .rename_i ct hct;generalize 100=n at g;generalize 0=j at g;refine HN (λm d w'=>∃bK b6 j',dK B N bK b6 d w'/\Ext B γ σ.mem w bK b6.mem w'/\Gf (writes c) a d/\(Hz _ ct m j' b6).run=ab _) ⟨γ,σ,j,h,Ext.refl _ _ _ _,Gf.refl _ _,g⟩ ?_;intro m a1 w1 hI;obtain⟨T,b6,j1,D,Y,C,K⟩:=hI;cases m with
    | zero=>cases K
    | succ m =>
      unfold Hz at K;split at K
      case h_2=>cases K
      rename_i x hx;obtain⟨hj,hr2⟩:=cP K;obtain⟨r,U,A⟩:=bind_some hr2;obtain⟨e',cQ⟩:=r;change Int at x;have s1':dK B N T (b6.put ct<|.data (.int .i64) (j1:Int)) a1 w1:=D.Z7 (by
       have:=D.br ct;rw[hx] at this;rw[<-(iy hj)];exact this)
      refine ih F U s1' λbK d w' s2 e2 f2=>?_;cases X:Nat.beq e' 0 with
      | true =>
        obtain rfl:=ja X;exact⟨m,ZM m,bK,cQ,j1+1,s2,Y.trans e2,C.trans f2,A⟩
      | false =>
        dsimp only at A;rw[X] at A;obtain⟨rfl,rfl⟩:=cg (aR A);have:=u bK d w' s2 (Y.trans e2) (C.trans f2)
        match e',X,this with
        | 0,X,_=>cases X
        | 1,_,this=>exact this
        | i+2,_,this=>exact this
   split at g
   .cases g
   rename_i σ Z;obtain⟨γ,h,hx⟩:=Jl Z h;replace u:=λbK d w' s x f=>u bK d w' s (hx.trans x) f;split at g
   .cases g
   rename_i k hk;have hok:=Al hk;dsimp only at g;split at g
   .cases g
   rename_i x0 hx0;have hb:∀x r,roundOf cx nb bf inl k p.fz σ c O x=ab r->∃e rf y,(kE cx nb bf inl c O<|k.pV false true (writes c) σ x).run=ab (e,rf)/\(bif Nat.beq e 0 then k.out false σ rf else k.LS p.fz σ rf)=ab y/\((e=0/\r=.inl y)\/(e≠0/\∃i,J0 (vF c) e=ab i/\r=.inr (i,y))):=by
    intro x r hx;obtain⟨q,U,A⟩:=bind_some hx;obtain⟨e,rf⟩:=q;cases he:Nat.beq e 0 with
    | true =>
      rw[he] at A;split at A
      .rename_i y hy;exact⟨e,rf,y,U,by rw[he];exact hy,.inl ⟨ja he,(aR A).symm⟩⟩
      .cases A
    | false =>
      rw[he] at A;simp at A;split at A
      .rename_i i y hi hy;exact⟨e,rf,y,U,by rw[he];exact hy,.inr ⟨λe0=>(by subst e0;cases he),i,hi,(aR A).symm⟩⟩
      .cases A
   have step:∀{x e rf y},(kE cx nb bf inl c O<|k.pV false true (writes c) σ x).run=ab (e,rf)->(bif Nat.beq e 0 then k.out false σ rf else k.LS p.fz σ rf)=ab y->∀T a1 w1 Q',dK B N T (k.pV false true (writes c) σ x) a1 w1 ->
     (∀rf bK d w',(bif Nat.beq e 0 then k.out false σ rf else k.LS p.fz σ rf)=ab y->b8 (k.pV false true (writes c) σ x) rf->dK B N bK rf d w'->Ext B T (k.pV false true (writes c) σ x).mem w1 bK rf.mem w'->Gf (writes c) a1 d->Q' (MK e) d w')->c.wp P Q' a1 w1:=by
    intro x e rf y S ho T a1 w1 Q' s hQ;exact ih F S s λbK d w' D I C=>hQ rf bK d w' ho (w8 H _ _ _ _ S) D I C
   split at g
   .rename_i e0 hes;obtain⟨v,R,L⟩:=cp g;obtain⟨rfl,rfl⟩:=cg (aR L);refine QB (fz:=p.fz) hok h hx0 _ (λz e' y=>e'=e0/\z=y) R (λx r hx=>?_) (λe' y hne hO bK d w' s x f=>?_)
    .rcases abz hx with ⟨y,rfl,hy⟩|⟨i,y,rfl,hy⟩
     .obtain⟨e,rf,y',U,A,W⟩:=hb x _ hy;rcases W with ⟨rfl,W⟩|⟨_,i,_,W⟩
      .obtain rfl:=Ul W;exact⟨0,y,⟨rfl,rfl⟩,step U A⟩
      .cases W
     .obtain⟨e,rf,y',U,A,W⟩:=hb x _ hy;rcases W with ⟨rfl,W⟩|⟨hne,i',J,W⟩
      .cases W
      .obtain⟨rfl,rfl⟩:=cg (Sum.inr.inj W);rw[hes] at J;exact⟨e,y,⟨hne,aeM J,rfl⟩,step U A⟩
    .obtain⟨rfl,rfl⟩:=hO;exact u bK d w' s x f
   .obtain⟨v,R,L⟩:=cp g;refine QB (fz:=p.fz) hok h hx0 _ (λz e' y=>J0 (vF c) e'=ab z.1/\z.2=y) R (λx r hx=>?_) (λe' y hne hO bK d w' s x f=>?_)
    .obtain⟨e,rf,y',U,A,W⟩:=hb x _ hx;rcases W with ⟨rfl,rfl⟩|⟨hne,i,J,rfl⟩
     .exact⟨0,y',⟨rfl,rfl⟩,step U A⟩
     .exact⟨e,y',⟨hne,J,rfl⟩,step U A⟩
    .obtain⟨J,rfl⟩:=hO;rw[QA J] at L;obtain⟨rfl,rfl⟩:=cg (aR L);exact u bK d w' s x f
 | _=>intro pl σ γ a w e ba Q F g h u;cases g
end
end Go.Ge
namespace Go.Ge
variable [Lp]
open RowKit
def X2(b:Func):Bool:=!(b.name == "runtime.NumGoroutine")&&(match b.body with|some c=>(writes c).all λt=>Nat.blt t b.ntmps|none=>true)
def QC(cx:Ctx):Prop:=∀f b,find cx.fns f=ab b->X2 b=true
def uS{α}{l:List (Nat×α)}{k x}(h:find l k=ab x):(k,x)∈l:=by
 induction l with
 | nil=>cases h
 | cons p r c =>
   obtain⟨i,a⟩:=p;simp only[find] at h;cases b:Nat.beq i k with
   | true =>
     rw[b] at h;obtain rfl:=aR h;obtain rfl:=ja b;exact pL ..
   | false=>rw[b] at h;exact vi _ (c h)
def Ve{cx}(h:(cx.fns.all λp=>X2 p.2)=true):QC cx:=λf c b=>by
 rw[vR] at h;exact h _ (uS b)
section
variable {P:Program} {B:BI} {N:Nat} {γ:Gh} {σ:St} {a:Act} {w:World} {cx:Ctx}
def HP(b:Array Value):ResultVar->Sem Value
 | .tmp t=>pure (b.getD t undef)
 | .cell a t=>do loadVar t (<-asAddr (b.getD a undef))
def Bj(e:fX P cx)(h:dK B N γ σ a w){r v}(d:(HA cx σ r).run=ab v):∃b,(HP a.tmps r).run P w=.ok b w/\cM γ σ.mem w v .val [b]:=by
 cases r with
 | tmp t =>
   obtain rfl:=aR d;exact⟨_,rfl,h.br t⟩
 | cell t ty =>
   obtain⟨τ,g,i⟩:=bind_some d;obtain rfl:=aR i;obtain⟨u,b,j,rfl,k,l,m⟩:=UB e (x:=.tmp t) h g;refine⟨b,?_,?_⟩
   .have c:a.tmps.getD t undef=.pointer (ab j):=k;simp only[HP,c,asAddr,Sem.run_bind,Sem.run_pure,Result.andThen_ok,l]
   .simpa [St.bD,St.put] using m
def MN(e:fX P cx)(h:dK B N γ σ a w):∀{rs v},(FI cx σ rs).run=ab v->∃b,b.length=rs.length/\(rs.mapM<|HP a.tmps).run P w=.ok b w/\cM γ σ.mem w v .many b:=by
 intro rs;induction rs with
 | nil=>intro v d;obtain rfl:=aR d;exact⟨[],rfl,rfl,rfl⟩
 | cons r rs g =>
   intro v d;obtain⟨t,i,j⟩:=bind_some d;obtain⟨l,k,m⟩:=bind_some j;obtain rfl:=aR m;obtain⟨c,n,o⟩:=Bj e h i;obtain⟨b,p,q,s⟩:=g k;refine⟨c::b,by simp[p],?_,c,b,rfl,o,s⟩;simp only[ZS,Sem.run_bind,n,Result.andThen_ok,q,Sem.run_pure]
def X3 fn tmps:results fn tmps=(do
  let vs <-fn.results.toList.mapM (HP tmps)
  pure (if h:vs.toArray.size=1 then vs.toArray[0] else .tuple vs.toArray)):=by
 have h:results fn tmps=(do
   let vs <-fn.results.mapM (HP tmps)
   pure (if h:vs.size=1 then vs[0] else .tuple vs)):=by
  congr 1
 rw[h,Array.mapM_eq_mapM_toList];simp
def yQ(j:fX P cx)(h:dK B N γ σ a w){fn v}(d:(results1 cx σ fn.results.toList).run=ab v):∃b,(results fn a.tmps).run P w=.ok b w/\cM γ σ.mem w v .val [b]:=by
 rw[X3];generalize fn.results.toList=rs at d;have many:∀{l},rs.length≠1->(FI cx σ rs).run=ab l->∃b,(do
   let vs <-rs.mapM (HP a.tmps)
   pure (if h:vs.toArray.size=1 then vs.toArray[0] else .tuple vs.toArray):Sem Value).run P w=.ok b w/\cM γ σ.mem w (.BN l) .val [b]:=by
  intro l e k;obtain⟨c,m,n,o⟩:=MN j h k;refine⟨.tuple c.toArray,?_,c.toArray,rfl,by simpa using o⟩;have:¬c.toArray.size=1:=by simp[m,e]
  simp only[Sem.run_bind,n,Result.andThen_ok,Sem.run_pure,dif_neg this]
 match rs,d with
 | [],d =>
   obtain⟨l,g,i⟩:=bind_some d;obtain rfl:=aR i;exact many aY g
 | [r],d =>
   obtain⟨b,p,q⟩:=Bj j h d;refine⟨b,?_,q⟩;simp only[ZS,Sem.run_bind,p];rfl
 | r::s::rs,d =>
   obtain⟨l,g,i⟩:=bind_some d;obtain rfl:=aR i;exact many aY g
def HQ{mem}(i:bN B γ mem w){b c}(e:nz γ mem w b c.toList) n :
  dK B (c.size+(n-c.size)) γ (pW mem b) { tmps:=c++Array.replicate (n-c.size) undef,defers:=[] } w where
 br:=λt=>by
  show cM γ mem w ((b[t]?).getD .undef) .val [_]
  cases g:b[t]? with
  | none=>exact⟨_,rfl⟩
  | some v =>
    have h:t<c.size:=by
     have:=(ib.1 g).1;have d:=e.1;simp at d;omega
    have d:(c++Array.replicate (n-c.size) undef).getD t undef=c[t]:=by
     rw[Xc,aiD h,(Array.getElem?_eq_getElem h)];rfl
    rw[d];exact e.2 t v c[t] g aY
 size:=aY
 defers:=rfl
 ok:=i
noncomputable def QD(c:Ctx)(n d:Nat)(b:Nat->FF):Nat->List cA->St->Tree (cA×St) :=
 λg e σ=>(FJ c n ((d+g+1)*1000) b g e σ.mem).bind λr=>.ret (r.1,{ σ with mem:=r.2 })
def MO{n nb f fJ b mem r}(d:(FJ cx (n+1) nb fJ f b mem).run=ab r) :
  ∃e c,find cx.fns f=ab e/\e.body=ab c/\((LU cx nb (fJ f) (QD cx n nb fJ) e c b mem).run=ab r\/∃R,(Z0 R b mem<|LU cx nb (fJ f) (QD cx n nb fJ) e c b).run=ab r):=by
 unfold FJ at d;split at d
 case h_2=>cases d
 rename_i e g;split at d
 case h_2=>cases d
 rename_i c h;refine⟨e,c,g,h,?_⟩;split at d
 .exact .inl d
 .exact .inr ⟨_,d⟩
def EU{nb p inl fn c b mem r}(g:(LU cx nb p inl fn c b mem).run=ab r) :
  ∃e ba,(kE cx nb p.ai6 inl c p.marks<|pW mem b).run=ab (e,ba)/\(e=0\/e=1)/\(results1 cx ba fn.results.toList).run=ab r.1/\r.2=ba.mem:=by
 obtain⟨q,h,i⟩:=bind_some g;obtain⟨e,ba⟩:=q;obtain⟨d,j⟩:=aJ i;obtain⟨v,k,l⟩:=bind_some j;obtain rfl:=aR l;refine⟨e,ba,h,?_,k,rfl⟩;simp only[BS] at d;rcases d with d|d
 .exact .inl (ja d)
 .exact .inr (ja d)
def ahk:∀{l i t s},(t,s)∈ZZ l i->∃u,s=.d u:=by
 intro l;induction l with
 | nil=>intro i t s h;cases h
 | cons a r b =>
   intro i t s h;rcases ld.1 h with h|h
   .obtain⟨rfl,rfl⟩:=cg h;exact⟨a,rfl⟩
   .exact b h
def MP{R c mem F r}(d:(Z0 R c mem F).run=ab r) :
  ∃(k:Carry) (x:k.ty.den) (v:cA) (cT:Nat->Option Box),Dd k (lT mem)/\(F (k.lock<|lT mem).mem).run=ab (v,cT)/\k.out false (lT mem) (aec R.1 v cT)=ab x/\Uv R.1 v R.2.length=true /\
   r=(RP R.1 R.2.length (k.pV false false (List.range R.2.length) (lT mem) x).br,(k.pV false false (List.range R.2.length) (lT mem) x).mem):=by
 unfold Z0 at d;split at d
 .cases d
 rename_i m i;obtain⟨x,j,l⟩:=HO d;obtain⟨q,n,e⟩:=bind_some j;obtain⟨o,e⟩:=aJ e;refine⟨⟨ZZ R.2 0,m,λ_ g=>g⟩,x,q.1,q.2,⟨λt s h=>?_,aeK i,λb x p=>(by cases p)⟩,n,MM e,o,(aR l).symm⟩;obtain⟨u,rfl⟩:=ahk h;trivial
def aeN{γ mem w}:∀{m vs},cM γ mem w m .many vs->RO m=vs.length/\∀t u,nth m t=ab u->∃v,vs[t]?=ab v/\cM γ mem w u .val [v]:=by
 intro m;induction m with
 | mix a b _ d =>
   intro vs h;obtain⟨v,r,rfl,e,g⟩:=h;obtain⟨i,j⟩:=d g;refine⟨by simp only[RO,eU,i],λt u c=>?_⟩;cases t with
   | zero=>obtain rfl:=aR c;exact⟨v,rfl,e⟩
   | succ t=>exact j t u c
 | nl=>intro vs h;obtain rfl:vs=[]:=h;exact⟨rfl,λt u c=>(by cases t<;>cases c)⟩
 | _=>intro vs h;exact h.elim
def abA{γ mem w br}:∀b i,(∀t v,b[t]?=ab v->cM γ mem w (br<|i+t) .val [v])->cM γ mem w (ai8 br i b.length) .many b:=by
 intro b;induction b with
 | nil=>intro i h;exact rfl
 | cons v r c =>
   intro i h;refine⟨v,r,rfl,h 0 v rfl,c _ λt u d=>?_⟩;have:=h (t+1) u (by simpa using d)
   rwa [show i+_=i+1+t by omega] at this
def X4{fJ}:∀n nb f d mem r,(FJ cx n nb fJ f d mem).run=ab r->∀b g,mem b=ab g->g.lk=true->r.2 b=ab g:=by
 intro n;induction n with
 | zero=>intro nb f d mem r h;cases h
 | succ n m =>
   intro nb f d mem r h b g j l;obtain⟨o,c,z,A,i⟩:=MO h;have body:∀{mem r},(LU cx nb (fJ f) (QD cx n nb fJ) o c d mem).run=ab r->∀b g,mem b=ab g->g.lk=true->r.2 b=ab g:=by
    intro mem r h b g j l;obtain⟨e,ba,i,C,D,p⟩:=EU h;have:=w8 (λf d σ v ba s=>by
     obtain⟨q,t,u⟩:=bind_some s;obtain⟨rfl,rfl⟩:=cg (aR u);exact λb g j l=>m _ _ _ _ q t b g j l) c _ _ _ i
    rw[p];exact this b g j l
   rcases i with i|⟨R,i⟩
   .exact body i b g j l
   .obtain⟨k,x,v,cT,y,_,_,_,rfl⟩:=MP i;exact Cg (wr:=List.range R.2.length) y b g j l
def MQ{fJ} n nb:∀f c σ v ba,(QD cx n nb fJ f c σ).run=ab (v,ba)->b8 σ ba:=by
 intro f c σ v ba d;obtain⟨q,e,g⟩:=bind_some d;obtain⟨rfl,rfl⟩:=cg (aR g);exact λb h i j=>X4 _ _ _ _ _ q e b h i j
def Jm(Q:P.follows .mixedOrders=true)(hc:fX P cx){G}(S:rb P G cx)(T:QC cx){fJ} :
  ∀n nb f B γ mem cT w g y v,B.G=G->bN B γ mem w->nz γ mem w g y.toList->(FJ cx n nb fJ f g mem).run=ab (v,cT) ->
  (∃p U,P.funcs[f]?=ab p/\(p.name == "runtime.NumGoroutine")=false/\p.body=ab U) /\
  Calls P f y w λe w'=>∃d bK,e=.returned d/\bN B bK cT w'/\Ext B γ mem w bK cT w'/\cM bK cT w' v .val [d]:=by
 intro n;induction n with
 | zero=>intro nb f B γ mem cT w g y v _ _ _ h;cases h
 | succ n ih =>
   intro nb f B γ mem cT w g y v hG A K h;subst hG;obtain⟨p,c,h1,h2,C⟩:=MO h;have D:=T f p h1;simp only[X2,h2,gw,zh,vR] at D;have hP:=hc.fns f p h1;refine⟨⟨p,c,hP,D.1,h2⟩,?_⟩;have W:x4 P B.G (QD cx n nb fJ):=by
    intro B' γ σ apk w f g y v hG A K hi;obtain⟨q,g1,g2⟩:=bind_some hi;obtain⟨rfl,rfl⟩:=cg (aR g2);obtain⟨k1,k2⟩:=ih _ f B' γ σ.mem q.2 w g y q.1 hG A K g1;exact⟨k1,rfl,k2⟩
   have body:∀{γ mem cT v},bN B γ mem w->nz γ mem w g y.toList->(LU cx nb (fJ f) (QD cx n nb fJ) p c g mem).run=ab (v,cT) ->
     Calls P f y w λe w'=>∃d bK,e=.returned d/\bN B bK cT w'/\Ext B γ mem w bK cT w'/\cM bK cT w' v .val [d]:=by
    intro γ mem cT v A K h;obtain⟨e,ba,C,h4,h5,h6⟩:=EU h;subst h6;refine calls_of_wp hP h2 ?_;refine uR Q hc S W (MQ _ _) c (λt r=>?_) C (HQ A K p.ntmps) λbK a' w' s x f=>?_
    .have:=D.2 t r;have:=JU (by simpa [Nat.blt] using this);omega
    .obtain⟨d,r1,r2⟩:=yQ hc s h5;have:a'.defers=[]/\∃O,(results p a'.tmps).run P w'=.ok O w'/\∃d bK,Ending.returned O=.returned d/\bN B bK ba.mem w'/\Ext B γ mem w bK ba.mem w'/\cM bK ba.mem w' v .val [d] :=
      ⟨s.defers,d,r1,d,bK,rfl,s.ok,x,r2⟩
     rcases h4 with rfl|rfl
     .exact this
     .exact this
   rcases C with C|⟨R,C⟩
   .exact body A K C
   .obtain⟨k,x,O,i,hk,h4,h5,E,h6⟩:=MP C;obtain⟨rfl,rfl⟩:=cg h6;have F:(k.lock<|lT mem).mem=vV _ mem:=Gg k _;have X:Ext B γ mem w γ (k.lock<|lT mem).mem w:=by rw[F];exact Ext.vV
    have H:∀b I,(k.lock<|lT mem).mem b=ab I->I.lk=true->i b=ab I:=by
     intro b I hb hl;obtain⟨e,ba,g3,_,_,g6⟩:=EU h4;have:=w8 (λf g σ v ba hi=>MQ n nb f g σ v ba hi) c _ _ _ g3;rw[show i=ba.mem from g6];exact this b I hb hl
    refine(body (by rw[F];exact A.vV) (K.ext X) h4).mono λe w' hw=>?_;obtain⟨d,j,rfl,m1,x1,r1⟩:=hw;have fin:∀n (ts:Array Value),ts.size=n->n=R.2.length->(∀t,cM j i w' (spread R.1 O t) .val [ts.getD t undef]) ->
      (∀{o sl},(∀t,cM j o w' (sl t) .val [ts.getD t undef])->cM j o w' (RP R.1 R.2.length sl) .val [d]) ->
      ∃z J,Ending.returned d=.returned z/\bN B J (k.pV false false (List.range R.2.length) (lT mem) x).mem w'/\Ext B γ mem w J (k.pV false false (List.range R.2.length) (lT mem) x).mem w' /\
       cM J (k.pV false false (List.range R.2.length) (lT mem) x).mem w' (RP R.1 R.2.length (k.pV false false (List.range R.2.length) (lT mem) x).br) .val [z]:=by
     intro n ts hts hn hr hg;have s0:dK B n γ (lT mem) { tmps:=Array.replicate n undef,defers:=[] } w:=⟨λt=>⟨_,rfl⟩,aY,rfl,A⟩;have s1:dK B n j (aec R.1 O i) { tmps:=ts,defers:=[] } w':=⟨hr,hts,rfl,m1⟩;obtain⟨s2,x2⟩:=uQ hk s0 s1 (X.trans x1) (λt r=>by
      have r:¬t<n:=λhlt=>by
       have Y:t∈List.range R.2.length:=LD.2 ai;have:=Mi.2 Y;rw[this] at r;cases r
      rw[T8<|by show ts.size<=t;omega,T8 nU]) (λb I hb Z1=>⟨true,H b _ (by rw[F];simp only[vV,show mem b=ab I from hb,Z1,FA]) rfl⟩) h5
     exact⟨d,j,rfl,s2.ok,x2,hg s2.br⟩
    obtain⟨BN,L⟩:=R;cases BN with
    | false =>
      refine fin 1 #[d] rfl (ja E).symm (λt=>?_) (λh=>h 0);cases t with
      | zero=>exact r1
      | succ t=>exact⟨_,rfl⟩
    | true =>
      cases O with
      | BN m =>
        obtain⟨l,e1,r2⟩:=r1;obtain⟨q1,q2⟩:=aeN r2;obtain rfl:d=.tuple l:=BQ e1;have Z:l.size=L.length:=by rw[<-(ja E),q1];simp
        refine fin L.length l Z rfl (λt=>?_) (λ{o sl} h=>⟨l,rfl,?_⟩)
        .show cM j i w' (match nth m t with|some u=>u|none=>.undef) .val _
         cases r:nth m t with
         | none=>exact⟨_,rfl⟩
         | some u =>
           obtain⟨v,g1,g2⟩:=q2 t u r;rw[Xc,<-ady,g1];exact g2
        .have:=abA l.toList 0 λt v r=>by
          have:=h t;rw[Xc,<-ady,r] at this;rw[BT];exact this
         rwa [show l.toList.length=L.length by rw[<-Z];simp] at this
      | _=>cases E
end
end Go.Ge
