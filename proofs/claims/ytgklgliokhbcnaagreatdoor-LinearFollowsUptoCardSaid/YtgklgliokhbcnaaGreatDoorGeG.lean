import Derived.Test.YtgklgliokhbcnaaGreatDoorGeF
import Derived.Scope
import Derived.Laws.Sem
set_option linter.unusedVariables false
set_option linter.unusedSimpArgs false
set_option linter.unusedSectionVars false
set_option linter.defProp false
open Option renaming some->aa,none->af
namespace Go.Ge
open RowKit
section
variable {cx:Ctx} {nb:Nat} {bf:List Nat} {inl:Nat->List cp->St->Tree (cp×St)} {ops:Array Oper} {fp:Nat->Fp}
abbrev Gst:=St×(Nat->Bool)
def EU(b:Array Oper)(o:Oper)(s:Gst):Option Bool:=match o.guard with
 | none=>aa true
 | some (g,want)=>match(b[g]?).bind (·.dst) with
   | none=>af
   | some dg=>bif s.2 g then aa false else match s.1.bh dg with
     | .data .bool c=>aa ((show Bool from c)==want)
     | _=>af
def pT(c:Ctx)(d:Nat)(e:List Nat)(inl:Nat->List cp->St->Tree (cp×St))(b:Array Oper)(f:Fp)(i:Nat)(o:Oper)(s:Gst):Option Gst:=match EU b o s with
 | none=>af
 | some true=>(jk c d e inl f o s.1).run.map λσ=>(σ,s.2)
 | some false=>aa (s.1.bu o.dst .undef,kA i s.2)
def aks:St:={ bh:=λ_=>.undef,mem:=λ_=>af }
def UR σ d:σ.bu d .undef=lay σ d [] aks:=by
 cases d with
 | none=>rfl
 | some k=>rfl
def Qa{f i o s k}(l:f.KF=false)(h:pT cx nb bf inl ops f i o s=aa k):∃b d τ,EU ops o s=aa b/\k=(lay s.1 o.dst d τ,bif b then s.2 else kA i s.2)/\(∀x∈d,x∈f.wr) /\
  ∀c,EU ops o c=aa b->(b=true->c.1.only (tmpsOf<|ir o.op) f.rd=s.1.only (tmpsOf<|ir o.op) f.rd)->pT cx nb bf inl ops f i o c=aa (lay c.1 o.dst d τ,bif b then c.2 else kA i c.2):=by
 unfold pT at h;cases hd:EU ops o s with
 | none=>rw[hd] at h;cases h
 | some b =>
   rw[hd] at h;cases b with
   | true =>
     obtain⟨aV,e,rfl⟩:=EA.1 h;unfold jk at e;rw[l] at e;obtain⟨τ,m,n⟩:=bind_some e;obtain rfl:=aI n;refine⟨true,f.wr,τ,rfl,rfl,λx g=>g,λc j p=>?_⟩;unfold pT;rw[j];simp only;unfold jk;rw[l];simp;rw[Tree.run_bind,p rfl,m];rfl
   | false =>
     obtain rfl:=aI h;refine⟨false,[],aks,rfl,by rw[UR];rfl,λx g=>(nomatch g),λc j _=>?_⟩;unfold pT;rw[j];rw[UR];rfl
def US{i j x y f g}(h:B3 ops i j x y f g=true):f.KF=false/\g.KF=false/\(∀b∈f.wr,b∉g.rd)/\(∀b∈g.wr,b∉f.rd)/\zE x j=true/\zE y i=true /\
  (∀d,x.dst=aa d->d∉ED ops y)/\(∀d,y.dst=aa d->d∉ED ops x)/\(∀d e,x.dst=aa d->y.dst=aa e->d≠e):=by
 simp only[B3,gw,DT] at h;obtain⟨⟨⟨⟨⟨⟨⟨n,o⟩,p⟩,r⟩,s⟩,t⟩,c⟩,l⟩:=h;refine⟨n,o,λb m=>De p m,λb m=>De r m,s,t,λd k=>?_,λd k=>?_,λd e k u=>?_⟩
 .rw[k] at c;simp at c;exact kn.1 c.1
 .rw[k] at l;simp at l;exact kn.1 l
 .rw[k,u] at c;intro q;subst q;simp at c
def Mk{i o s d wr τ b}(h:zE o i=true)(q:∀k,d=aa k->k∉ED ops o):EU ops o (lay s.1 d wr τ,bif b then s.2 else kA i s.2)=EU ops o s:=by
 unfold EU;cases c:o.guard with
 | none=>rfl
 | some p =>
   obtain⟨g,n⟩:=p;dsimp only;cases j:(ops[g]?).bind _ with
   | none=>rfl
   | some dg =>
     dsimp only;have l:Nat.beq g i=false:=by
      unfold zE at h;rw[c] at h;simpa using h
     have r:(bif b then s.2 else kA i s.2) g=s.2 g:=by
      cases b with
      | true=>rfl
      | false=>simp only[BM,kA,l,adn]
     have t:(lay s.1 d wr τ).bh dg=s.1.bh dg:=by
      unfold lay;cases d with
      | none=>rfl
      | some k =>
        have m:dg≠k:=λe=>q k rfl (by
         unfold ED PY;rw[c];dsimp only;rw[j];subst e;exact ri ..)
        simp[iI m]
     rw[r,t]
def ad5 σ {h i j l c g} (hd:∀d e,h=aa d->i=aa e->d≠e) (p:∀b∈j,b∉l):lay (lay σ i l g) h j c=lay (lay σ h j c) i l g:=by
 unfold lay
 congr 1
 .cases h with
  | none=>rfl
  | some k =>
    cases i with
    | none=>rfl
    | some e =>
      have m:=hd k e rfl rfl;funext t;by_cases n:t=k
      .subst n;simp[iI m]
      .by_cases q:t=e
       .simp[iI n]
       .simp[iI n]
 .funext b;dsimp only;cases o:dc j b with
  | false=>rfl
  | true =>
    have:=p b (qa.1 o);simp[kn.2 this]
def XF{i j g l c m s s1 s2}(n:B3 ops i j g l c m=true)(p:∀b∈c.wr,b∈c.rd)(C:pT cx nb bf inl ops c i g s=aa s1)(D:pT cx nb bf inl ops m j l s1=aa s2) :
  ∃d,pT cx nb bf inl ops m j l s=aa d/\pT cx nb bf inl ops c i g d=aa s2:=by
 obtain⟨E,F,G,t,H,I,u,v,J⟩:=US n;obtain⟨K,Z,L,O,R,x,S⟩:=Qa E C;subst R;obtain⟨T,wj,U,y,W,z,X⟩:=Qa F D;subst W;rw[Mk I u] at y;have A:∀{o k},k∉ED ops o->k∉tmpsOf _:=λh Y=>h (JM _ Y);refine⟨_,(X s y λ_=>(Gg (λk q=>A (u k q)) λb e=>G b (x b e)).symm),?_⟩;rw[(S _ (by rw[Mk H v];exact O) λ_=>Gg (λk q=>A (v k q)) λb e=>t b (z b e))]
 congr 1
 refine Prod.ext (ad5 s.1 J λb e r=>t b (z b r) (p b<|x b e)) ?_
 .dsimp only;cases K<;>cases T<;>first|rfl|skip
  simp;funext k;simp only[kA];cases Nat.beq k i<;>cases Nat.beq k j<;>rfl
def Sf(c:Ctx)(d:Nat)(e:List Nat)(inl:Nat->List cp->St->Tree (cp×St))(b:Array Oper)(g:Nat->Fp)(Q:Gst->Prop):Nat->Array Bool->Gst->Prop
 | 0,listed,s=>Region.ready .any b listed=[]/\Q s
 | n+1,listed,s=>(Region.ready .any b listed=[]->Q s) /\
  ∀i∈Region.ready .any b listed,∃o h,b[i]?=aa o/\pT c d e inl b (g i) i o s=aa h/\Sf c d e inl b g Q n (listed.setIfInBounds i true) h
variable {Q:Gst->Prop}
def XG{i p}(D:ops[i]?=aa p)(u:∀b∈(fp i).wr,b∈(fp i).rd):∀n c s q,
  Sc ops c->(∀j r,ops[j]?=aa r->j≠i->c.getD j true=false->Reach ops j i\/B3 ops i j p r (fp i) (fp j)=true) ->
  i∈Region.ready .any ops c->pT cx nb bf inl ops (fp i) i p s=aa q->Sf cx nb bf inl ops fp Q n (c.setIfInBounds i true) q->Sf cx nb bf inl ops fp Q (n+1) c s:=by
 intro n;induction n with
 | zero =>
   intro c s q e g m A H;refine⟨λh=>(by rw[h] at m;cases m),λj t=>?_⟩;by_cases d:j=i
   .subst d;exact⟨p,q,D,A,H⟩
   .have:=ready_mono t d;rw[H.1] at this;cases this
 | succ n G =>
   intro c s q e g m A H;refine⟨λh=>(by rw[h] at m;cases m),λj t=>?_⟩;by_cases d:j=i
   .subst d;exact⟨p,q,D,A,H⟩
   .obtain⟨r,I,v,J,K⟩:=H.2 j (ready_mono t d);obtain⟨l,L,E,F⟩:=mem_ready.1 t;have o:B3 ops i j p r (fp i) (fp j)=true:=by
     rcases g j r v d l with O|o
     .exact(UQ (mem_ready.1 m).1<|O.ready e t).elim
     .exact o
    obtain⟨x,R,S⟩:=XF o u A J;refine⟨r,x,v,R,G _ x I (e.list t) (λk T U C y=>g k T U C ?_) (ready_mono m<|IX d) S ?_⟩
    .by_cases z:j=k
     .subst z;exact l
     .rw[getD_set_ne true z] at y;exact y
    .rw[ahW _ _ d];exact K
end
end Go.Ge
namespace Go.Ge
open RowKit
section
variable {P:Program} {B:B5} {N:Nat} {γ:Gh} {cx:Ctx} {nb:Nat} {bf:List Nat} {inl:Nat->List cp->St->Tree (cp×St)} {σ aV:St} {ops:Array Oper} {fp:Nat->Fp}
def ad6{b:St}{d v}(h:b.bh d=v):b.put d v=b:=by
 unfold St.put
 congr 1
 funext t;cases c:Nat.beq t d with
 | true=>obtain rfl:=gx c;exact h.symm
 | false=>rfl
def agH(d:Ctx)(g:Nat)(h:List Nat)(inl:Nat->List cp->St->Tree (cp×St))(b:Array Oper)(c:Nat->Fp):Nat->List Oper->Gst->Gst->Prop
 | _,[],s,s'=>s=s'
 | k,o::l,s,s'=>(((c k).KF=false->UN d g o (c k))/\((c k).KF=true->(c k).wr=[]))/\(∀e∈o.after,Region.binds .any e=true->e.on<k) /\
  (∀j i,l[j]?=aa i->Reach b (k+1+j) k\/B3 b k (k+1+j) o i (c k) (c<|k+1+j)=true) /\
  ∃m,pT d g h inl b (c k) k o s=aa m/\agH d g h inl b c (k+1) l m s'
def Jg{i o f b k m mk ok r}(h:EE ops i o f m ((k,ok,b,mk)::r)=true):(Nat.testBit m k=true\/B3 ops k i ok o b f=true)/\EE ops i o f m r=true:=by
 simp only[EE,gw,Ll] at h;exact h
def Ml{i o r done d}(h:(xq cx nb bf inl ops ((i,o)::r) done σ d).run=aa aV) :
  ∃l,EE ops i o (B2 cx nb o σ) (mask done o) done=true/\(∀e∈o.after,Region.binds .any e=true->e.on<i)/\pT cx nb bf inl ops (B2 cx nb o σ) i o (σ,d)=aa l /\
   (xq cx nb bf inl ops r ((i,o,B2 cx nb o σ,mask done o)::done) l.1 l.2).run=aa aV:=by
 simp only[xq] at h;obtain⟨A,k⟩:=ay h;simp only[gw] at A;obtain⟨y,t⟩:=A;have p:∀e∈o.after,Region.binds .any e=true->e.on<i:=λe C D=>by
  rw[<-Array.all_toList,wa] at t;have:=t e (by simpa using C);rw[D] at this;have:=JL (by simpa [Nat.blt] using this);omega
 suffices ∃l,pT cx nb bf inl ops _ i o _=aa l/\(xq cx nb bf inl ops r _ l.1 l.2).run=aa aV by
  obtain⟨l,E,F⟩:=this;exact⟨l,y,p,E,F⟩
 split at k
 .rename_i x;obtain⟨bM,q,u⟩:=bind_some k;refine⟨(bM,d),?_,u⟩;have hd:EU ops o (σ,d)=aa true:=by unfold EU;rw[x]
  unfold pT;rw[hd];rw[q];rfl
 .rename_i g b x;split at k
  .cases k
  .rename_i G v;cases m:d g with
   | true =>
     rw[m] at k;refine⟨(σ.bu o.dst .undef,kA i d),?_,k⟩;have hd:EU ops o (σ,d)=aa false:=by unfold EU;rw[x];dsimp only;rw[v];rw[m];rfl
     unfold pT;rw[hd]
   | false =>
     rw[m] at k;split at k
     .rename_i c j;change Bool at c;have s:=gD k;have hd:EU ops o (σ,d)=aa (c==b):=by unfold EU;rw[x];dsimp only;rw[v];rw[m];simp;rw[j]
      have n:=ad6 j;have run:∀{bM},(jk cx nb bf inl (B2 cx nb o σ) o σ).run=aa bM->(c==b)=true->pT cx nb bf inl ops _ i o _=aa (bM,d):=λq z=>by
       unfold pT;rw[hd,z];rw[q];rfl
      have skip:(c==b)=false->pT cx nb bf inl ops (B2 cx nb o σ) i o _=aa _:=λz=>by
       unfold pT;rw[hd,z]
      cases c with
      | true =>
        rw[n] at s;cases b with
        | true=>obtain⟨bM,q,u⟩:=bind_some s;exact⟨(bM,d),run q rfl,u⟩
        | false=>exact⟨_,skip rfl,s⟩
      | false =>
        rw[n] at s;cases b with
        | true=>exact⟨_,skip rfl,s⟩
        | false=>obtain⟨bM,q,u⟩:=bind_some s;exact⟨(bM,d),run q rfl,u⟩
     .cases k
def O1:∀l k c σ n,(∀j o,l[j]?=aa o->ops[k+j]?=aa o)->uv ops c->(xq cx nb bf inl ops (number k l) c σ n).run=aa aV ->
  ∃(g:List (Fp×Nat)) (i:Nat->Bool),g.length=l.length/\(∀j m b,g[j]?=aa m->Nat.testBit m.2 b=true->Reach ops (k+j) b) /\
   ∀fp,(∀j f,g[j]?=aa f->fp (k+j)=f.1)->agH cx nb bf inl ops fp k l (σ,n) (aV,i)/\∀j o f,l[j]?=aa o->g[j]?=aa f->EE ops (k+j) o (fp<|k+j) f.2 c=true:=by
 intro l;induction l with
 | nil =>
   intro k c σ n _ _ h;obtain rfl:=aI h;exact⟨[],n,rfl,λj m b h=>absurd h aT,λfp _=>⟨rfl,λj o f d=>absurd d aT⟩⟩
 | cons o l D =>
   intro k c σ n v x h;obtain⟨t,E,F,G,H⟩:=Ml h;have y:=v 0 o rfl;obtain⟨g,i,z,A,I⟩:=D _ _ t.1 t.2 (λj u d=>by have:=v (j+1) u (by simpa using d);rw[<-this];congr 1;omega) (x.cons y) H;refine⟨(B2 cx nb o σ,mask c o)::g,i,by simp[z],λj m b d e=>?_,λfp p=>?_⟩
   .cases j with
    | zero=>obtain rfl:=aI d;exact ET x y e
    | succ j=>have:=A j m b (by simpa using d) e;rw[show k+_=k+1+j by omega];exact this
   have r:fp k=B2 cx nb o σ:=p 0 _ rfl;obtain⟨J,C⟩:=I fp λj f d=>by have:=p (j+1) f (by simpa using d);rw[<-this];congr 1;omega
   refine⟨⟨⟨λe=>by rw[r] at e⊢;exact KM o σ e,λe=>by rw[r] at e⊢;exact ad3 o σ e⟩,F,λj K d=>?_,t,by rw[r];exact G,J⟩,λj u f d s=>?_⟩
   .obtain⟨f,s⟩:∃f,g[j]?=aa f:=⟨_,fH (by rw[z];exact(iy.1 d).1)⟩;rcases(Jg<|C j K f d s).1 with q|q
    .exact .inl (A j f k s q)
    .rw[r];exact .inr q
   .cases j with
    | zero =>
      obtain rfl:=aI d;obtain rfl:=aI s;rw[FC,r];exact E
    | succ j =>
      have:=(Jg<|C j u f (by simpa using d)<|by simpa using s).2;rw[show k+_=k+1+j by omega];exact this
def ad7{s'}:∀l k c s,(∀j,l[j]?=ops[k+j]?)->c.size=ops.size->(∀j,j<k->j<ops.size->c.getD j false=true) ->
  (∀j,k<=j->j<ops.size->c.getD j true=false)->Sc ops c->agH cx nb bf inl ops fp k l s s'->Sf cx nb bf inl ops fp (·=s') l.length c s:=by
 intro l;induction l with
 | nil =>
   intro k c s x y z E d h;refine⟨?_,h⟩;cases K:Region.ready .any ops c with
   | nil=>rfl
   | cons i r =>
     obtain⟨F,o,H,_⟩:=mem_ready.1 (by rw[K];exact ri ..);have n:=(xe.1 H).1;rcases tL i k with v|v
     .have:=z i v n;simp[y,n] at this F;rw[this] at F;cases F
     .have:=x (i-k);rw[show k+_=i by omega,H] at this;cases this
 | cons o l L =>
   intro k c s x y z E d h;have v:ops[k]?=aa o:=by simpa using(x 0).symm
   have n:=(xe.1 v).1;obtain⟨I,O,R,J,S,T⟩:=h;have g:=mem_ready.2 ⟨E k (bV _) n,o,v,λe U A=>by
    have:=O e U A;exact z e.on this ah⟩
   refine XG v (λb A=>by
    cases p:(fp k).KF with
    | true=>rw[I.2 p] at A;cases A
    | false=>exact(I.1 p).sub b A) l.length c s J d (λj W D X t=>?_) g S (L _ _ J (λj=>?_) (by simp[y]) (λj D u=>?_) (λj D u=>?_) (d.list g) T)
   .have q:=(xe.1 D).1;rcases tL j k with C|C
    .exfalso;have:=z j C q;simp[y,q] at this t;rw[this] at t;cases t
    .have G:=x (j-k);rw[show k+_=j by omega,D] at G;obtain⟨m,Y⟩:∃m,j-k=m+1:=⟨j-k-1,ah⟩;rw[Y] at G;have:=R m W (by simpa using G);rw[show k+1+m=j by omega] at this;exact this
   .have:=x (j+1);rw[show k+1+j=k+(j+1) by omega,<-this];simp
   .by_cases e:j=k
    .subst e;simp[y,n]
    .rw[getD_set_ne false<|IX e];exact z j ah u
   .rw[getD_set_ne true (by omega:k≠j)];exact E j ah u
def Mm(c:∀f d σ v aV,(inl f d σ).run=aa (v,aV)->bU σ aV):∀l k b σ aV g,(xq cx nb bf inl ops (number k l) b σ g).run=aa aV->bU σ aV:=by
 intro l;induction l with
 | nil=>intro k b σ aV g h;obtain rfl:=aI h;apply bU.refl
 | cons o l i =>
   intro k b σ aV g h;obtain⟨n,p,q,e,j⟩:=Ml h;refine bU.trans ?_ (i _ _ _ _ _ j);unfold pT at e;split at e
   .cases e
   .obtain⟨bM,m,rfl⟩:=EA.1 e;exact Cd c bM (Dd (KM o σ) m)
   .obtain rfl:=aI e;apply bU.bu
end
end Go.Ge
namespace Go.Ge
open RowKit
section
variable {P:Program} {B:B5} {N:Nat} {γ:Gh} {cx:Ctx} {nb:Nat} {bf:List Nat} {inl:Nat->List cp->St->Tree (cp×St)} {σ aV:St} {ops:Array Oper} {fp:Nat->Fp}
def XH{l:List Oper}{j:Nat}{o}{d:Nat}(h:l[j]?=aa o)(b:o.dst=aa d):d∈oR.Hu l:=by
 induction l generalizing j with
 | nil=>cases h
 | cons p l c =>
   cases j with
   | zero=>obtain rfl:=aI h;simp only[oR.Hu,b];exact ri ..
   | succ j =>
     have:=c (by simpa using h);simp only[oR.Hu];split
     .exact v8 _ this
     .exact this
def Mn:∀{l},oR l=true->∀{i j:Nat} {x y} {d:Nat},i<j->l[i]?=aa x->l[j]?=aa y->x.dst=aa d->y.dst≠aa d:=by
 intro l;induction l with
 | nil=>intro _ i j x y d _ h;cases h
 | cons p l n =>
   intro h i j x y d o e q g k;simp only[oR,gw] at h;obtain⟨m,rfl⟩:∃m,j=m+1:=⟨j-1,ah⟩;have b:l[m]?=aa y:=by simpa using q
   cases i with
   | zero =>
     obtain rfl:=aI e;have c:=h.1;rw[g] at c;simp at c;exact kn.1 c (XH b k)
   | succ i=>exact n h.2 (i:=i) ah (by simpa using e) b g k
def XI(h:oR ops.toList=true){i j:Nat}{x y}{d:Nat}(b:i≠j)(e:ops[i]?=aa x)(g:ops[j]?=aa y)(k:x.dst=aa d):y.dst≠aa d:=by
 rcases Nat.lt_or_gt_of_ne b with c|c
 .exact Mn h c (by simpa using e) (by simpa using g) k
 .intro l;exact Mn h c (by simpa using g) (by simpa using e) l k
def XJ(c:Array Oper)(d:Nat->Bool)(b:Array Bool)(a:Act):Prop:=∀k,d k=true->yielded c a.tmps k=af/\b.getD k true=true
def yB{a:Act}{i k o v}(b:oR ops.toList=true)(d:ops[i]?=aa o)(c:k≠i):yielded ops (a.put o.dst v).tmps k=yielded ops a.tmps k:=by
 unfold yielded;cases e:ops[k]? with
 | none=>rfl
 | some y =>
   simp;cases hd:y.dst with
   | none=>rfl
   | some g =>
     simp;have:=XI b c e d hd;rw[gg this]
def XJ.run{d listed a i o v}(h:XJ ops d listed a)(c:oR ops.toList=true)(l:ops[i]?=aa o)(g:listed.getD i true=false):XJ ops d (listed.setIfInBounds i true) (a.put o.dst v):=λk m=>by
 obtain⟨n,j⟩:=h k m;have b:k≠i:=λe=>by subst e;rw[j] at g;cases g
 exact⟨by rw[yB c l b];exact n,by rw[getD_set_ne true<|IX b];exact j⟩
def XJ.skip{c listed a i o}(h:XJ ops c listed a)(d:oR ops.toList=true)(g:ops[i]?=aa o)(m:listed.getD i true=false):XJ ops (kA i c) (listed.setIfInBounds i true) (a.put o.dst Go.undef):=λk j=>by
 by_cases b:k=i
 .subst b;refine⟨Gb g,?_⟩;rcases tL k listed.size with l|l
  .simp
  .simp[TN l] at m
 .have e:c k=true:=by
   simp only[kA,iI b] at j;exact j
  obtain⟨n,p⟩:=h k e;exact⟨by rw[yB d g b];exact n,by rw[getD_set_ne true<|IX b];exact p⟩
def O2(hc:fN P cx)(E:pS P B.G cx)(F:yx P B.G inl){Q}(H:oR ops.toList=true)(L:∀i o,ops[i]?=aa o->(fp i).KF=false->UN cx nb o (fp i))
  (hd:∀o∈ops.toList,∀k,o.dst=aa k->k<N):∀n d s γ a w,Sf cx nb bf inl ops fp (λs=>s.1=aV) n d s->dy B N γ s.1 a w->XJ ops s.2 d a ->
   (∀bE O w',dy B N bE aV O w'->Ext B γ s.1.mem w bE aV.mem w'->Fr (number 0 ops.toList) a O->Q .normal O w')->wpAny P .any ops Q n d a w:=by
 intro n;induction n with
 | zero =>
   intro d s γ a w h D r y;obtain⟨u,R⟩:=h;rw[<-R] at y;exact⟨u,y γ a w D (Ext.refl _ _ _ _) λt _=>rfl⟩
 | succ n ih =>
   intro d s γ a w h D r y;refine⟨λh0=>?_,λi hi=>?_⟩
   .have R:=h.1 h0;rw[<-R] at y;exact y γ a w D (Ext.refl _ _ _ _) λt _=>rfl
   .obtain⟨o,s1,u,I,h4⟩:=h.2 i hi;have J:=(mem_ready.1 hi).1;have x:o∈ops.toList:=by
     have:=ac1 u;simpa using this
    have j:(i,o)∈number 0 ops.toList:=by
     have:=Mi (l:=ops.toList) (k:=0) (by simpa using u);simpa using this
    have hw:∀b,EU ops o s=aa b->Region.wanted o (yielded ops a.tmps)=b:=by
     intro b e;unfold EU at e;cases m:o.guard with
     | none =>
       rw[m] at e;obtain rfl:=aI e;unfold Region.wanted;rw[m]
     | some p =>
       obtain⟨g,K⟩:=p;rw[m] at e;dsimp only at e;split at e
       .cases e
       .rename_i dg S;cases T:s.2 g with
        | true =>
          rw[T] at e;obtain rfl:=aI e;unfold Region.wanted;rw[m];simp only[(r g T).1];rfl
        | false =>
          rw[T] at e;split at e
          .rename_i c z;obtain rfl:=aI e;have A:=Jd D z;unfold Region.wanted;rw[m];simp only[yielded,S,Zc,A];cases c<;>cases K<;>rfl
          .cases e
    unfold wpOp;rw[u];dsimp only;unfold pT at I;split at I
    .cases I
    .rename_i q;obtain⟨bM,q1,rfl⟩:=EA.1 I;rw[hw true q];refine .inl (L3 hc E F D (hd o x) (Dd (L i o u) q1) λU v w1 s1 x1=>?_);refine ih _ _ U _ w1 h4 s1 (r.run H u J) λC W X Y Z f2=>y C W X Y (x1.trans Z) λt A=>?_;rw[f2 t A,gg (Mj A j)]
    .rename_i q;obtain rfl:=aI I;rw[hw false q];have hm:(s.1.bu o.dst .undef).mem=s.1.mem:=by cases o.dst<;>rfl
     refine ih _ _ γ _ w h4 (D.xv (hd o x) ⟨_,rfl⟩) (r.skip H u J) λC W X Y Z f2=>y C W X Y (by rw[<-hm];exact Z) λt A=>?_;rw[f2 t A,gg (Mj A j)]
def Sf.mono{Q Q'}(b:∀s,Q s->Q' s):∀{n listed s},Sf cx nb bf inl ops fp Q n listed s->Sf cx nb bf inl ops fp Q' n listed s:=by
 intro n;induction n with
 | zero=>intro listed s h;exact⟨h.1,b _ h.2⟩
 | succ n c =>
   intro listed s h;refine⟨λd=>b _ (h.1 d),λi e=>?_⟩;obtain⟨o,g,j,k,l⟩:=h.2 i e;exact⟨o,g,j,k,c l⟩
def Gi(c:P.follows .mixedOrders=true)(v:fN P cx)(d:pS P B.G cx)(g:yx P B.G inl){Q id a w}(n:oR ops.toList=true)
  (y:∀o∈ops.toList,∀k,o.dst=aa k->k<N) (z:(xq cx nb bf inl ops (number 0 ops.toList) [] σ λ_=>false).run=aa aV) (h:dy B N γ σ a w)
  (A:∀bE m w',dy B N bE aV m w'->Ext B γ σ.mem w bE aV.mem w'->Fr (number 0 ops.toList) a m->Q .normal m w'):(Code.region id ops true).wp P Q a w:=by
 refine wp_region_any c ?_;obtain⟨C,D,S,T,E⟩:=O1 ops.toList 0 [] σ _ (λj o b=>by simpa using b) uv.nil z
 let fp:Nat->Fp:=λi=>(C[i]?.map (·.1)).getD ⟨[],[],true,af⟩
 obtain⟨t,_⟩:=E fp λj f b=>by simp[fp,b]
 have key:∀l k s s',agH cx nb bf inl ops fp k l s s'->∀j o,l[j]?=aa o->(fp<|k+j).KF=false->UN cx nb o (fp<|k+j):=by
  intro l;induction l with
  | nil=>intro k s s' _ j o b;cases b
  | cons o l F =>
    intro k s s' H j I b;obtain⟨J,U,W,p,X,K⟩:=H;cases j with
    | zero=>obtain rfl:=aI b;exact J.1
    | succ j=>rw[show k+_=k+1+j by omega];exact F _ p s' K j I (by simpa using b)
 have L:=ad7 (s':=_) ops.toList 0 (Array.replicate ops.size false) _ aT aT (λj b=>ah)
  (λj _ b=>by simp[b]) (λi o e q=>by
   rcases tL i ops.size with u|u<;>simp[u] at q) t
 have r:=Sf.mono (Q':=λs=>s.1=aV) (λs O=>by rw[O]) L;obtain⟨p,R⟩:=h.draw _;refine O2 v d g n (λi o q=>by have:=key _ 0 _ _ t i o (by simpa using q);simpa using this) y _ _ _ γ a _ (by simpa using r) p BS λbE m w' s x f=>A bE m w' s (R.trans x) f
def UT(b:P.follows .mixedOrders=true)(z:fN P cx)(c:pS P B.G cx)(g:yx P B.G inl)(m:∀f p σ v aV,(inl f p σ).run=aa (v,aV)->bU σ aV){Q id a w}
  (s:∀o∈ops.toList,∀k,o.dst=aa k->k<N) (q:(zF cx nb bf inl ops σ).run=aa aV) (h:dy B N γ σ a w)
  (A:∀bE C w',dy B N bE aV C w'->Ext B γ σ.mem w bE aV.mem w'->Fr (number 0 ops.toList) a C->Q .normal C w'):(Code.region id ops true).wp P Q a w:=by
 unfold zF at q;cases J:ops.any λo=>o.guard.isSome with
 | true =>
   rw[J] at q;obtain⟨r,j⟩:=ay q;split at j
   .exact Gi b z c g r s j h A
   .rename_i d t l;rw[Tree.xk] at j;obtain⟨x,T,D⟩:=BL.1 j;obtain⟨τ,K,E⟩:=bind_some T;split at E
    case h_2=>exact absurd E cj
    rename_i x' F;obtain rfl:=aI E;obtain rfl:=aI D;have U:∀k,aa d=aa k->k<N:=λk W=>by
     obtain rfl:=aI W;unfold Ug at l;split at l
     case h_2=>cases l
     rename_i o X;split at l
     case h_2=>cases l
     rename_i L t' H _;cases O:dc bf (8700000+L) with
     | false=>rw[O] at l;cases l
     | true =>
       rw[O] at l;obtain⟨rfl,rfl⟩:=eN (aI l);exact s o (by simpa using Array.mem_of_back? X) L H
    refine Gi b z c g r s K h.gC λn Y I u Z R=>?_;obtain⟨m1,S⟩:=h.ok.unlock (F9<|Mm m _ _ _ _ _ _ K) u.ok Z;have y:=(h.go S m1).undef R u.size u.defers;refine A n Y I ⟨λi=>?_,y.size,y.defers,y.ok⟩ ?_ R
    .by_cases e:i=d
     .subst e;have:=RY F (u.bh i) (mem':=(σ.undef<|number 0 ops.toList).mem);simpa [St.bu,St.put] using this
     .show cI n _ I (bif Nat.beq i d then _ else(σ.undef _).bh i) _ _
      rw[iI e];exact y.bh i
    show Ext B γ σ.mem w n (σ.undef _).mem I
    rw[rG];exact S
 | false =>
   rw[J] at q;exact Se b z c g s q h A
end
end Go.Ge
namespace Go.Ge
open RowKit
def wm(f:Nat->Box->Bool)(c:Nat->Option Box):Nat->Option Box:=λb=>match c b with|some d=>aa { d with lk:=f b d }|none=>af
section
variable {P:Program} {B:B5} {N:Nat} {γ WT:Gh} {mem m0 me m1:Nat->Option Box} {w w0:World} {f:Nat->Box->Bool}
def Qb{b c}(h:mem b=aa c):wm f mem b=aa { c with lk:=f b c }:=by simp[wm,h]
def UU{b d}(h:wm f mem b=aa d):∃c,mem b=aa c/\d={ c with lk:=f b c }:=by
 simp only[wm] at h;split at h
 .rename_i c e;exact⟨c,e,(aI h).symm⟩
 .cases h
def Ext.wm:Ext B γ mem w γ (wm f mem) w where
 below:=we.refl _ _
 I:=λ_ _ h=>h
 r4:=λ_ _ h=>.inl h
 cells:=λ_ _ _=>rfl
 boxes:=λb d c=>⟨_,Qb c,bV _,λ_=>⟨rfl,rfl,rfl⟩⟩
def bF.wm(h:bF B γ mem w):bF B γ (Go.Ge.wm f mem) w:=by
 have g:∀{b},Go.Ge.wm f mem b≠af->mem b≠none:=by
  intro b e m;apply e;simp[Go.Ge.wm,m]
 exact
  { vh:=h.vh
    base:=h.base
    boxes:=λb n e=>by
     obtain⟨i,h0,rfl⟩:=UU e;exact(h.boxes b i h0).keep (Ext.wm (B:=B)) rfl (λ_ _ _=>rfl)
    inj:=λb c d k o e p j q=>h.inj b c d k o (g e) (g p) j q
    fresh:=λb d k e j=>h.fresh b d k (g e) j
    vg:=h.vg
    sep:=λb n d k l e j r=>by
     obtain⟨i,h0,rfl⟩:=UU e;exact h.sep b i d k l h0 j r }
def dy.wm{σ a}(h:dy B N γ σ a w):dy B N γ { σ with mem:=Go.Ge.wm f σ.mem } a w:=h.go Ext.wm h.ok.wm
def Mid(g h i:Nat->Option Box):Prop:=∀b d,g b=aa d->∃c,i b=aa c/\d.aP<=c.aP /\
 (c.aP=d.aP->∃e,h b=aa e/\e.aP=d.aP/\e.buf=c.buf/\e.row=c.row)
def n9.down(l:Mid m0 me m1){b aP m K i}(n:n9 m0 b aP m)(h:n9 me b aP K)(o:∀d c,d.buf=c.buf->d.row=c.row->K d->i c):n9 m1 b aP i:=by
 obtain⟨g,p,x,_⟩:=n;obtain⟨d,q,y,r⟩:=h;obtain⟨c,s,z,t⟩:=l b g p;refine⟨c,s,ah,λe=>?_⟩;obtain⟨j,k,A,u,v⟩:=t ah;rw[q] at k;obtain rfl:=aI k;exact o d c u v (r ah)
def cI.down(d:Mid m0 me m1):∀{v m us vs},cI WT m0 w0 v m us->cI γ me w v m vs->cI γ m1 w v m vs:=by
 intro v;induction v with
 | undef=>intro m us vs _ r;cases m<;>exact r
 | data t x=>intro m us vs _ r;cases m<;>exact r
 | p7=>intro m us vs _ r;cases m<;>exact r
 | vd=>intro m us vs _ r;cases m<;>exact r
 | cell t x=>intro m us vs _ r;cases m<;>exact r
 | nl=>intro m us vs _ r;cases m<;>exact r
 | ve=>intro m us vs _ r;cases m<;>exact r
 | yr b aP =>
   intro m us vs c r;cases m with
   | many=>exact r
   | cells=>exact⟨r.1,c.2.down d r.2 λ_ _ _ _ k=>k⟩
   | val=>exact⟨r.1,c.2.down d r.2 λ_ _ _ _ k=>k⟩
 | ptr b aP p =>
   intro m us vs c r;cases m with
   | many=>exact r
   | cells=>exact⟨r.1,c.2.down d r.2 λ_ _ _ _ k=>k⟩
   | val=>exact⟨r.1,c.2.down d r.2 λ_ _ _ _ k=>k⟩
 | whole b aP =>
   intro m us vs c r;cases m with
   | many=>exact r
   | cells=>exact⟨r.1,c.2.down d r.2 λ_ _ l o k=>by rw[<-l,<-o];exact k⟩
   | val=>exact⟨r.1,c.2.down d r.2 λ_ _ l o k=>by rw[<-l,<-o];exact k⟩
 | part b aP lo n =>
   intro m us vs c r;cases m with
   | many=>exact r
   | cells=>exact⟨r.1,c.2.down d r.2 λ_ _ l o k=>by unfold FN at k⊢;rw[<-l,<-o];exact k⟩
   | val=>exact⟨r.1,c.2.down d r.2 λ_ _ l o k=>by unfold FN at k⊢;rw[<-l,<-o];exact k⟩
 | win b aP q e k lo n =>
   intro m us vs c r;cases m with
   | many=>exact r
   | cells=>exact⟨r.1,c.2.down d r.2 λ_ _ l o k=>k⟩
   | val=>exact⟨r.1,c.2.down d r.2 λ_ _ l o k=>k⟩
 | fn f H =>
   intro m us vs c r;cases m with
   | many=>exact r
   | cells=>obtain⟨_,_,_,s⟩:=c;obtain⟨g,h,j,G⟩:=r;exact⟨g,h,j,λi b aP A=>(s i b aP A).down d (G i b aP A) λ_ _ _ _ k=>k⟩
   | val=>obtain⟨_,_,_,s⟩:=c;obtain⟨g,h,j,G⟩:=r;exact⟨g,h,j,λi b aP A=>(s i b aP A).down d (G i b aP A) λ_ _ _ _ k=>k⟩
 | mix a b y z =>
   intro m us vs c r;cases m with
   | cells=>obtain⟨_,_,_,C,D⟩:=c;obtain⟨E,F,c,h,j⟩:=r;exact⟨E,F,c,y C h,z D j⟩
   | val=>obtain⟨_,_,_,C,D⟩:=c;obtain⟨E,F,c,h,j⟩:=r;exact⟨E,F,c,y C h,z D j⟩
   | many=>obtain⟨_,_,_,C,D⟩:=c;obtain⟨E,F,c,h,j⟩:=r;exact⟨E,F,c,y C h,z D j⟩
 | BR u I =>
   intro m us vs c r;cases m with
   | val=>obtain⟨_,_,s⟩:=c;obtain⟨g,h,j⟩:=r;exact⟨g,h,I s j⟩
   | cells=>exact r
   | many=>exact r
def ad8(M:Nat->Bool)(V:Nat->Bool->Bool)(e g h:Nat->Option Box):Prop:=∀b c,e b=aa c->∃d Qc,g b=aa d/\h b=aa Qc/\d.buf=c.buf/\Qc.buf=c.buf/\Qc.row=d.row /\
 Qc.aP=(bif M b&&V b c.buf then c.aP+1 else c.aP)/\((M b&&V b c.buf)=false->d.aP=c.aP)
def ad8.mid{M V}(h:ad8 M V m0 me m1):Mid m0 me m1:=λb c l=>by
 obtain⟨i,d,m,k,n,o,p,g,q⟩:=h b c l;cases j:(M b&&V b c.buf) with
 | true =>
   rw[j] at g;simp at g;exact⟨d,k,ah,λe=>absurd e ah⟩
 | false =>
   rw[j] at g;simp at g;exact⟨d,k,ah,λe=>⟨i,m,q j,n.trans o.symm,p.symm⟩⟩
def Mo:Sh->cp->Prop
 | .d _,_=>True
 | .k v,u=>v=u
 | .m a b,u=>∃p q,u=.mix p q/\Mo a p/\Mo b q
def agI v:Mo (ago v) v:=by
 induction v with
 | mix a b c d=>exact⟨a,b,rfl,c,d⟩
 | data t x=>trivial
 | _=>rfl
def ad9{t v y}(h:toD t v=aa y){m vs}(b:cI γ me w v m vs):cI γ m1 w (.data t y) m vs:=by
 unfold toD at h;split at h
 .obtain⟨q,c⟩:=Ty.lQ h;subst q;subst c;cases m<;>exact b
 .split at h
  .obtain rfl:=aI h;cases m with
   | many=>exact b
   | cells=>exact .inl ⟨⟨af,b⟩,rfl⟩
   | val=>exact⟨[.slice af 0 0],.inl ⟨⟨af,rfl⟩,rfl⟩,b⟩
  .cases h
 .cases h
def UW{M V r8 rH}(D:ad8 M V r8.mem rH.mem m1)(hV:∀b x,V b false=true->r8.mem b=aa x->x.buf=false){u v}(h:FG V r8 rH u v=true){m us vs}(K:cI WT r8.mem w0 u m us)(i:cI γ rH.mem w v m vs) :
  cI γ m1 w (bump M V u) m vs:=by
 unfold FG at h;split at h
 .rename_i b c p b' k p';simp only[gw] at h;obtain⟨⟨L,A⟩,g⟩:=h;obtain rfl:=gx L;obtain rfl:=W0 A;have still:c=k->(M b&&V b false)=false->cI γ m1 w (bump M V<|.ptr b c p) m vs:=by
   intro e q;subst e;have e:bump M V (.ptr b c p)=.ptr b c p:=by simp only[bump,q];rfl
   rw[e];exact cI.down D.mid K i
  cases j:V b false with
  | false =>
    rw[j] at g;exact still (gx g) (by simp[j])
  | true =>
    rw[j] at g;simp at g;split at g
    .rename_i x y G C;simp only[gw] at g;have S:=gx g.1;have H:=gx g.2;obtain⟨O,d,E,I,T,U,W,J,X⟩:=D b x G;rw[C] at E;obtain rfl:=aI E;cases r:M b with
     | false=>exact still (by have:=X (by simp[r]);omega) (by simp[r])
     | true =>
       have e:bump M V (.ptr b c p)=.ptr b (c+1) p:=by simp only[bump,r,j];rfl
       have t:d.aP=c+1:=by rw[J,r,hV b x j G,j];simp;omega
       rw[e];cases m with
       | many=>exact i
       | cells=>exact⟨i.1,d,I,ah,λ_=>bk C H i.2⟩
       | val=>exact⟨i.1,d,I,ah,λ_=>bk C H i.2⟩
    .cases g
 .rename_i b c b' k;simp only[gw] at h;obtain⟨L,g⟩:=h;obtain rfl:=gx L;split at g
  .rename_i x y G C;simp only[gw] at g;obtain⟨⟨A,S⟩,H⟩:=g;have A:=gx A;obtain⟨O,d,E,I,T,U,W,J,X⟩:=D b x G;rw[C] at E;obtain rfl:=aI E;have z:x.buf=true:=by rw[<-T];exact H
   have key:∀s,d.aP=s->((∃v,vs=[v]/\v.oneCell'=true)/\n9 rH.mem b k λF=>∃e n,F.buf=true/\F.row=aa (e,n) /\
     ((γ.loc b=af/\vs=[.slice af 0 0])\/∃l o,γ.loc b=aa (l,o)/\vs=[.slice (aa ⟨l,0,af⟩) n o])) ->
     ((∃v,vs=[v]/\v.oneCell'=true)/\n9 m1 b s λF=>∃e n,F.buf=true/\F.row=aa (e,n) /\
     ((γ.loc b=af/\vs=[.slice af 0 0])\/∃l o,γ.loc b=aa (l,o)/\vs=[.slice (aa ⟨l,0,af⟩) n o])):=by
    intro s t Y;exact⟨Y.1,d,I,ah,λ_=>by obtain⟨e,n,q1,q2,q3⟩:=(bk C (gx S) Y.2);exact⟨e,n,U.trans z,W.trans q2,q3⟩⟩
   have t:∃s,bump M V (.whole b c)=.whole b s/\d.aP=s:=by
    unfold bump;cases r:(M b&&V b true) with
    | true=>exact⟨c+1,by simp[r],by rw[J,z,r,<-A];rfl⟩
    | false=>exact⟨c,by simp[r],by rw[J,z,r,<-A];rfl⟩
   obtain⟨s,e1,Z⟩:=t;rw[e1];cases m with
   | many=>exact i
   | cells=>exact key s Z i
   | val=>exact key s Z i
  .cases g
 .rename_i f aaD f' R;simp only[gw] at h;obtain rfl:=gx h.1;obtain rfl:=W1 h.2;exact cI.down D.mid K i
 .cases m<;>exact i
 .cases m<;>exact i
 .simp only[gw] at h;obtain rfl:=gx h.1;obtain rfl:=gx h.2;exact cI.down D.mid K i
 .cases h
def akt{V r8 σ u v}:Sh.out V r8 σ (.k u) v=bif FG V r8 σ u v then aa () else none:=rfl
def aku{V r8 σ a b v w}:Sh.out V r8 σ (.m a b) (.mix v w)=(match Sh.out V r8 σ a v,Sh.out V r8 σ b w with
 | some x,aa y=>aa ((x,y):(Sh.m a b).ty.den)
 | _,_=>af):=rfl
def Zq{M V r8 rH}(I:ad8 M V r8.mem rH.mem m1)(J:∀b x,V b false=true->r8.mem b=aa x->x.buf=false):∀{s u v y m us vs},Mo s u->Sh.out V r8 rH s v=aa y ->
  cI WT r8.mem w0 u m us->cI γ rH.mem w v m vs->cI γ m1 w (s.rZ M V y) m vs:=by
 intro s;induction s with
 | d t=>intro u v y m us vs _ c _ e;exact ad9 c e
 | k x =>
   intro u v y m us vs C c i e;obtain rfl:=C;rw[akt] at c;cases H:FG V r8 rH x v with
   | false=>rw[H] at c;cases c
   | true=>exact UW I J H i e
 | m a b g h =>
   intro u v y m us vs C c i e;obtain⟨p,q,rfl,D,E⟩:=C;cases v with
   | mix K L =>
     rw[aku] at c;split at c
     .rename_i O R F G;obtain rfl:=aI c;cases m with
      | cells=>obtain⟨_,_,_,j,l⟩:=i;obtain⟨n,o,r,z,A⟩:=e;exact⟨n,o,r,g D F j z,h E G l A⟩
      | val=>obtain⟨_,_,_,j,l⟩:=i;obtain⟨n,o,r,z,A⟩:=e;exact⟨n,o,r,g D F j z,h E G l A⟩
      | many=>obtain⟨_,_,_,j,l⟩:=i;obtain⟨n,o,r,z,A⟩:=e;exact⟨n,o,r,g D F j z,h E G l A⟩
     .cases c
   | _=>cases c
def aa0{t v y}(h:toD t v=aa y):(v=.data t y)\/(v=.p7/\∃e,t=.slice e):=by
 unfold toD at h;split at h
 .obtain⟨q,b⟩:=Ty.lQ h;subst q;subst b;exact .inl rfl
 .split at h
  .exact .inr ⟨rfl,_,rfl⟩
  .cases h
 .cases h
def Zr{M V r8 rH s}{c Qc:Box}{y}(j:Sh.out V r8 rH s c.val=aa y)(F:Qc.val=s.rZ M V y)(G:Qc.buf=c.buf)(i:c.buf=true->∃e l,c.val=.data (.slice e) l) :
  Qc.row=c.row/\(c.buf=true->Qc.val=c.val):=by
 have n:∀t x,c.val=.data t x->Qc.val=c.val:=by
  intro t x g;rw[g] at j;cases s with
  | d u =>
    obtain⟨q,o⟩:=Ty.lQ j;subst q;subst o;rw[F,g];rfl
  | k z=>cases z<;>cases j
  | m a b=>cases j
 have r:∀{A C:Box},A.buf=C.buf->A.val=C.val->A.row=C.row:=by
  intro A C H I;unfold Box.row;rw[H,I]
 cases g:c.val with
 | data t x =>
   have:=n t x g;exact⟨r G this,λ_=>by rw[this,g]⟩
 | _ =>
   refine⟨?_,λh=>by obtain⟨e,l,q⟩:=i h;rw[g] at q;cases q⟩;cases o:c.buf with
   | true=>obtain⟨e,l,q⟩:=i o;rw[g] at q;cases q
   | false =>
     have J:c.row=none:=by unfold Box.row;rw[o,g]
     rw[J];unfold Box.row;rw[G,o,F];rw[g] at j;cases s with
     | d u =>
       rcases aa0 j with q|⟨q,e,rfl⟩
       .first|cases q|exact absurd g (by cases k)
       .rfl
     | k z =>
       simp only[Sh.rZ];have D:∀t x,bump M V z≠.data t x:=by
        intro t x q;cases z with
        | data L O=>cases j
        | whole b v=>simp only[bump] at q;cases E:(M b&&V b true)<;>rw[E] at q<;>cases q
        | ptr b v p=>simp only[bump] at q;cases E:(M b&&V b false)<;>rw[E] at q<;>cases q
        | _=>cases q
       split<;>first|rfl|(rename_i K;exact absurd K (D _ _))
     | m a b=>rfl
end
end Go.Ge
namespace Go.Ge
open RowKit
section
variable {P:Program} {B:B5} {N:Nat} {γ WT:Gh} {w w0:World} {r8 rH:St} {a a0:Act} {M:Nat->Bool} {V:Nat->Bool->Bool}
def aea:∀{l x},agp V r8 rH l=aa x->∀t,(Rz M V l x t=af/\∀s,(t,s)∉l)\/∃s y,(t,s)∈l/\Sh.out V r8 rH s (rH.bh t)=aa y/\Rz M V l x t=aa (s.rZ M V y):=by
 intro l;induction l with
 | nil=>intro x _ t;exact .inl ⟨rfl,λs h=>by cases h⟩
 | cons p r j =>
   obtain⟨i,s⟩:=p;intro x h t;simp only[agp] at h;split at h
   .rename_i y z k m;obtain rfl:=aI h;by_cases e:t=i
    .subst e;refine .inr ⟨s,y,ri ..,k,?_⟩;show(bif Nat.beq t t then aa _ else Rz M V r z t)=_
     simp
    .have n:=iI e;have o:Rz M V ((i,s)::r) ((y,z):(tyS ((i,s)::r)).den) t=Rz M V r z t:=by
      show(bif Nat.beq t i then aa _ else Rz M V r z t)=_
      rw[n];rfl
     rw[o];rcases j m t with ⟨c,d⟩|⟨g,q,c,d,u⟩
     .refine .inl ⟨c,λg b=>?_⟩;rcases fh.1 b with b|b
      .exact e (eN b).1
      .exact d g b
     .exact .inr ⟨g,q,v8 _ c,d,u⟩
   .cases h
def EV{fz g d b}(h:IZ fz g d b=true):(d.ro=true->(b.ro||fz)=true)/\d.buf=b.buf/\(g=false->d.aP=b.aP):=by
 simp only[IZ,gw,Ll,beq_iff_eq] at h;obtain⟨⟨⟨e,l⟩,i⟩,c⟩:=h;refine⟨λj=>by rcases e with e|e<;>simp[e,<-j],i,λk=>?_⟩;rcases c with c|c
 .rw[k] at c;cases c
 .exact gx c
def aa1{fz d c b}(h:IZ fz d c b=true):c.tid=b.tid:=by
 simp only[IZ,gw] at h;exact gx h.1.1.2
def UX{fz}:∀{l x},agq V fz r8 rH l=aa x->∀t,(Lw fz M V l x t=af/\DX l t=false) \/
  ∃s b y d,DX l t=true/\(t,s,b)∈l/\rH.mem t=aa d/\IZ fz (V t b.buf) d b=true/\Sh.out V r8 rH s d.val=aa y/\Lw fz M V l x t=aa { b with val:=s.rZ M V y,ro:=b.ro||fz,aP:=bif V t b.buf then b.aP+1 else b.aP }:=by
 intro l;induction l with
 | nil=>intro x _ t;exact .inl ⟨rfl,rfl⟩
 | cons p r o =>
   obtain⟨i,s,b⟩:=p;intro x h t;simp only[agq] at h;split at h
   .rename_i d g;cases c:IZ fz _ d b with
    | false=>rw[c] at h;cases h
    | true =>
      rw[c] at h;split at h
      .rename_i y z q u;obtain rfl:=aI h;by_cases e:t=i
       .subst e;refine .inr ⟨s,b,y,d,by simp[DX],ri ..,g,c,q,?_⟩;show(bif Nat.beq t t then aa { b with val:=s.rZ M V y,ro:=b.ro||fz,aP:=bif V t b.buf then b.aP+1 else b.aP } else Lw fz M V r z t)=_
        simp
       .have n:=iI e;have v:Lw fz M V ((i,s,b)::r) ((y,z):(tyM ((i,s,b)::r)).den) t=Lw fz M V r z t:=by
         show(bif Nat.beq t i then aa { b with val:=s.rZ M V y,ro:=b.ro||fz,aP:=bif V t b.buf then b.aP+1 else b.aP } else Lw fz M V r z t)=_
         rw[n];rfl
        have j:DX ((i,s,b)::r) t=DX r t:=by simp only[DX,n,adn]
        rw[v,j];rcases o u t with k|⟨A,C,D,m,E,F,G⟩
        .exact .inl k
        .exact .inr ⟨A,C,D,m,E,v8 _ F,G⟩
      .cases h
   .cases h
structure Df (k:Carry) (r8:St):Prop where
 S:∀t s,(t,s)∈k.S->Mo s (r8.bh t)
 M:∀b s bx,(b,s,bx)∈k.M->r8.mem b=aa bx/\Mo s bx.val/\bx.lk=false
 V:∀b x,k.V b false=true->r8.mem b=aa x->x.buf=false
def aiG{cx σ}:∀{p l},mkS cx σ p=aa l->∀t s,(t,s)∈l->Mo s (σ.bh t):=by
 intro p;induction p with
 | nil=>intro l h t s c;obtain rfl:=aI h;cases c
 | cons q r n =>
   obtain⟨i,o⟩:=q;intro l h t s c;simp only[mkS] at h;split at h
   .cases h
   .rename_i u g;have fin:∀m,Mo m (σ.bh i)->aa ((i,m)::u)=aa l->Mo s (σ.bh t):=by
     intro m x e;obtain rfl:=aI e;rcases fh.1 c with c|c
     .obtain⟨rfl,rfl⟩:=eN c;exact x
     .exact n g t s c
    cases j:Nat.beq o 999999 with
    | true =>
      rw[j] at h;split at h
      .rename_i b v y;exact fin (.k _) y.symm h
      .obtain rfl:=aI h;exact n g t s c
    | false =>
    rw[j] at h;simp at h;split at h
    .exact fin (.d _) trivial h
    .split at h
     .exact fin (.d _) trivial h
     .cases h
    .split at h
     .exact fin (.d _) trivial h
     .cases h
    .exact fin (.k _) rfl h
def aeb{σ}:∀{p l},mkM σ p=aa l->∀b s d,(b,s,d)∈l->σ.mem b=aa d/\Mo s d.val/\d.lk=false:=by
 intro p;induction p with
 | nil=>intro l h b s d c;obtain rfl:=aI h;cases c
 | cons i r k =>
   intro l h b s d c;simp only[mkM] at h;split at h
   .rename_i j t m g;cases e:ah2 j with
    | true=>rw[e] at h;obtain rfl:=aI h;exact k g b s d c
    | false =>
      rw[e] at h;obtain rfl:=aI h;rcases fh.1 c with c|c
      .injection c with n c
       injection c with o q
       subst n;subst o;subst q;exact⟨m,agI _,(Rp.1 e).1⟩
      .exact k g b s d c
   .cases h
def AF{cx nb bf σ p k}(h:KI cx nb bf σ p=aa k):Df k σ:=by
 unfold KI at h;split at h
 .rename_i s m d e;obtain rfl:=aI h;refine⟨aiG d,aeb e,λb x c g=>?_⟩;simp only[BM,aj7,g,gw,DT] at c;exact c.2.1
 .cases h
def agJ{l b}(h:DX l b=true):∃s c,(b,s,c)∈l:=by
 induction l with
 | nil=>cases h
 | cons p r e =>
   obtain⟨i,s,c⟩:=p;simp only[DX,Ll] at h;rcases h with h|h
   .obtain rfl:=gx h;exact⟨s,c,ri ..⟩
   .obtain⟨g,d,j⟩:=e h;exact⟨g,d,v8 _ j⟩
def vn{k fz lock wr x}(hk:Df k r8)(h0:dy B N WT r8 a0 w0)(G:dy B N γ rH a w)(hx:Ext B WT r8.mem w0 γ rH.mem w)
  (hf:∀t,dc wr t=false->a.tmps[t]?=a0.tmps[t]?) (C:∀b g,r8.mem b=aa g->DX k.M b=false->∃bl,rH.mem b=aa { g with lk:=bl }) (ho:k.out fz r8 rH=aa x) :
  dy B N γ (k.rZ fz lock wr r8 x) a w/\Ext B WT r8.mem w0 γ (k.rZ fz lock wr r8 x).mem w:=by
 unfold Carry.out at ho;split at ho
 case h_2=>cases ho
 rename_i xs xm hxs hxm;obtain rfl:=aI ho;generalize R:k.rZ fz lock wr r8 (xs,xm)=bM;have W:∀t,bM.bh t=match Rz _ k.V k.S xs t with|some v=>v|none=>bif dc wr t then .undef else r8.bh t:=λt=>by rw[<-R];rfl
 have T:∀b,bM.mem b=match Lw fz _ k.V k.M xm b with|some g=>aa g|none=>match r8.mem b with|some g=>aa { g with lk:=g.lk||lock }|none=>none:=λb=>by rw[<-R];rfl
 have D:∀b,DX k.M b=false->bM.mem b=match r8.mem b with|some g=>aa { g with lk:=g.lk||lock }|none=>none:=by
  intro b i;rw[T b];rcases UX hxm b with ⟨q,_⟩|⟨s,b',y,g,q,_⟩
  .rw[q]
  .rw[i] at q;cases q
 have here:∀b,DX k.M b=true->∃s m y g,r8.mem b=aa m/\Mo s m.val/\rH.mem b=aa g/\IZ fz (k.V b m.buf) g m=true/\Sh.out k.V r8 rH s g.val=aa y /\
   bM.mem b=aa { m with val:=s.rZ (DX k.M) k.V y,ro:=m.ro||fz,aP:=bif k.V b m.buf then m.aP+1 else m.aP }:=by
  intro b i;rcases UX hxm b with ⟨_,q⟩|⟨s,m,y,g,q,q1,q2,q3,q4,q5⟩
  .rw[i] at q;cases q
  .obtain⟨X,k2,_⟩:=hk.M b s m q1;exact⟨s,m,y,g,X,k2,q2,q3,q4,by rw[T b,q5]⟩
 have E:∀b g,rH.mem b=aa g->g.buf=true->∃e l,g.val=.data (.slice e) l:=by
  intro b g i J;have:=G.ok.boxes b g i;rw[eB,J] at this;obtain⟨e,l,q,_⟩:=this;exact⟨e,l,q⟩
 have hC:ad8 (DX k.M) k.V r8.mem rH.mem bM.mem:=by
  intro b d i;cases j:DX k.M b with
  | false =>
    obtain⟨bl,F⟩:=C b d i j;have u:=D b j;rw[i] at u;exact⟨_,_,F,u,rfl,rfl,rfl,aT,λ_=>rfl⟩
  | true =>
    obtain⟨s,m,y,g,Y,g2,U,g4,g5,Z⟩:=here b j;rw[i] at Y;obtain rfl:=aI Y;obtain⟨o1,o2,o3⟩:=EV g4;obtain⟨r1,r2⟩:=Zr (M:=DX k.M) (V:=k.V) (Qc:={ d with val:=s.rZ _ k.V y,ro:=d.ro||fz,aP:=bif k.V b d.buf then d.aP+1 else d.aP }) g5 rfl o2.symm (E b g U);refine⟨g,_,U,Z,o2,rfl,r1,aT,λH=>o3 ?_⟩;simpa using H
 have hE:Ext B WT r8.mem w0 γ bM.mem w :=
  { below:=hx.below
    I:=hx.I
    r4:=hx.r4
    cells:=hx.cells
    boxes:=λb d i=>by
     obtain⟨O,Qc,c1,c2,c3,c4,c5,c6,c7⟩:=hC b d i;obtain⟨aoO,e1,e2,e3⟩:=hx.boxes b d i;rw[c1] at e1;obtain rfl:=aI e1;cases H:(DX k.M b&&k.V b d.buf) with
     | true =>
       rw[H] at c6;simp at c6;exact⟨Qc,c2,ah,λe=>absurd e ah⟩
     | false =>
       rw[H] at c6;simp at c6;obtain⟨r1,r2,r3⟩:=e3 (c7 H);exact⟨Qc,c2,ah,λ_=>⟨r1,c4,c5.trans r3⟩⟩ }
 refine⟨⟨λt=>?_,G.size,G.defers,?_⟩,hE⟩
 .rw[W t];rcases aea hxs t with ⟨q,_⟩|⟨s,y,q1,q2,q3⟩
  .rw[q];cases hw:dc wr t with
   | true=>exact⟨_,rfl⟩
   | false =>
     have:a.tmps.getD t undef=a0.tmps.getD t undef:=by simp only[WX,hf t hw]
     rw[this];exact(h0.bh t).ext hE
  .rw[q3];exact Zq hC hk.V (hk.S t s q1) q2 (h0.bh t) (G.bh t)
 .have hne:∀b,bM.mem b≠af->∃d,r8.mem b=aa d:=by
   intro b i;cases j:DX k.M b with
   | true=>obtain⟨s,m,y,g,Y,_⟩:=here b j;exact⟨m,Y⟩
   | false =>
     rw[D b j] at i;cases H:r8.mem b with
     | none=>rw[H] at i;exact absurd rfl i
     | some d=>exact⟨d,rfl⟩
  have K:∀b,bM.mem b≠af->rH.mem b≠none:=by
   intro b i;obtain⟨d,u⟩:=hne b i;obtain⟨O,Qc,c1,_⟩:=hC b d u;rw[c1];simp
  exact
   { vh:=G.ok.vh
     base:=G.ok.base
     boxes:=λb Qc i=>by
      cases j:DX k.M b with
      | true =>
        obtain⟨s,m,y,g,Y,g2,U,g4,g5,Z⟩:=here b j;rw[i] at Z;obtain rfl:=aI Z;obtain⟨o1,o2,o3⟩:=EV g4;have o4:=aa1 g4;obtain⟨r1,r2⟩:=Zr (Qc:={ m with val:=s.rZ _ k.V y,ro:=m.ro||fz,aP:=bif k.V b m.buf then m.aP+1 else m.aP }) g5 rfl o2.symm (E b g U);have o:=G.ok.boxes b g U;have p:=h0.ok.boxes b m Y;unfold eB at o p⊢;rcases Ow g.buf with r|r
        .rw[r] at o;rw[<-o2,r,r2 r,<-o4];exact o
        .rw[r] at o;rw[<-o2,r];rw[<-o2,r] at p;obtain⟨_,_,_,_,_,_,_,_,_,z⟩:=p;obtain⟨A,cap,cur,tid,fr,z1,z2,z3,L,z4⟩:=o;exact⟨A,cap,cur,tid,fr,z1,z2,z3,o4▸L,Zq hC hk.V g2 g5 z z4⟩
      | false =>
        have u:=D b j;rw[i] at u;cases H:r8.mem b with
        | none=>rw[H] at u;cases u
        | some d =>
          rw[H] at u;obtain rfl:=aI u;obtain⟨bl,F⟩:=C b d H j;have o:=G.ok.boxes b _ F;have p:=h0.ok.boxes b d H;unfold eB at o p⊢;rcases Ow d.buf with r|r
          .rw[r] at o⊢;exact o
          .rw[r] at o p⊢;obtain⟨_,_,_,_,_,_,_,_,_,z⟩:=p;obtain⟨A,cap,cur,tid,fr,z1,z2,z3,L,z4⟩:=o;exact⟨A,cap,cur,tid,fr,z1,z2,z3,L,cI.down hC.mid z z4⟩
     inj:=λb c A X k2 i hc u h2=>G.ok.inj b c A X k2 (K b i) (K c hc) u h2
     fresh:=λb A X i u=>G.ok.fresh b A X (K b i) u
     vg:=G.ok.vg
     sep:=λb Qc A X off i u hi=>by
      obtain⟨d,q0⟩:=hne b (by rw[i];simp);obtain⟨O,aoP,c1,c2,c3,c4,c5,c6,c7⟩:=hC b d q0;rw[i] at c2;obtain rfl:=aI c2;obtain⟨s1,s2⟩:=G.ok.sep b O A X off c1 u hi;have hro:O.ro=true->Qc.ro=true:=by
       cases j:DX k.M b with
       | true =>
         obtain⟨s,m,y,g,Y,g2,U,g4,g5,Z⟩:=here b j;rw[c1] at U;obtain rfl:=aI U;rw[i] at Z;obtain rfl:=aI Z;exact(EV g4).1
       | false =>
         have u:=D b j;rw[i,q0] at u;obtain rfl:=aI u;obtain⟨bl,F⟩:=C b d q0 j;rw[c1] at F;obtain rfl:=aI F;exact λh=>h
      exact⟨hro s1,λJ e n hr=>s2 (by rw[c3,<-c4];exact J) e n (by rw[<-c5];exact hr)⟩ }
end
end Go.Ge
namespace Go.Ge
variable [Lp]
open RowKit
def Gj{p:Nat->Prop}(h:∃n,p n):∃n,p n/\∀m,p m->n<=m:=by
 obtain⟨n,c⟩:=h;induction n using Nat.strongRecOn with
 | _ n d =>
   by_cases h:∃m,m<n/\p m
   .obtain⟨m,e,g⟩:=h;exact d m e g
   .exact⟨n,c,λm i=>Nat.le_of_not_lt λb=>h ⟨m,b,i⟩⟩
open Classical in
noncomputable def least(p:Nat->Prop):Nat:=if h:∃n,p n then Classical.choose (Gj h) else 0
def Mp{p}(h:∃n,p n):p (least p)/\∀m,p m->least p<=m:=by
 unfold least;rw[dif_pos h];exact Rm (Gj h)
def HK{P c Q a w}(I:Nat->Act->World->Prop){n}(j:I n a w)
  (b:∀n a w,I n a w->c.wp P (Exit.then (λg w'=>∃m,m<n/\I m g w') Q) a w):(Code.loop c).wp P Q a w:=by
 refine wp_loop (λa w=>∃n,I n a w) (λa w=>least λn=>I n a w) ⟨n,j⟩ λa w h=>?_;obtain⟨k,l⟩:=Mp h;refine wp_mono (b _ a w k) λe g w' i=>?_;cases e with
 | normal =>
   obtain⟨m,m1,d⟩:=i;exact⟨⟨m,d⟩,Nat.lt_of_le_of_lt ((Mp ⟨m,d⟩).2 m d) m1⟩
 | _=>exact i
def Mq:Nat->Exit
 | 0=>.normal
 | 1=>.ret
 | i+2=>.exit i
def Jh{l m t}:dc (l++m) t=(dc l t||dc m t):=by
 induction l with
 | nil=>rfl
 | cons i r b=>simp only[Lj,dc,b,T0]
def Gk(b:List Nat)(a c:Act):Prop:=∀t,dc b t=false->c.tmps[t]?=a.tmps[t]?
def Gk.refl ws a:Gk ws a a:=λ_ _=>rfl
def Gk.trans{ws a b c}(h:Gk ws a b)(k:Gk ws b c):Gk ws a c:=λt d=>(k t d).trans (h t d)
def Gk.left{ws vs a b}(h:Gk ws a b):Gk (ws++vs) a b:=λt c=>h t (by rw[Jh,Rp] at c;exact c.1)
def Gk.right{ws vs a b}(h:Gk vs a b):Gk (ws++vs) a b:=λt c=>h t (by rw[Jh,Rp] at c;exact c.2)
def UY{t}:∀{l k},dc (sj l) t=false->oQ t (number k l)=false:=by
 intro l;induction l with
 | nil=>intro k _;rfl
 | cons o l b =>
   intro k h;simp only[number,oQ];cases hd:o.dst with
   | none=>simp only[sj,hd] at h;rw[b h];rfl
   | some d =>
     simp only[sj,hd,dc,Rp] at h;rw[b h.2];simp;exact iI λe=>by subst e;simp at h
def Sg{l:List Oper}{o}(h:o∈l){k:Nat}(c:o.dst=aa k):k∈sj l:=by
 induction l with
 | nil=>cases h
 | cons p l b =>
   rcases fh.1 h with h|h
   .subst h;simp only[sj,c];exact ri ..
   .simp only[sj];split
    .exact v8 _ (b h)
    .exact b h
def Qd{α}{f:Nat->Tree α}:∀{es e i},JR es e=aa i->(FJ es i f).run=(f e).run:=by
 intro es;induction es with
 | nil=>intro e i h;cases h
 | cons k r l =>
   intro e i h;simp only[JR] at h;have one:∀{b},(bif b then aa 0 else(JR r e).map (·+1))=aa i->(b=true/\i=0)\/(b=false/\∃j,JR r e=aa j/\i=j+1):=by
    intro b g;cases b with
    | true=>exact .inl ⟨rfl,(aI g).symm⟩
    | false =>
      obtain⟨j,c,d⟩:=EA.1 g;exact .inr ⟨rfl,j,c,d.symm⟩
   rcases one h with ⟨c,rfl⟩|⟨c,j,d,rfl⟩
   .obtain rfl:=gx c;cases r with
    | nil=>rfl
    | cons m s=>rfl
   .cases r with
    | nil=>cases d
    | cons m s=>exact l d
section
variable {P:Program} {B:B5} {N:Nat} {cx:Ctx} {nb:Nat} {bf:List Nat} {inl:Nat->List cp->St->Tree (cp×St)}
def XK(c:∀f d σ v aV,(inl f d σ).run=aa (v,aV)->bU σ aV):∀l k b σ aV,(Lv cx nb bf inl (number k l) b σ).run=aa aV->bU σ aV:=by
 intro l;induction l with
 | nil=>intro k b σ aV h;obtain rfl:=aI h;apply bU.refl
 | cons o l e =>
   intro k b σ aV h;simp only[number,Lv] at h;split at h
   .cases h
   .obtain⟨m,g⟩:=ay h;obtain⟨bM,i,j⟩:=bind_some g;exact(Cd c bM<|Dd (KM o σ) i).trans (e _ _ _ _ j)
def aa2{fz M V}:∀{l x t},DX l t=false->Lw fz M V l x t=none:=by
 intro l;induction l with
 | nil=>intro x t _;rfl
 | cons p r b =>
   intro x t h;simp only[DX,Rp] at h;simp only[Lw,h.1];exact b h.2
def UZ{k:Carry}{fz lock wr σ x b c}(d:σ.mem b=aa c)(h:DX k.M b=false):(k.rZ fz lock wr σ x).mem b=aa { c with lk:=c.lk||lock }:=by
 simp only[Carry.rZ];rw[aa2 h,d]
def Ch{k fz lock wr σ x}(h:Df k σ):bU σ (k.rZ fz lock wr σ x):=by
 intro b i c d;have:DX k.M b=false:=by
  cases j:DX k.M b with
  | false=>rfl
  | true =>
    obtain⟨s,l,m⟩:=agJ j;obtain⟨e,_,g⟩:=h.M b s l m;rw[c] at e;obtain rfl:=aI e;rw[d] at g;cases g
 rw[UZ c this];cases i;subst d;rfl
def Ji{α}{Q:α->Prop}{f}(b:∀e y,(f e).run=aa y->Q y):∀{es i y},(FJ es i f).run=aa y->Q y:=by
 intro es;induction es with
 | nil=>intro i y h;cases h
 | cons k r d =>
   intro i y h;cases r with
   | nil=>exact b k y h
   | cons m s =>
     have:=gD h;cases c:cl i 0 with
     | true=>rw[c] at this;exact b k y this
     | false=>rw[c] at this;exact d this
def Mr:∀{l σ aV},FI l σ=aa aV->bU σ aV:=by
 intro l;induction l with
 | nil=>intro σ aV h;obtain rfl:=aI h;apply bU.refl
 | cons m r b =>
   intro σ aV h;unfold FI at h;cases c:Nat.ble 2000000 m with
   | false=>rw[c] at h;exact b h
   | true =>
     rw[c] at h;split at h
     .split at h
      .split at h
       .split at h
        .rename_i d;exact(rF d).trans ((bU.put _ _ _).trans<|b h)
        .cases h
       .cases h
      .cases h
     .exact b h
def Jj{B N a w}:∀{l σ aV γ},FI l σ=aa aV->dy B N γ σ a w->∃bE,dy B N bE aV a w/\Ext B γ σ.mem w bE aV.mem w:=by
 intro l;induction l with
 | nil=>intro σ aV γ h b;obtain rfl:=aI h;exact⟨γ,b,Ext.refl _ _ _ _⟩
 | cons m r d =>
   intro σ aV γ h b;unfold FI at h;cases i:Nat.ble 2000000 m with
   | false=>rw[i] at h;exact d h b
   | true =>
     rw[i] at h;generalize m-2000000=k at h;split at h
     .split at h
      .split at h
       .split at h
        .rename_i x bM j;obtain⟨e,c,n,o⟩:=od b (b.bh k) j;have p:dy B N e (bM.put k _) a w:=⟨λt=>by
          unfold St.put;dsimp only;cases q:Nat.beq t k with
          | false=>exact c.bh t
          | true =>
            obtain rfl:=gx q;exact o,c.size,c.defers,c.ok⟩
         obtain⟨g,s,u⟩:=d h p;exact⟨g,s,n.trans u⟩
        .cases h
       .cases h
      .cases h
     .exact d h b
def XL{f}(e:∀σ r,(f σ).run=aa r->bU σ r.2):∀n σ r,(again f n σ).run=aa r->bU σ r.2:=by
 intro n;induction n with
 | zero=>intro σ r h;cases h
 | succ n g =>
   intro σ r h;obtain⟨i,j,b⟩:=bind_some h;have c:=e _ _ j;cases d:Nat.beq i.1 0 with
   | true=>rw[d] at b;exact c.trans (g _ _ b)
   | false=>rw[d] at b;obtain rfl:=aI b;exact c
def U0{f}(g:∀σ r,(f σ).run=aa r->bU σ r.2){c}:∀n j σ r,(Hv f c n j σ).run=aa r->bU σ r.2:=by
 intro n;induction n with
 | zero=>intro j σ r h;cases h
 | succ n i =>
   intro j σ r h;unfold Hv at h;split at h
   .have h:=cP h;obtain⟨k,l,b⟩:=bind_some h.2;have d:=(bU.put σ c _).trans (g _ _ l);cases e:Nat.beq k.1 0 with
    | true=>rw[e] at b;exact d.trans (i _ _ _ b)
    | false=>rw[e] at b;obtain rfl:=aI b;exact d
   .cases h
def xH(g:∀f z σ v aV,(inl f z σ).run=aa (v,aV)->bU σ aV):∀c j σ r,(js cx nb bf inl c j σ).run=aa r->bU σ r.2:=by
 intro c;induction c with
 | skip=>intro j σ r h;obtain rfl:=aI h;exact bU.refl _
 | label l=>intro j σ r h;obtain rfl:=aI h;exact bU.refl _
 | ret=>intro j σ r h;obtain rfl:=aI h;exact bU.refl _
 | exit i=>intro j σ r h;obtain rfl:=aI h;apply bU.refl
 | region id ops K =>
   intro j σ r h;obtain⟨bM,q,d⟩:=bind_some h;obtain rfl:=aI d;cases K with
   | true =>
     have m:(zF cx nb bf inl ops σ).run=aa bM:=q;unfold zF at m;cases H:ops.any λo=>o.guard.isSome with
     | true =>
       rw[H] at m;obtain⟨L,A⟩:=ay m;split at A
       .exact Mm g _ _ _ _ _ _ A
       .rw[Tree.xk] at A;obtain⟨x,_,C⟩:=BL.1 A;obtain rfl:=aI C;exact λb T O _=>by show(σ.undef _).mem b=_;rw[rG];exact O
     | false =>
       rw[H] at m;exact XK g _ _ _ _ _ m
   | false=>exact Gc g _ _ _ _ q
 | seq a b s t =>
   intro j σ r h;obtain⟨D,q,d⟩:=bind_some h;have I:=s _ _ _ q;cases J:Nat.beq D.1 0 with
   | true=>rw[J] at d;exact I.trans (t _ _ _ d)
   | false=>rw[J] at d;obtain rfl:=aI d;exact I
 | block i a u =>
   intro j σ r h;obtain⟨D,q,d⟩:=bind_some h;obtain rfl:=aI d;exact u _ _ D q
 | scope a u=>intro j σ r h;exact u _ _ _ h
 | cond c a b s t =>
   intro j σ r h;unfold js at h;split at h
   .rename_i R S U;have:=gD h;cases R with
    | false=>exact t _ _ _ this
    | true=>exact s _ _ _ this
   .split at h
    .cases h
    rename_i σ n;refine(Mr n).trans ?_;split at h
    .cases h
    .rename_i k E;have p:=AF E;dsimp only at h;split at h
     .rw[Tree.xk] at h;obtain⟨x,q,d⟩:=BL.1 h;obtain rfl:=aI d;exact Ch p
     .rw[Tree.xk] at h;obtain⟨x,q,d⟩:=BL.1 h;exact Ji (Q:=λr:Nat×St=>bU σ r.2) (λe y F=>by obtain rfl:=aI F;exact Ch p) d
   .cases h
 | loop a u =>
   intro j σ r h;unfold js at h;split at h
   .split at h
    .exact U0 (λσ r G=>u _ _ _ G) _ _ _ _ h
    split at h
    .cases h
    rename_i σ n;refine(Mr n).trans ?_;split at h
    .cases h
    .rename_i k E;have p:=AF E;dsimp only at h;split at h
     .cases h
     .split at h
      .obtain⟨x,q,d⟩:=cg h;obtain rfl:=aI d;exact Ch p
      .obtain⟨x,q,d⟩:=cg h;exact Ji (Q:=λr=>bU σ r.2) (λe y F=>by obtain rfl:=aI F;exact Ch p) d
   .exact XL (λσ r G=>u _ _ _ G) _ _ _ h
   .cases h
 | _=>intro j σ r h;cases h
end
end Go.Ge
namespace Go.Ge
variable [Lp]
open RowKit
section
variable {P:Program} {B:B5} {N:Nat} {cx:Ctx} {nb:Nat} {bf:List Nat} {inl:Nat->List cp->St->Tree (cp×St)}
def Gl(k:Carry) σ:(k.lock σ).mem=wm (λb c=>bif DX k.M b then c.lk else true) σ.mem:=by
 funext b;simp only[Carry.lock,wm];cases σ.mem b with
 | none=>rfl
 | some c=>cases DX k.M b<;>rfl
def agK(k:Carry) σ:k.lock σ={ σ with mem:=wm (λb c=>bif DX k.M b then c.lk else true) σ.mem }:=by
 have:=Gl k σ;unfold Carry.lock at this⊢;dsimp only at this⊢;rw[this]
def HL{T β}{t:Tree T}{k:T->Tree β}{y}(h:(t.join k).run=aa y):∃x,t.run=aa x/\(k x).run=aa y:=by
 rw[Tree.xk] at h;exact BL.1 h
def Ms{α}{o:Option α}{y}(h:(Tree.adu o).run=aa y):o=aa y:=by
 cases o with
 | none=>cases h
 | some x=>exact h
def aed{b e i}(h:JR [b] e=aa i):e=b:=by
 simp only[JR] at h;cases c:Nat.beq b e with
 | true=>exact(gx c).symm
 | false=>rw[c] at h;cases h
def dy.Zs{γ σ a w}(h:dy B N γ σ a w){i v}(b:cI γ σ.mem w v .val [a.tmps.getD i Go.undef]):dy B N γ (σ.put i v) a w where
 bh:=λt=>by
  show cI γ σ.mem w (bif Nat.beq t i then v else σ.bh t) .val _
  cases c:Nat.beq t i with
  | true=>obtain rfl:=gx c;exact b
  | false=>exact h.bh t
 size:=h.size
 defers:=h.defers
 ok:=h.ok
def Si{a w}:∀{l σ aV γ},settle l σ=aa aV->dy B N γ σ a w->∃bE,dy B N bE aV a w/\Ext B γ σ.mem w bE aV.mem w/\bU σ aV:=by
 intro l;induction l with
 | nil=>intro σ aV γ h c;obtain rfl:=aI h;exact⟨γ,c,Ext.refl _ _ _ _,bU.refl _⟩
 | cons p r e =>
   obtain⟨i,s⟩:=p;intro σ aV γ h c;cases s with
   | d t =>
     simp only[settle] at h;split at h
     .rename_i x bM j;obtain⟨n,o,q,u⟩:=od c (c.bh i) j;obtain⟨g,y,z,A⟩:=e h (o.Zs u);exact⟨g,y,q.trans z,(rF j).trans A⟩
     .cases h
   | k v=>exact e h c
   | m a b=>exact e h c
def Gm{k fz wr x r8 rH WT γ a a0 w w0}(j:Df k r8)(l:dy B N WT r8 a0 w0)(m:dy B N γ rH a w)(n:Ext B WT r8.mem w0 γ rH.mem w)
  (o:∀t,dc wr t=false->a.tmps[t]?=a0.tmps[t]?) (c:∀b e,r8.mem b=aa e->DX k.M b=false->rH.mem b=aa { e with lk:=true }) (g:k.Lx fz r8 rH=aa x) :
  ∃bE,dy B N bE (k.rZ fz false wr r8 x) a w/\Ext B WT r8.mem w0 bE (k.rZ fz false wr r8 x).mem w:=by
 unfold Carry.Lx at g;cases fz with
 | false=>exact⟨γ,vn j l m n o (λb e h d=>⟨true,c b e h d⟩) g⟩
 | true =>
   split at g
   .rename_i bM p;obtain⟨i,q,r,s⟩:=Si p m;exact⟨i,vn j l q (n.trans r) o (λb e h d=>⟨true,s b _ (c b e h d) rfl⟩) g⟩
   .cases g
noncomputable def roundOf(d:Ctx)(e:Nat)(g:List Nat)(inl:Nat->List cp->St->Tree (cp×St))(k:Carry)(h:Bool)(b:St)(c:Code)(j:List (Option Ry))(x:k.ty.den):Option (k.ty.den⊕(Nat×k.ty.den)) :=
 ((js d e g inl c j<|k.rZ false true (writes c) b x).bind λr=>bif Nat.beq r.1 0 then(match k.out false b r.2 with
   | some y=>.ret (.inl y)
   | none=>.fail)
  else match JR (vT c) r.1,k.Lx h b r.2 with
   | some i,aa y=>.ret (.inr (i,y))
   | _,_=>.fail).run
def Qe{c k fz σ γ a w Q R}(C:Df k σ)(h:dy B N γ σ a w){x0}(D:k.out false σ σ=aa x0)
  f (Out:R->Nat->k.ty.den->Prop) {z} (X:Loop f x0=aa z)
  (Y:∀x r,f x=aa r->∃e y,(match r with|.inl E=>e=0/\E=y|.inr z=>e≠0/\Out z e y) /\
   ∀j q t S,dy B N j (k.rZ false true (writes c) σ x) q t->(∀rH bE d w',(bif Nat.beq e 0 then k.out false σ rH else k.Lx fz σ rH)=aa y->bU (k.rZ false true (writes c) σ x) rH->dy B N bE rH d w'->Ext B j (k.rZ false true (writes c) σ x).mem t bE rH.mem w'->Gk (writes c) q d->S (Mq e) d w') ->
    c.wp P S q t)
  (final:∀e y,e≠0->Out z e y->∀bE d w',dy B N bE (k.rZ fz false (writes c) σ y) d w'->Ext B γ σ.mem w bE (k.rZ fz false (writes c) σ y).mem w'->Gk (writes c) a d->Q (Mq e) d w') :
  (Code.loop c).wp P Q a w:=by
 obtain⟨n,Z⟩:=si X;refine HK (λm d w'=>∃bE x,dy B N bE (k.rZ false true (writes c) σ x) d w'/\Ext B γ σ.mem w bE (k.rZ false true (writes c) σ x).mem w'/\Gk (writes c) a d/\rounds f m x=aa z) (n:=n) ?_ ?_
 .obtain⟨s,x⟩:=vn C h h (Ext.refl _ _ _ _) (λ_ _=>rfl) (λb o u _=>⟨o.lk,u⟩) D;exact⟨γ,x0,s,x,Gk.refl _ _,Z⟩
 .intro m q t hI;obtain⟨j,x,s1,e1,f1,T⟩:=hI;cases m with
  | zero=>cases T
  | succ m =>
    obtain⟨r,F,v⟩:=BL.1 T;obtain⟨e,y,U,G⟩:=Y x r F;refine G j q t _ s1 λrH bE d w' H I W e2 f2=>?_;have hx:=e1.trans e2;have l:=f1.trans f2;have g:∀b o,σ.mem b=aa o->DX k.M b=false->rH.mem b=aa { o with lk:=true }:=λb o u p=>by
     have:=I b _ (UZ u p) aT;simpa using this
    cases r with
    | inl E =>
      obtain⟨rfl,rfl⟩:=U;obtain⟨J,K⟩:=vn C h W hx l (λb o u p=>⟨true,g b o u p⟩) H;exact⟨m,TW m,bE,E,J,K,l,v⟩
    | inr z' =>
      obtain⟨A,hO⟩:=U;obtain rfl:=aI v;have L:Nat.beq e 0=false:=iI A;rw[L] at H;obtain⟨O,J,K⟩:=Gm C h W hx l g H;have:=final e y A hO O d w' J K l
      match e,A,this with
      | 0,A,_=>exact absurd rfl A
      | 1,_,this=>exact this
      | i+2,_,this=>exact this
def aa3{S}{o:Option (S⊕(Nat×S))}{r}(h:cq o=aa r):(∃y,r=.inl y/\o=aa (.inl y))\/∃i y,r=.inr y/\o=aa (.inr (i,y)):=by
 obtain⟨q,b,c⟩:=EA.1 h;cases q with
 | inl y=>exact .inl ⟨y,c.symm,b⟩
 | inr p=>exact .inr ⟨p.1,p.2,c.symm,b⟩
def vo(aiH:P.follows .mixedOrders=true)(hc:fN P cx)(aaR:pS P B.G cx)(agD:yx P B.G inl)(D:∀f aiF σ v aV,(inl f aiF σ).run=aa (v,aV)->bU σ aV) :
  ∀c {pl σ γ a w e aV Q},(∀t∈writes c,t<N)->(js cx nb bf inl c pl σ).run=aa (e,aV)->dy B N γ σ a w ->
   (∀bE d w',dy B N bE aV d w'->Ext B γ σ.mem w bE aV.mem w'->Gk (writes c) a d->Q (Mq e) d w')->c.wp P Q a w:=by
 intro c;induction c with
 | skip =>
   intro pl σ γ a w e aV Q H g h u;obtain⟨rfl,rfl⟩:=eN (aI g);exact wp_skip (u γ a w h (Ext.refl _ _ _ _)<|Gk.refl _ _)
 | label l =>
   intro pl σ γ a w e aV Q H g h u;obtain⟨rfl,rfl⟩:=eN (aI g);exact wp_label (u γ a w h (Ext.refl _ _ _ _)<|Gk.refl _ _)
 | ret =>
   intro pl σ γ a w e aV Q H g h u;obtain⟨rfl,rfl⟩:=eN (aI g);exact wp_ret (u γ a w h (Ext.refl _ _ _ _)<|Gk.refl _ _)
 | exit i =>
   intro pl σ γ a w e aV Q H g h u;obtain⟨rfl,rfl⟩:=eN (aI g);exact wp_exit (u γ a w h (Ext.refl _ _ _ _)<|Gk.refl _ _)
 | region id ops dr =>
   intro pl σ γ a w e aV Q H g h u;obtain⟨bM,R,L⟩:=bind_some g;obtain⟨rfl,rfl⟩:=eN (aI L);have hd':∀o∈ops.toList,∀k,o.dst=aa k->k<N:=λo ho k hk=>H k (Sg ho hk);have hfr:∀{a d},Fr (number 0 ops.toList) a d->Gk _ a d:=λhf t ht=>hf t (UY ht);cases dr with
   | true=>exact UT aiH hc aaR agD D hd' R h λbE d w' s x f=>u bE d w' s x (hfr f)
   | false=>exact R0 hc aaR agD D hd' R h λbE d w' s x f=>u bE d w' s x (hfr f)
 | seq x y ihx ihy =>
   intro pl σ γ a w e aV Q H g h u;obtain⟨r1,R,L⟩:=bind_some g;obtain⟨Y,bM⟩:=r1;have hdx:=λt ht=>H t (DP _ ht);have hdy:∀t∈writes y,t<N:=λt ht=>H t (JM _ ht);refine wp_seq (ihx hdx R h λbE d w' E I C=>?_);cases Y with
   | zero=>exact ihy hdy L E λal2 a'' w'' s2 x2 f2=>u al2 a'' w'' s2 (I.trans x2) (C.left.trans f2.right)
   | succ Y =>
     obtain⟨rfl,rfl⟩:=eN (aI L);have:=u bE d w' E I C.left;cases Y with
     | zero=>exact this
     | succ i=>exact this
 | block i x ih =>
   intro pl σ γ a w e aV Q H g h u;obtain⟨r1,R,L⟩:=bind_some g;obtain⟨Y,bM⟩:=r1;obtain⟨rfl,rfl⟩:=eN (aI L);refine wp_block (ih H R h λbE d w' E I C=>?_);have:=u bE d w' E I C
   match Y,this with
   | 0,this=>exact this
   | 1,this=>exact this
   | j+2,this =>
     show Exit.inBlock i Q (.exit j) d w'
     unfold Exit.inBlock;by_cases e:j=i
     .subst e;simpa [Mq] using this
     .simp only[aK e];have hb:Nat.beq (j+2) (i+2)=false:=iI ah;rw[hb] at this;exact this
 | scope x ih =>
   intro pl σ γ a w e aV Q H g h u;refine wp_scope_straight (ih H g h λbE d w' E I C=>?_);have:=u bE d w' E I C
   match e,this with
   | 0,this=>exact this
   | 1,this=>exact this
   | j+2,this=>exact this
 | cond o x y ihx ihy =>
   intro pl σ γ a w e aV Q H g h u;have hdx:=λt ht=>H t (DP _ ht);have hdy:=λt ht=>H t (JM _ ht);unfold js at g;split at g
   .rename_i c0 O hcv;have F:=h.cW o;rw[hcv] at F;have F:=AA F;have hn:=gD g;cases c0 with
    | false=>exact wp_cond_false F (ihy hdy hn h λbE d w' E I C=>u bE d w' E I C.right)
    | true=>exact wp_cond_true F (ihx hdx hn h λbE d w' E I C=>u bE d w' E I C.left)
   .rename_i c0 p O hcv;have F:=h.cW o;rw[hcv] at F;have F:=AA F;split at g
    .cases g
    rename_i σ Z;obtain⟨γ,h,hx⟩:=Jj Z h;replace u:=λbE d w' s x f=>u bE d w' s (hx.trans x) f;split at g
    .cases g
    rename_i k hk;have hok:=AF hk;have go:∀{r},(Tree.node c0 (js cx nb bf inl x O<|k.lock σ)<|js cx nb bf inl y (O.drop<|marks x)<|k.lock σ).run=aa r->∀{v},k.Lx p.fz σ r.2=aa v ->
      (∀bE d w',dy B N bE (k.rZ p.fz false (writes x++writes y) σ v) d w'->Ext B γ σ.mem w bE (k.rZ p.fz false (writes x++writes y) σ v).mem w'->Gk (writes x++writes y) a d->Q (Mq r.1) d w') ->
      (Code.cond o x y).wp P Q a w:=by
     intro r S v ho hQ;have hlk:dy B N γ (k.lock σ) a w:=by rw[agK];exact h.wm
     have hle:Ext B γ σ.mem w γ (k.lock σ).mem w:=by rw[Gl];exact Ext.wm
     have fin:bU (k.lock σ) r.2->∀bE d w',dy B N bE r.2 d w'->Ext B γ (k.lock σ).mem w bE r.2.mem w'->Gk (writes x++writes y) a d->Q (Mq r.1) d w':=by
      intro hkp bE d w' E I C;obtain⟨γ2,s2,x2⟩:=Gm hok h E (hle.trans I) C (λb bx hb Uv=>hkp b _ (by rw[Gl,Qb hb,Uv];rfl) rfl) ho;exact hQ γ2 d w' s2 x2 C
     have hn:=gD S;cases c0 with
     | false=>exact wp_cond_false F (ihy hdy hn hlk λbE d w' E I C=>fin (xH D _ _ _ _ hn) bE d w' E I C.right)
     | true=>exact wp_cond_true F (ihx hdx hn hlk λbE d w' E I C=>fin (xH D _ _ _ _ hn) bE d w' E I C.left)
    split at g
    .obtain⟨v,R,L⟩:=HL g;obtain⟨rfl,rfl⟩:=eN (aI L);obtain⟨r,h3,h4⟩:=bind_some R;obtain⟨h5,h6⟩:=ay h4;refine go h3 (Ms h6) λbE d w' s x f=>?_;rw[gx h5];exact u bE d w' s x f
    .rename_i es hes;obtain⟨v,R,L⟩:=HL g;obtain⟨r,h3,h4⟩:=bind_some R;split at h4
     .rename_i i v' J ho;obtain rfl:=aI h4;rw[Qd J] at L;obtain⟨rfl,rfl⟩:=eN (aI L);exact go h3 ho λbE d w' s x f=>u bE d w' s x f
     .cases h4
   .cases g
 | loop c ih =>
   intro pl σ γ a w e aV Q H g h u;unfold js at g;split at g
   case h_2 =>
    generalize 100000=n at g;refine HK (λm d w'=>∃bE bM,dy B N bE bM d w'/\Ext B γ σ.mem w bE bM.mem w'/\Gk (writes c) a d/\(again _ m bM).run=aa _) ⟨γ,σ,h,Ext.refl _ _ _ _,Gk.refl _ _,g⟩ ?_;intro m a1 w1 hI;obtain⟨T,bM,E,Y,C,K⟩:=hI;cases m with
    | zero=>cases K
    | succ m =>
      obtain⟨r,U,A⟩:=bind_some K;obtain⟨e',cH⟩:=r;refine ih H U E λbE d w' s2 e2 f2=>?_;cases X:Nat.beq e' 0 with
      | true =>
        dsimp only at A;rw[X] at A;obtain rfl:=gx X;exact⟨m,TW m,bE,cH,s2,Y.trans e2,C.trans f2,A⟩
      | false =>
        dsimp only at A;rw[X] at A;obtain⟨rfl,rfl⟩:=eN (aI A);have:=u bE d w' s2 (Y.trans e2) (C.trans f2)
        match e',X,this with
        | 0,X,_=>cases X
        | 1,_,this=>exact this
        | i+2,_,this=>exact this
   case h_3=>cases g
   rename_i p O;split at g
   .rename_i ct hct;generalize 100=n at g;generalize 0=j at g;refine HK (λm d w'=>∃bE bM j',dy B N bE bM d w'/\Ext B γ σ.mem w bE bM.mem w'/\Gk (writes c) a d/\(Hv _ ct m j' bM).run=aa _) ⟨γ,σ,j,h,Ext.refl _ _ _ _,Gk.refl _ _,g⟩ ?_;intro m a1 w1 hI;obtain⟨T,bM,j1,E,Y,C,K⟩:=hI;cases m with
    | zero=>cases K
    | succ m =>
      unfold Hv at K;split at K
      case h_2=>cases K
      rename_i x hx;obtain⟨hj,hr2⟩:=cP K;obtain⟨r,U,A⟩:=bind_some hr2;obtain⟨e',cH⟩:=r;change Int at x;have s1':dy B N T (bM.put ct<|.data (.int .i64) (j1:Int)) a1 w1:=E.Zs (by
       have:=E.bh ct;rw[hx] at this;rw[<-(fb hj)];exact this)
      refine ih H U s1' λbE d w' s2 e2 f2=>?_;cases X:Nat.beq e' 0 with
      | true =>
        obtain rfl:=gx X;exact⟨m,TW m,bE,cH,j1+1,s2,Y.trans e2,C.trans f2,A⟩
      | false =>
        dsimp only at A;rw[X] at A;obtain⟨rfl,rfl⟩:=eN (aI A);have:=u bE d w' s2 (Y.trans e2) (C.trans f2)
        match e',X,this with
        | 0,X,_=>cases X
        | 1,_,this=>exact this
        | i+2,_,this=>exact this
   split at g
   .cases g
   rename_i σ Z;obtain⟨γ,h,hx⟩:=Jj Z h;replace u:=λbE d w' s x f=>u bE d w' s (hx.trans x) f;split at g
   .cases g
   rename_i k hk;have hok:=AF hk;dsimp only at g;split at g
   .cases g
   rename_i x0 hx0;have hb:∀x r,roundOf cx nb bf inl k p.fz σ c O x=aa r->∃e rH y,(js cx nb bf inl c O<|k.rZ false true (writes c) σ x).run=aa (e,rH)/\(bif Nat.beq e 0 then k.out false σ rH else k.Lx p.fz σ rH)=aa y/\((e=0/\r=.inl y)\/(e≠0/\∃i,JR (vT c) e=aa i/\r=.inr (i,y))):=by
    intro x r hx;obtain⟨q,U,A⟩:=bind_some hx;obtain⟨e,rH⟩:=q;cases he:Nat.beq e 0 with
    | true =>
      rw[he] at A;split at A
      .rename_i y hy;exact⟨e,rH,y,U,by rw[he];exact hy,.inl ⟨gx he,(aI A).symm⟩⟩
      .cases A
    | false =>
      rw[he] at A;simp at A;split at A
      .rename_i i y hi hy;exact⟨e,rH,y,U,by rw[he];exact hy,.inr ⟨λe0=>(by subst e0;cases he),i,hi,(aI A).symm⟩⟩
      .cases A
   have step:∀{x e rH y},(js cx nb bf inl c O<|k.rZ false true (writes c) σ x).run=aa (e,rH)->(bif Nat.beq e 0 then k.out false σ rH else k.Lx p.fz σ rH)=aa y->∀T a1 w1 Q',dy B N T (k.rZ false true (writes c) σ x) a1 w1 ->
     (∀rH bE d w',(bif Nat.beq e 0 then k.out false σ rH else k.Lx p.fz σ rH)=aa y->bU (k.rZ false true (writes c) σ x) rH->dy B N bE rH d w'->Ext B T (k.rZ false true (writes c) σ x).mem w1 bE rH.mem w'->Gk (writes c) a1 d->Q' (Mq e) d w')->c.wp P Q' a1 w1:=by
    intro x e rH y S ho T a1 w1 Q' s hQ;exact ih H S s λbE d w' E I C=>hQ rH bE d w' ho (xH D _ _ _ _ S) E I C
   split at g
   .rename_i e0 hes;obtain⟨v,R,L⟩:=cg g;obtain⟨rfl,rfl⟩:=eN (aI L);refine Qe (fz:=p.fz) hok h hx0 _ (λz e' y=>e'=e0/\z=y) R (λx r hx=>?_) (λe' y hne hO bE d w' s x f=>?_)
    .rcases aa3 hx with ⟨y,rfl,hy⟩|⟨i,y,rfl,hy⟩
     .obtain⟨e,rH,y',U,A,W⟩:=hb x _ hy;rcases W with ⟨rfl,W⟩|⟨_,i,_,W⟩
      .obtain rfl:=T4 W;exact⟨0,y,⟨rfl,rfl⟩,step U A⟩
      .cases W
     .obtain⟨e,rH,y',U,A,W⟩:=hb x _ hy;rcases W with ⟨rfl,W⟩|⟨hne,i',J,W⟩
      .cases W
      .obtain⟨rfl,rfl⟩:=eN (Sum.inr.inj W);rw[hes] at J;exact⟨e,y,⟨hne,aed J,rfl⟩,step U A⟩
    .obtain⟨rfl,rfl⟩:=hO;exact u bE d w' s x f
   .obtain⟨v,R,L⟩:=cg g;refine Qe (fz:=p.fz) hok h hx0 _ (λz e' y=>JR (vT c) e'=aa z.1/\z.2=y) R (λx r hx=>?_) (λe' y hne hO bE d w' s x f=>?_)
    .obtain⟨e,rH,y',U,A,W⟩:=hb x _ hx;rcases W with ⟨rfl,rfl⟩|⟨hne,i,J,rfl⟩
     .exact⟨0,y',⟨rfl,rfl⟩,step U A⟩
     .exact⟨e,y',⟨hne,J,rfl⟩,step U A⟩
    .obtain⟨J,rfl⟩:=hO;rw[Qd J] at L;obtain⟨rfl,rfl⟩:=eN (aI L);exact u bE d w' s x f
 | _=>intro pl σ γ a w e aV Q H g h u;cases g
end
end Go.Ge
namespace Go.Ge
variable [Lp]
open RowKit
def XM(b:Func):Bool:=!(b.name == "runtime.NumGoroutine")&&(match b.body with|some c=>(writes c).all λt=>Nat.blt t b.ntmps|none=>true)
def Qf(cx:Ctx):Prop:=∀f b,find cx.fns f=aa b->XM b=true
def ss{α}{l:List (Nat×α)}{k x}(h:find l k=aa x):(k,x)∈l:=by
 induction l with
 | nil=>cases h
 | cons p r c =>
   obtain⟨i,a⟩:=p;simp only[find] at h;cases b:Nat.beq i k with
   | true =>
     rw[b] at h;obtain rfl:=aI h;obtain rfl:=gx b;exact ri ..
   | false=>rw[b] at h;exact v8 _ (c h)
def aee{cx}(h:(cx.fns.all λp=>XM p.2)=true):Qf cx:=λf c b=>by
 rw[wa] at h;exact h _ (ss b)
section
variable {P:Program} {B:B5} {N:Nat} {γ:Gh} {σ:St} {a:Act} {w:World} {cx:Ctx}
def HM(b:Array Value):ResultVar->Sem Value
 | .tmp t=>pure (b.getD t undef)
 | .cell a t=>do loadVar t (<-asAddr (b.getD a undef))
def Br(e:fN P cx)(h:dy B N γ σ a w){r v}(d:(Hw cx σ r).run=aa v):∃b,(HM a.tmps r).run P w=.ok b w/\cI γ σ.mem w v .val [b]:=by
 cases r with
 | tmp t =>
   obtain rfl:=aI d;exact⟨_,rfl,h.bh t⟩
 | cell t ty =>
   obtain⟨τ,g,i⟩:=bind_some d;obtain rfl:=aI i;obtain⟨u,b,j,rfl,k,l,m⟩:=Un e (x:=.tmp t) h g;refine⟨b,?_,?_⟩
   .have c:a.tmps.getD t undef=.pointer (aa j):=k;simp only[HM,c,asAddr,Sem.run_bind,Sem.run_pure,Result.andThen_ok,l]
   .simpa [St.bu,St.put] using m
def Mt(e:fN P cx)(h:dy B N γ σ a w):∀{rs v},(FK cx σ rs).run=aa v->∃b,b.length=rs.length/\(rs.mapM<|HM a.tmps).run P w=.ok b w/\cI γ σ.mem w v .many b:=by
 intro rs;induction rs with
 | nil=>intro v d;obtain rfl:=aI d;exact⟨[],rfl,rfl,rfl⟩
 | cons r rs g =>
   intro v d;obtain⟨t,i,j⟩:=bind_some d;obtain⟨l,k,m⟩:=bind_some j;obtain rfl:=aI m;obtain⟨c,n,o⟩:=Br e h i;obtain⟨b,p,q,s⟩:=g k;refine⟨c::b,by simp[p],?_,c,b,rfl,o,s⟩;simp only[Zg,Sem.run_bind,n,Result.andThen_ok,q,Sem.run_pure]
def XN fn tmps:results fn tmps=(do
  let vs <-fn.results.toList.mapM (HM tmps)
  pure (if h:vs.toArray.size=1 then vs.toArray[0] else .tuple vs.toArray)):=by
 have h:results fn tmps=(do
   let vs <-fn.results.mapM (HM tmps)
   pure (if h:vs.size=1 then vs[0] else .tuple vs)):=by
  congr 1
 rw[h,Array.mapM_eq_mapM_toList];simp
def zd(j:fN P cx)(h:dy B N γ σ a w){fn v}(d:(results1 cx σ fn.results.toList).run=aa v):∃b,(results fn a.tmps).run P w=.ok b w/\cI γ σ.mem w v .val [b]:=by
 rw[XN];generalize fn.results.toList=rs at d;have many:∀{l},rs.length≠1->(FK cx σ rs).run=aa l->∃b,(do
   let vs <-rs.mapM (HM a.tmps)
   pure (if h:vs.toArray.size=1 then vs.toArray[0] else .tuple vs.toArray):Sem Value).run P w=.ok b w/\cI γ σ.mem w (.BR l) .val [b]:=by
  intro l e k;obtain⟨c,m,n,o⟩:=Mt j h k;refine⟨.tuple c.toArray,?_,c.toArray,rfl,by simpa using o⟩;have:¬c.toArray.size=1:=by simp[m,e]
  simp only[Sem.run_bind,n,Result.andThen_ok,Sem.run_pure,dif_neg this]
 match rs,d with
 | [],d =>
   obtain⟨l,g,i⟩:=bind_some d;obtain rfl:=aI i;exact many aT g
 | [r],d =>
   obtain⟨b,p,q⟩:=Br j h d;refine⟨b,?_,q⟩;simp only[Zg,Sem.run_bind,p];rfl
 | r::s::rs,d =>
   obtain⟨l,g,i⟩:=bind_some d;obtain rfl:=aI i;exact many aT g
def HN{mem}(i:bF B γ mem w){b c}(e:lT γ mem w b c.toList) n :
  dy B (c.size+(n-c.size)) γ (yu mem b) { tmps:=c++Array.replicate (n-c.size) undef,defers:=[] } w where
 bh:=λt=>by
  show cI γ mem w ((b[t]?).getD .undef) .val [_]
  cases g:b[t]? with
  | none=>exact⟨_,rfl⟩
  | some v =>
    have h:t<c.size:=by
     have:=(iy.1 g).1;have d:=e.1;simp at d;omega
    have d:(c++Array.replicate (n-c.size) undef).getD t undef=c[t]:=by
     rw[WX,ahS h,(Array.getElem?_eq_getElem h)];rfl
    rw[d];exact e.2 t v c[t] g aT
 size:=aT
 defers:=rfl
 ok:=i
noncomputable def Qg(c:Ctx)(n d:Nat)(b:Nat->FH):Nat->List cp->St->Tree (cp×St) :=
 λg e σ=>(D6 c n ((d+g+1)*1000) b g e σ.mem).bind λr=>.ret (r.1,{ σ with mem:=r.2 })
def Mu{n nb f gY b mem r}(d:(D6 cx (n+1) nb gY f b mem).run=aa r) :
  ∃e c,find cx.fns f=aa e/\e.body=aa c/\((Ly cx nb (gY f) (Qg cx n nb gY) e c b mem).run=aa r\/∃R,(Zn R b mem<|adD R.2<|Ly cx nb (gY f) (Qg cx n nb gY) e c b).run=aa r):=by
 unfold D6 at d;split at d
 case h_2=>cases d
 rename_i e g;split at d
 case h_2=>cases d
 rename_i c h;refine⟨e,c,g,h,?_⟩;split at d
 .exact .inl d
 .exact .inr ⟨_,d⟩
def EW{nb p inl fn c b mem r}(g:(Ly cx nb p inl fn c b mem).run=aa r) :
  ∃e aV,(js cx nb p.aiu inl c p.marks<|yu mem b).run=aa (e,aV)/\(e=0\/e=1)/\(results1 cx aV fn.results.toList).run=aa r.1/\r.2=aV.mem:=by
 obtain⟨q,h,i⟩:=bind_some g;obtain⟨e,aV⟩:=q;obtain⟨d,j⟩:=ay i;obtain⟨v,k,l⟩:=bind_some j;obtain rfl:=aI l;refine⟨e,aV,h,?_,k,rfl⟩;simp only[Ll] at d;rcases d with d|d
 .exact .inl (gx d)
 .exact .inr (gx d)
def XO{mem}:∀{u vs},cI γ mem w u .many vs->lT γ mem w (FL u) vs:=by
 intro u;induction u with
 | mix p q e c =>
   intro vs h;obtain⟨v,r,rfl,g,j⟩:=h;have:=c j;refine⟨by simp[FL,this.1],λi k y b d=>?_⟩;cases i with
   | zero =>
     obtain rfl:=aI b;obtain rfl:=aI d;exact g
   | succ i=>exact this.2 i k y (by simpa [FL] using b) (by simpa using d)
 | nl=>intro vs h;rw[show vs=[] from h];exact⟨rfl,λi v y b=>by cases b⟩
 | _=>intro vs h;exact h.elim
def U1{mem v x}(h:cI γ mem w v .val [x]):lT γ mem w [v] [x]:=by
 refine⟨rfl,λi d y b c=>?_⟩;cases i with
 | zero =>
   obtain rfl:=aI b;obtain rfl:=aI c;exact h
 | succ i=>cases b
def XP{I}:∀{R y vs},jR w I R y vs->cI ⟨I,λ_=>af⟩ (λ_=>af) w (B0 R y) .many vs:=by
 intro R;induction R with
 | pair t r d c =>
   intro y vs h;obtain⟨e,b,rfl,g,i⟩:=h;exact⟨_,b,rfl,⟨e,g,rfl⟩,c i⟩
 | unit=>intro y vs h;exact h
 | _=>intro y vs h;exact h.elim
def EX{mem R v val}(l:cI γ mem w v .val [val]) :
  ∃c,lT γ mem w (zG R v) c/\∀I y,jR w I R y c->lS w I R y val:=by
 have other:∀{R},(∀t,R≠.pair t .unit)->(∀y,r9 R y=.BR (B0 R y))->∃c,lT γ mem w (match v with|.BR v=>FL v|v=>[v]) c/\∀I y,jR w I R y c->lS w I R y val:=by
  intro R m d;have one:lT γ mem w [v] [val]->∃c,lT γ mem w [v] c/\∀I y,jR w I R y c->lS w I R y val:=by
   intro g;refine⟨[val],g,λI y h=>?_⟩;exfalso;cases R with
   | pair t r =>
     obtain⟨n,i,e,_,j⟩:=h;obtain⟨_,rfl⟩:=adm e;cases r with
     | unit=>exact m t rfl
     | pair a b=>obtain⟨_,_,o,_⟩:=j;cases o
     | _=>exact j.elim
   | unit=>cases h
   | _=>exact h.elim
  cases v with
  | BR u =>
    obtain⟨k,g,j⟩:=l;refine⟨k.toList,XO j,λI y h=>?_⟩;unfold lS;rw[d];exact⟨k,g,XP h⟩
  | _=>exact one (U1 l)
 cases R with
 | pair t r =>
   cases r with
   | unit =>
     refine⟨[val],by cases v<;>exact U1 l,λI y h=>?_⟩;obtain⟨n,i,e,g,j⟩:=h;obtain⟨rfl,_⟩:=adm e;exact⟨n,g,rfl⟩
   | _ =>
     cases v<;>exact other (λp e=>by cases e) (λy=>rfl)
 | _ =>
   cases v<;>exact other (λp e=>by cases e) (λy=>rfl)
def Mv{R F mem r}(c:(adD R F mem).run=aa r):∃q y σ,(F mem).run=aa q/\gB (gX q.2) (chT R) (zG (chT R) q.1)=aa (y,σ)/\r=(r9 (chT R) y,σ.mem):=by
 obtain⟨q,d,b⟩:=bind_some c;split at b
 case h_2=>cases b
 rename_i y σ e;exact⟨q,y,σ,d,e,(aI b).symm⟩
def agL:∀{l i t s},(t,s)∈Zm l i->∃u,s=.d u:=by
 intro l;induction l with
 | nil=>intro i t s h;cases h
 | cons a r b =>
   intro i t s h;rcases fh.1 h with h|h
   .obtain⟨rfl,rfl⟩:=eN h;exact⟨a,rfl⟩
   .exact b h
def Mw{R c mem F r}(d:(Zn R c mem F).run=aa r) :
  ∃(k:Carry) (x:k.ty.den) (v:cp) (mem':Nat->Option Box),Df k (gX mem)/\(F (k.lock<|gX mem).mem).run=aa (v,mem')/\k.out false (gX mem) (adC R.1 v mem')=aa x/\Ui R.1 v R.2.length=true /\
   r=(RC R.1 R.2.length (k.rZ false false (List.range R.2.length) (gX mem) x).bh,(k.rZ false false (List.range R.2.length) (gX mem) x).mem):=by
 unfold Zn at d;split at d
 .cases d
 rename_i m i;obtain⟨x,j,l⟩:=HL d;obtain⟨q,n,e⟩:=bind_some j;obtain⟨o,e⟩:=ay e;refine⟨⟨Zm R.2 0,m,λ_ g=>g⟩,x,q.1,q.2,⟨λt s h=>?_,aeb i,λb x p=>(by cases p)⟩,n,Ms e,o,(aI l).symm⟩;obtain⟨u,rfl⟩:=agL h;trivial
def aef{γ mem w}:∀{m vs},cI γ mem w m .many vs->RB m=vs.length/\∀t u,nth m t=aa u->∃v,vs[t]?=aa v/\cI γ mem w u .val [v]:=by
 intro m;induction m with
 | mix a b _ d =>
   intro vs h;obtain⟨v,r,rfl,e,g⟩:=h;obtain⟨i,j⟩:=d g;refine⟨by simp only[RB,iD,i],λt u c=>?_⟩;cases t with
   | zero=>obtain rfl:=aI c;exact⟨v,rfl,e⟩
   | succ t=>exact j t u c
 | nl=>intro vs h;obtain rfl:vs=[]:=h;exact⟨rfl,λt u c=>(by cases t<;>cases c)⟩
 | _=>intro vs h;exact h.elim
def aa4{γ mem w bh}:∀b i,(∀t v,b[t]?=aa v->cI γ mem w (bh<|i+t) .val [v])->cI γ mem w (aiw bh i b.length) .many b:=by
 intro b;induction b with
 | nil=>intro i h;exact rfl
 | cons v r c =>
   intro i h;refine⟨v,r,rfl,h 0 v rfl,c _ λt u d=>?_⟩;have:=h (t+1) u (by simpa using d)
   rwa [show i+_=i+1+t by omega] at this
def Mx{gY}:∀n nb f d mem r,(D6 cx n nb gY f d mem).run=aa r->∀b g,mem b=aa g->g.lk=true->r.2 b=aa g:=by
 intro n;induction n with
 | zero=>intro nb f d mem r h;cases h
 | succ n m =>
   intro nb f d mem r h b g j l;obtain⟨o,c,z,A,i⟩:=Mu h;have body:∀{mem r},(Ly cx nb (gY f) (Qg cx n nb gY) o c d mem).run=aa r->∀b g,mem b=aa g->g.lk=true->r.2 b=aa g:=by
    intro mem r h b g j l;obtain⟨e,aV,i,C,D,p⟩:=EW h;have:=xH (λf d σ v aV s=>by
     obtain⟨q,t,u⟩:=bind_some s;obtain⟨rfl,rfl⟩:=eN (aI u);exact λb g j l=>m _ _ _ _ q t b g j l) c _ _ _ i
    rw[p];exact this b g j l
   rcases i with i|⟨R,i⟩
   .exact body i b g j l
   .obtain⟨k,x,v,mem',y,_,_,_,rfl⟩:=Mw i;exact Ch (wr:=List.range R.2.length) y b g j l
def My{gY} n nb:∀f c σ v aV,(Qg cx n nb gY f c σ).run=aa (v,aV)->bU σ aV:=by
 intro f c σ v aV d;obtain⟨q,e,g⟩:=bind_some d;obtain⟨rfl,rfl⟩:=eN (aI g);exact λb h i j=>Mx _ _ _ _ _ q e b h i j
def Ci(U:P.follows .mixedOrders=true)(hc:fN P cx){G}(W:pS P G cx)(X:Qf cx){gY} :
  ∀n nb f B γ mem mem' w g A v,B.G=G->bF B γ mem w->lT γ mem w g A.toList->(D6 cx n nb gY f g mem).run=aa (v,mem') ->
  (∃p Y,P.funcs[f]?=aa p/\(p.name == "runtime.NumGoroutine")=false/\p.body=aa Y) /\
  Calls P f A w λe w'=>∃d bE,e=.returned d/\bF B bE mem' w'/\Ext B γ mem w bE mem' w'/\cI bE mem' w' v .val [d]:=by
 intro n;induction n with
 | zero=>intro nb f B γ mem mem' w g A v _ _ _ h;cases h
 | succ n ih =>
   intro nb f B γ mem mem' w g A v hG D T h;subst hG;obtain⟨p,c,h1,h2,E⟩:=Mu h;have F:=X f p h1;simp only[XM,h2,gw,DT,wa] at F;have hP:=hc.fns f p h1;refine⟨⟨p,c,hP,F.1,h2⟩,?_⟩;have Z:yx P B.G (Qg cx n nb gY):=by
    intro B' γ σ aoU w f g A v hG D T hi;obtain⟨q,g1,g2⟩:=bind_some hi;obtain⟨rfl,rfl⟩:=eN (aI g2);obtain⟨k1,k2⟩:=ih _ f B' γ σ.mem q.2 w g A q.1 hG D T g1;exact⟨k1,rfl,k2⟩
   have body:∀{γ mem mem' v},bF B γ mem w->lT γ mem w g A.toList->(Ly cx nb (gY f) (Qg cx n nb gY) p c g mem).run=aa (v,mem') ->
     Calls P f A w λe w'=>∃d bE,e=.returned d/\bF B bE mem' w'/\Ext B γ mem w bE mem' w'/\cI bE mem' w' v .val [d]:=by
    intro γ mem mem' v D T h;obtain⟨e,aV,E,h4,h5,h6⟩:=EW h;subst h6;refine calls_of_wp hP h2 ?_;refine vo U hc W Z (My _ _) c (λt r=>?_) E (HN D T p.ntmps) λbE a' w' s x f=>?_
    .have:=F.2 t r;have:=JL (by simpa [Nat.blt] using this);omega
    .obtain⟨d,r1,r2⟩:=zd hc s h5;have:a'.defers=[]/\∃H,(results p a'.tmps).run P w'=.ok H w'/\∃d bE,Ending.returned H=.returned d/\bF B bE aV.mem w'/\Ext B γ mem w bE aV.mem w'/\cI bE aV.mem w' v .val [d] :=
      ⟨s.defers,d,r1,d,bE,rfl,s.ok,x,r2⟩
     rcases h4 with rfl|rfl
     .exact this
     .exact this
   rcases E with E|⟨R,E⟩
   .exact body D T E
   .obtain⟨k,x,H,i,hk,h4,h5,I,h6⟩:=Mw E;obtain⟨rfl,rfl⟩:=eN h6;have J:(k.lock<|gX mem).mem=wm _ mem:=Gl k _;have Xi:Ext B γ mem w γ (k.lock<|gX mem).mem w:=by rw[J];exact Ext.wm
    have K:∀b z,(k.lock<|gX mem).mem b=aa z->z.lk=true->i b=aa z:=by
     intro b z hb hl;obtain⟨q,y,cH,g4,hg,hq⟩:=Mv h4;obtain⟨e,aV,g3,_,_,g6⟩:=EW g4;have:=xH (λf g σ v aV hi=>My n nb f g σ v aV hi) c _ _ _ g3;rw[(eN hq).2];exact jT hg b z (by show q.2 b=aa z;rw[g6];exact this b z hb hl) hl
    obtain⟨q,y,cH,g4,hg,hq⟩:=Mv h4;obtain⟨hv1,O⟩:=eN hq;refine(body (by rw[J];exact D.wm) (T.ext Xi) g4).mono λe w' hw=>?_;obtain⟨d,WT,rfl,m0,x0,r0⟩:=hw;obtain⟨xs0,u1,u2⟩:=EX (R:=chT R.2) r0;obtain⟨j,s1,y1,y2⟩:=km (a:={ tmps:=#[],defers:=[] }) (N:=0) (σ:=gX q.2) ⟨λt=>⟨_,rfl⟩,rfl,rfl,m0⟩ u1 hg;have m1:bF B j i w':=by rw[O];exact s1.ok
    have x1:Ext B γ (k.lock<|gX mem).mem w j i w':=by rw[O];exact x0.trans y1
    have r1:cI j i w' H .val [d]:=by rw[O,hv1];exact(u2 _ _ y2).rep λ_ _ h=>h
    have fin:∀n (ts:Array Value),ts.size=n->n=R.2.length->(∀t,cI j i w' (spread R.1 H t) .val [ts.getD t undef]) ->
      (∀{o sl},(∀t,cI j o w' (sl t) .val [ts.getD t undef])->cI j o w' (RC R.1 R.2.length sl) .val [d]) ->
      ∃C S,Ending.returned d=.returned C/\bF B S (k.rZ false false (List.range R.2.length) (gX mem) x).mem w'/\Ext B γ mem w S (k.rZ false false (List.range R.2.length) (gX mem) x).mem w' /\
       cI S (k.rZ false false (List.range R.2.length) (gX mem) x).mem w' (RC R.1 R.2.length (k.rZ false false (List.range R.2.length) (gX mem) x).bh) .val [C]:=by
     intro n ts hts hn hr hg;have s0:dy B n γ (gX mem) { tmps:=Array.replicate n undef,defers:=[] } w:=⟨λt=>⟨_,rfl⟩,aT,rfl,D⟩;have s1:dy B n j (adC R.1 H i) { tmps:=ts,defers:=[] } w':=⟨hr,hts,rfl,m1⟩;obtain⟨s2,x2⟩:=vn hk s0 s1 (Xi.trans x1) (λt r=>by
      have r:¬t<n:=λhlt=>by
       have al4:t∈List.range R.2.length:=Ln.2 ah;have:=Cc.2 al4;rw[this] at r;cases r
      rw[TN<|by show ts.size<=t;omega,TN cT]) (λb z hb Uv=>⟨true,K b _ (by rw[J];simp only[wm,show mem b=aa z from hb,Uv,BM]) rfl⟩) h5
     exact⟨d,j,rfl,s2.ok,x2,hg s2.bh⟩
    obtain⟨BR,L⟩:=R;cases BR with
    | false =>
      refine fin 1 #[d] rfl (gx I).symm (λt=>?_) (λh=>h 0);cases t with
      | zero=>exact r1
      | succ t=>exact⟨_,rfl⟩
    | true =>
      cases H with
      | BR m =>
        obtain⟨l,e1,r2⟩:=r1;obtain⟨q1,q2⟩:=aef r2;obtain rfl:d=.tuple l:=vH e1;have WS:l.size=L.length:=by rw[<-(gx I),q1];simp
        refine fin L.length l WS rfl (λt=>?_) (λ{o sl} h=>⟨l,rfl,?_⟩)
        .show cI j i w' (match nth m t with|some u=>u|none=>.undef) .val _
         cases r:nth m t with
         | none=>exact⟨_,rfl⟩
         | some u =>
           obtain⟨v,g1,g2⟩:=q2 t u r;rw[WX,<-ac0,g1];exact g2
        .have:=aa4 l.toList 0 λt v r=>by
          have:=h t;rw[WX,<-ac0,r] at this;rw[BV];exact this
         rwa [show l.toList.length=L.length by rw[<-WS];simp] at this
      | _=>cases I
end
end Go.Ge
