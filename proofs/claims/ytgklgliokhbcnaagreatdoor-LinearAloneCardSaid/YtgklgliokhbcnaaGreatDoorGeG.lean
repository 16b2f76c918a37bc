import Derived.Test.YtgklgliokhbcnaaGreatDoorGeF
import Derived.Scope
set_option linter.unusedVariables false
set_option linter.unusedSimpArgs false
set_option linter.unusedSectionVars false
set_option linter.defProp false
open Option renaming some->aa,none->af
namespace Go.Ge
open RowKit
section
variable {cx:Ctx} {nb:Nat} {bf:List Nat} {inl:Nat->List ch->St->Tree (ch×St)} {ops:Array Oper} {fp:Nat->Fp}
abbrev Gst:=St×(Nat->Bool)
def EG(b:Array Oper)(o:Oper)(s:Gst):Option Bool:=match o.guard with
 | none=>aa true
 | some (g,want)=>match(b[g]?).bind (·.dst) with
   | none=>af
   | some dg=>bif s.2 g then aa false else match s.1.bb dg with
     | .data .bool c=>aa ((show Bool from c)==want)
     | _=>af
def pC(c:Ctx)(d:Nat)(e:List Nat)(inl:Nat->List ch->St->Tree (ch×St))(b:Array Oper)(f:Fp)(i:Nat)(o:Oper)(s:Gst):Option Gst:=match EG b o s with
 | none=>af
 | some true=>(jl c d e inl f o s.1).run.map λσ=>(σ,s.2)
 | some false=>aa (s.1.bt o.dst .undef,kz i s.2)
def akz:St:={ bb:=λ_=>.undef,mem:=λ_=>af }
def UF σ d:σ.bt d .undef=lay σ d [] akz:=by
 cases d with
 | none=>rfl
 | some k=>rfl
def P2{f i o s k}(l:f.KD=false)(h:pC cx nb bf inl ops f i o s=aa k):∃b d τ,EG ops o s=aa b/\k=(lay s.1 o.dst d τ,bif b then s.2 else kz i s.2)/\(∀x∈d,x∈f.wr) /\
  ∀c,EG ops o c=aa b->(b=true->c.1.only (tmpsOf<|iw o.op) f.rd=s.1.only (tmpsOf<|iw o.op) f.rd)->pC cx nb bf inl ops f i o c=aa (lay c.1 o.dst d τ,bif b then c.2 else kz i c.2):=by
 unfold pC at h;cases hd:EG ops o s with
 | none=>rw[hd] at h;cases h
 | some b =>
   rw[hd] at h;cases b with
   | true =>
     obtain⟨aQ,e,rfl⟩:=El.1 h;unfold jl at e;rw[l] at e;obtain⟨τ,m,n⟩:=bind_some e;obtain rfl:=aF n;refine⟨true,f.wr,τ,rfl,rfl,λx g=>g,λc j p=>?_⟩;unfold pC;rw[j];simp only;unfold jl;rw[l];simp;rw[Tree.run_bind,p rfl,m];rfl
   | false =>
     obtain rfl:=aF h;refine⟨false,[],akz,rfl,by rw[UF];rfl,λx g=>(nomatch g),λc j _=>?_⟩;unfold pC;rw[j];rw[UF];rfl
def UG{i j x y f g}(h:BR ops i j x y f g=true):f.KD=false/\g.KD=false/\(∀b∈f.wr,b∉g.rd)/\(∀b∈g.wr,b∉f.rd)/\zm x j=true/\zm y i=true /\
  (∀d,x.dst=aa d->d∉Ep ops y)/\(∀d,y.dst=aa d->d∉Ep ops x)/\(∀d e,x.dst=aa d->y.dst=aa e->d≠e):=by
 simp only[BR,gz,DF] at h;obtain⟨⟨⟨⟨⟨⟨⟨n,o⟩,p⟩,r⟩,s⟩,t⟩,c⟩,l⟩:=h;refine⟨n,o,λb m=>C4 p m,λb m=>C4 r m,s,t,λd k=>?_,λd k=>?_,λd e k u=>?_⟩
 .rw[k] at c;simp at c;exact ko.1 c.1
 .rw[k] at l;simp at l;exact ko.1 l
 .rw[k,u] at c;intro q;subst q;simp at c
def Mh{i o s d wr τ b}(h:zm o i=true)(q:∀k,d=aa k->k∉Ep ops o):EG ops o (lay s.1 d wr τ,bif b then s.2 else kz i s.2)=EG ops o s:=by
 unfold EG;cases c:o.guard with
 | none=>rfl
 | some p =>
   obtain⟨g,n⟩:=p;dsimp only;cases j:(ops[g]?).bind _ with
   | none=>rfl
   | some dg =>
     dsimp only;have l:Nat.beq g i=false:=by
      unfold zm at h;rw[c] at h;simpa using h
     have r:(bif b then s.2 else kz i s.2) g=s.2 g:=by
      cases b with
      | true=>rfl
      | false=>simp only[BF,kz,l,adj]
     have t:(lay s.1 d wr τ).bb dg=s.1.bb dg:=by
      unfold lay;cases d with
      | none=>rfl
      | some k =>
        have m:dg≠k:=λe=>q k rfl (by
         unfold Ep PQ;rw[c];dsimp only;rw[j];subst e;exact qT ..)
        simp[iJ m]
     rw[r,t]
def ad4 σ {h i j l c g} (hd:∀d e,h=aa d->i=aa e->d≠e) (p:∀b∈j,b∉l):lay (lay σ i l g) h j c=lay (lay σ h j c) i l g:=by
 unfold lay
 congr 1
 .cases h with
  | none=>rfl
  | some k =>
    cases i with
    | none=>rfl
    | some e =>
      have m:=hd k e rfl rfl;funext t;by_cases n:t=k
      .subst n;simp[iJ m]
      .by_cases q:t=e
       .simp[iJ n]
       .simp[iJ n]
 .funext b;dsimp only;cases o:cU j b with
  | false=>rfl
  | true =>
    have:=p b (pQ.1 o);simp[ko.2 this]
def Xw{i j g l c m s s1 s2}(n:BR ops i j g l c m=true)(p:∀b∈c.wr,b∈c.rd)(C:pC cx nb bf inl ops c i g s=aa s1)(D:pC cx nb bf inl ops m j l s1=aa s2) :
  ∃d,pC cx nb bf inl ops m j l s=aa d/\pC cx nb bf inl ops c i g d=aa s2:=by
 obtain⟨E,F,G,t,H,I,u,v,J⟩:=UG n;obtain⟨K,Z,L,O,R,x,S⟩:=P2 E C;subst R;obtain⟨T,wj,U,y,W,z,X⟩:=P2 F D;subst W;rw[Mh I u] at y;have A:∀{o k},k∉Ep ops o->k∉tmpsOf _:=λh Y=>h (Ad _ Y);refine⟨_,(X s y λ_=>(F2 (λk q=>A (u k q)) λb e=>G b (x b e)).symm),?_⟩;rw[(S _ (by rw[Mh H v];exact O) λ_=>F2 (λk q=>A (v k q)) λb e=>t b (z b e))]
 congr 1
 refine Prod.ext (ad4 s.1 J λb e r=>t b (z b r) (p b<|x b e)) ?_
 .dsimp only;cases K<;>cases T<;>first|rfl|skip
  simp;funext k;simp only[kz];cases Nat.beq k i<;>cases Nat.beq k j<;>rfl
def R0(c:Ctx)(d:Nat)(e:List Nat)(inl:Nat->List ch->St->Tree (ch×St))(b:Array Oper)(g:Nat->Fp)(Q:Gst->Prop):Nat->Array Bool->Gst->Prop
 | 0,listed,s=>Region.ready .any b listed=[]/\Q s
 | n+1,listed,s=>(Region.ready .any b listed=[]->Q s) /\
  ∀i∈Region.ready .any b listed,∃o h,b[i]?=aa o/\pC c d e inl b (g i) i o s=aa h/\R0 c d e inl b g Q n (listed.setIfInBounds i true) h
variable {Q:Gst->Prop}
def Xx{i p}(D:ops[i]?=aa p)(u:∀b∈(fp i).wr,b∈(fp i).rd):∀n c s q,
  RX ops c->(∀j r,ops[j]?=aa r->j≠i->c.getD j true=false->Reach ops j i\/BR ops i j p r (fp i) (fp j)=true) ->
  i∈Region.ready .any ops c->pC cx nb bf inl ops (fp i) i p s=aa q->R0 cx nb bf inl ops fp Q n (c.setIfInBounds i true) q->R0 cx nb bf inl ops fp Q (n+1) c s:=by
 intro n;induction n with
 | zero =>
   intro c s q e g m A H;refine⟨λh=>(by rw[h] at m;cases m),λj t=>?_⟩;by_cases d:j=i
   .subst d;exact⟨p,q,D,A,H⟩
   .have:=ready_mono t d;rw[H.1] at this;cases this
 | succ n G =>
   intro c s q e g m A H;refine⟨λh=>(by rw[h] at m;cases m),λj t=>?_⟩;by_cases d:j=i
   .subst d;exact⟨p,q,D,A,H⟩
   .obtain⟨r,I,v,J,K⟩:=H.2 j (ready_mono t d);obtain⟨l,L,E,F⟩:=mem_ready.1 t;have o:BR ops i j p r (fp i) (fp j)=true:=by
     rcases g j r v d l with O|o
     .exact(UE (mem_ready.1 m).1<|O.ready e t).elim
     .exact o
    obtain⟨x,R,S⟩:=Xw o u A J;refine⟨r,x,v,R,G _ x I (e.list t) (λk T U C y=>g k T U C ?_) (ready_mono m<|IM d) S ?_⟩
    .by_cases z:j=k
     .subst z;exact l
     .rw[getD_set_ne true z] at y;exact y
    .rw[ah3 _ _ d];exact K
end
end Go.Ge
namespace Go.Ge
open RowKit
section
variable {P:Program} {B:BT} {N:Nat} {γ:Gh} {cx:Ctx} {nb:Nat} {bf:List Nat} {inl:Nat->List ch->St->Tree (ch×St)} {σ aQ:St} {ops:Array Oper} {fp:Nat->Fp}
def ad5{b:St}{d v}(h:b.bb d=v):b.put d v=b:=by
 unfold St.put
 congr 1
 funext t;cases c:Nat.beq t d with
 | true=>obtain rfl:=gA c;exact h.symm
 | false=>rfl
def agJ(d:Ctx)(g:Nat)(h:List Nat)(inl:Nat->List ch->St->Tree (ch×St))(b:Array Oper)(c:Nat->Fp):Nat->List Oper->Gst->Gst->Prop
 | _,[],s,s'=>s=s'
 | k,o::l,s,s'=>(((c k).KD=false->UB d g o (c k))/\((c k).KD=true->(c k).wr=[]))/\(∀e∈o.after,Region.binds .any e=true->e.on<k) /\
  (∀j i,l[j]?=aa i->Reach b (k+1+j) k\/BR b k (k+1+j) o i (c k) (c<|k+1+j)=true) /\
  ∃m,pC d g h inl b (c k) k o s=aa m/\agJ d g h inl b c (k+1) l m s'
def Ja{i o f b k m mk ok r}(h:Er ops i o f m ((k,ok,b,mk)::r)=true):(Nat.testBit m k=true\/BR ops k i ok o b f=true)/\Er ops i o f m r=true:=by
 simp only[Er,gz,Li] at h;exact h
def Mi{i o r done d}(h:(wU cx nb bf inl ops ((i,o)::r) done σ d).run=aa aQ) :
  ∃l,Er ops i o (BQ cx nb o σ) (mask done o) done=true/\(∀e∈o.after,Region.binds .any e=true->e.on<i)/\pC cx nb bf inl ops (BQ cx nb o σ) i o (σ,d)=aa l /\
   (wU cx nb bf inl ops r ((i,o,BQ cx nb o σ,mask done o)::done) l.1 l.2).run=aa aQ:=by
 simp only[wU] at h;obtain⟨z,k⟩:=ay h;simp only[gz] at z;obtain⟨x,s⟩:=z;have p:∀e∈o.after,Region.binds .any e=true->e.on<i:=λe A C=>by
  rw[<-Array.all_toList,vN] at s;have:=s e (by simpa using A);rw[C] at this;have:=JH (by simpa [Nat.blt] using this);omega
 suffices ∃l,pC cx nb bf inl ops _ i o _=aa l/\(wU cx nb bf inl ops r _ l.1 l.2).run=aa aQ by
  obtain⟨l,D,E⟩:=this;exact⟨l,x,p,D,E⟩
 split at k
 .rename_i v;obtain⟨bL,q,t⟩:=bind_some k;refine⟨(bL,d),?_,t⟩;have hd:EG ops o (σ,d)=aa true:=by unfold EG;rw[v]
  unfold pC;rw[hd];rw[q];rfl
 .rename_i g b v;split at k
  .cases k
  .rename_i F u;cases m:d g with
   | true =>
     rw[m] at k;refine⟨(σ.bt o.dst .undef,kz i d),?_,k⟩;have hd:EG ops o (σ,d)=aa false:=by unfold EG;rw[v];dsimp only;rw[u];rw[m];rfl
     unfold pC;rw[hd]
   | false =>
     rw[m] at k;split at k
     .rename_i c j;change Bool at c;have hn:=gG k;have hd:EG ops o (σ,d)=aa (c==b):=by unfold EG;rw[v];dsimp only;rw[u];rw[m];simp;rw[j]
      have n:=ad5 j;have run:∀{bL},(jl cx nb bf inl (BQ cx nb o σ) o σ).run=aa bL->(c==b)=true->pC cx nb bf inl ops _ i o _=aa (bL,d):=λq y=>by
       unfold pC;rw[hd,y];rw[q];rfl
      have skip:(c==b)=false->pC cx nb bf inl ops (BQ cx nb o σ) i o _=aa _:=λy=>by
       unfold pC;rw[hd,y]
      cases c with
      | true =>
        rw[n] at hn;cases b with
        | true=>obtain⟨bL,q,t⟩:=bind_some hn;exact⟨(bL,d),run q rfl,t⟩
        | false=>exact⟨_,skip rfl,hn⟩
      | false =>
        rw[n] at hn;cases b with
        | true=>exact⟨_,skip rfl,hn⟩
        | false=>obtain⟨bL,q,t⟩:=bind_some hn;exact⟨(bL,d),run q rfl,t⟩
     .cases k
def OQ:∀l k c σ n,(∀j o,l[j]?=aa o->ops[k+j]?=aa o)->ud ops c->(wU cx nb bf inl ops (number k l) c σ n).run=aa aQ ->
  ∃(g:List (Fp×Nat)) (i:Nat->Bool),g.length=l.length/\(∀j m b,g[j]?=aa m->Nat.testBit m.2 b=true->Reach ops (k+j) b) /\
   ∀fp,(∀j f,g[j]?=aa f->fp (k+j)=f.1)->agJ cx nb bf inl ops fp k l (σ,n) (aQ,i)/\∀j o f,l[j]?=aa o->g[j]?=aa f->Er ops (k+j) o (fp<|k+j) f.2 c=true:=by
 intro l;induction l with
 | nil =>
   intro k c σ n _ _ h;obtain rfl:=aF h;exact⟨[],n,rfl,λj m b h=>absurd h aS,λfp _=>⟨rfl,λj o f d=>absurd d aS⟩⟩
 | cons o l D =>
   intro k c σ n v x h;obtain⟨t,E,F,G,H⟩:=Mi h;have y:=v 0 o rfl;obtain⟨g,i,z,A,I⟩:=D _ _ t.1 t.2 (λj u d=>by have:=v (j+1) u (by simpa using d);rw[<-this];congr 1;omega) (x.cons y) H;refine⟨(BQ cx nb o σ,mask c o)::g,i,by simp[z],λj m b d e=>?_,λfp p=>?_⟩
   .cases j with
    | zero=>obtain rfl:=aF d;exact EF x y e
    | succ j=>have:=A j m b (by simpa using d) e;rw[show k+_=k+1+j by omega];exact this
   have r:fp k=BQ cx nb o σ:=p 0 _ rfl;obtain⟨J,C⟩:=I fp λj f d=>by have:=p (j+1) f (by simpa using d);rw[<-this];congr 1;omega
   refine⟨⟨⟨λe=>by rw[r] at e⊢;exact KK o σ e,λe=>by rw[r] at e⊢;exact ad2 o σ e⟩,F,λj K d=>?_,t,by rw[r];exact G,J⟩,λj u f d s=>?_⟩
   .obtain⟨f,s⟩:∃f,g[j]?=aa f:=⟨_,fX (by rw[z];exact(hR.1 d).1)⟩;rcases(Ja<|C j K f d s).1 with q|q
    .exact .inl (A j f k s q)
    .rw[r];exact .inr q
   .cases j with
    | zero =>
      obtain rfl:=aF d;obtain rfl:=aF s;rw[Fm,r];exact E
    | succ j =>
      have:=(Ja<|C j u f (by simpa using d)<|by simpa using s).2;rw[show k+_=k+1+j by omega];exact this
def ad6{s'}:∀l k c s,(∀j,l[j]?=ops[k+j]?)->c.size=ops.size->(∀j,j<k->j<ops.size->c.getD j false=true) ->
  (∀j,k<=j->j<ops.size->c.getD j true=false)->RX ops c->agJ cx nb bf inl ops fp k l s s'->R0 cx nb bf inl ops fp (·=s') l.length c s:=by
 intro l;induction l with
 | nil =>
   intro k c s x hs y D d h;refine⟨?_,h⟩;cases J:Region.ready .any ops c with
   | nil=>rfl
   | cons i r =>
     obtain⟨E,o,G,_⟩:=mem_ready.1 (by rw[J];exact qT ..);have n:=(wL.1 G).1;rcases rR i k with v|v
     .have:=y i v n;simp[hs,n] at this E;rw[this] at E;cases E
     .have:=x (i-k);rw[show k+_=i by omega,G] at this;cases this
 | cons o l K =>
   intro k c s x hs y D d h;have v:ops[k]?=aa o:=by simpa using(x 0).symm
   have n:=(wL.1 v).1;obtain⟨H,L,O,I,R,S⟩:=h;have g:=mem_ready.2 ⟨D k (bX _) n,o,v,λe T z=>by
    have:=L e T z;exact y e.on this ag⟩
   refine Xx v (λb z=>by
    cases p:(fp k).KD with
    | true=>rw[H.2 p] at z;cases z
    | false=>exact(H.1 p).sub b z) l.length c s I d (λj U C W t=>?_) g R (K _ _ I (λj=>?_) (by simp[hs]) (λj C u=>?_) (λj C u=>?_) (d.list g) S)
   .have q:=(wL.1 C).1;rcases rR j k with A|A
    .exfalso;have:=y j A q;simp[hs,q] at this t;rw[this] at t;cases t
    .have F:=x (j-k);rw[show k+_=j by omega,C] at F;obtain⟨m,X⟩:∃m,j-k=m+1:=⟨j-k-1,ag⟩;rw[X] at F;have:=O m U (by simpa using F);rw[show k+1+m=j by omega] at this;exact this
   .have:=x (j+1);rw[show k+1+j=k+(j+1) by omega,<-this];simp
   .by_cases e:j=k
    .subst e;simp[hs,n]
    .rw[getD_set_ne false<|IM e];exact y j ag u
   .rw[getD_set_ne true (by omega:k≠j)];exact D j ag u
def Mj(c:∀f d σ v aQ,(inl f d σ).run=aa (v,aQ)->bW σ aQ):∀l k b σ aQ g,(wU cx nb bf inl ops (number k l) b σ g).run=aa aQ->bW σ aQ:=by
 intro l;induction l with
 | nil=>intro k b σ aQ g h;obtain rfl:=aF h;apply bW.refl
 | cons o l i =>
   intro k b σ aQ g h;obtain⟨n,p,q,e,j⟩:=Mi h;refine bW.trans ?_ (i _ _ _ _ _ j);unfold pC at e;split at e
   .cases e
   .obtain⟨bL,m,rfl⟩:=El.1 e;exact B4 c bL (C3 (KK o σ) m)
   .obtain rfl:=aF e;apply bW.bt
end
end Go.Ge
namespace Go.Ge
open RowKit
section
variable {P:Program} {B:BT} {N:Nat} {γ:Gh} {cx:Ctx} {nb:Nat} {bf:List Nat} {inl:Nat->List ch->St->Tree (ch×St)} {σ aQ:St} {ops:Array Oper} {fp:Nat->Fp}
def Xy{l:List Oper}{j:Nat}{o}{d:Nat}(h:l[j]?=aa o)(b:o.dst=aa d):d∈oG.Hl l:=by
 induction l generalizing j with
 | nil=>cases h
 | cons p l c =>
   cases j with
   | zero=>obtain rfl:=aF h;simp only[oG.Hl,b];exact qT ..
   | succ j =>
     have:=c (by simpa using h);simp only[oG.Hl];split
     .exact vK _ this
     .exact this
def Mk:∀{l},oG l=true->∀{i j:Nat} {x y} {d:Nat},i<j->l[i]?=aa x->l[j]?=aa y->x.dst=aa d->y.dst≠aa d:=by
 intro l;induction l with
 | nil=>intro _ i j x y d _ h;cases h
 | cons p l n =>
   intro h i j x y d o e q g k;simp only[oG,gz] at h;obtain⟨m,rfl⟩:∃m,j=m+1:=⟨j-1,ag⟩;have b:l[m]?=aa y:=by simpa using q
   cases i with
   | zero =>
     obtain rfl:=aF e;have c:=h.1;rw[g] at c;simp at c;exact ko.1 c (Xy b k)
   | succ i=>exact n h.2 (i:=i) ag (by simpa using e) b g k
def Xz(h:oG ops.toList=true){i j:Nat}{x y}{d:Nat}(b:i≠j)(e:ops[i]?=aa x)(g:ops[j]?=aa y)(k:x.dst=aa d):y.dst≠aa d:=by
 rcases Nat.lt_or_gt_of_ne b with c|c
 .exact Mk h c (by simpa using e) (by simpa using g) k
 .intro l;exact Mk h c (by simpa using g) (by simpa using e) l k
def XA(c:Array Oper)(d:Nat->Bool)(b:Array Bool)(a:Act):Prop:=∀k,d k=true->yielded c a.tmps k=af/\b.getD k true=true
def yj{a:Act}{i k o v}(b:oG ops.toList=true)(d:ops[i]?=aa o)(c:k≠i):yielded ops (a.put o.dst v).tmps k=yielded ops a.tmps k:=by
 unfold yielded;cases e:ops[k]? with
 | none=>rfl
 | some y =>
   simp;cases hd:y.dst with
   | none=>rfl
   | some g =>
     simp;have:=Xz b c e d hd;rw[gk this]
def XA.run{d listed a i o v}(h:XA ops d listed a)(c:oG ops.toList=true)(l:ops[i]?=aa o)(g:listed.getD i true=false):XA ops d (listed.setIfInBounds i true) (a.put o.dst v):=λk m=>by
 obtain⟨n,j⟩:=h k m;have b:k≠i:=λe=>by subst e;rw[j] at g;cases g
 exact⟨by rw[yj c l b];exact n,by rw[getD_set_ne true<|IM b];exact j⟩
def XA.skip{c listed a i o}(h:XA ops c listed a)(d:oG ops.toList=true)(g:ops[i]?=aa o)(m:listed.getD i true=false):XA ops (kz i c) (listed.setIfInBounds i true) (a.put o.dst Go.undef):=λk j=>by
 by_cases b:k=i
 .subst b;refine⟨FY g,?_⟩;rcases rR k listed.size with l|l
  .simp
  .simp[TB l] at m
 .have e:c k=true:=by
   simp only[kz,iJ b] at j;exact j
  obtain⟨n,p⟩:=h k e;exact⟨by rw[yj d g b];exact n,by rw[getD_set_ne true<|IM b];exact p⟩
def OR(hc:fi P cx)(D:nZ P B.G cx)(E:xa P B.G inl){Q}(F:oG ops.toList=true)(K:∀i o,ops[i]?=aa o->(fp i).KD=false->UB cx nb o (fp i))
  (hd:∀o∈ops.toList,∀k,o.dst=aa k->k<N):∀n d s γ a w,R0 cx nb bf inl ops fp (λs=>s.1=aQ) n d s->dm B N γ s.1 a w->XA ops s.2 d a ->
   (∀bz L w',dm B N bz aQ L w'->Ext B γ s.1.mem w bz aQ.mem w'->Fr (number 0 ops.toList) a L->Q .normal L w')->wpAny P .any ops Q n d a w:=by
 intro n;induction n with
 | zero =>
   intro d s γ a w h hs r y;obtain⟨u,O⟩:=h;rw[<-O] at y;exact⟨u,y γ a w hs (Ext.refl _ _ _ _) λt _=>rfl⟩
 | succ n ih =>
   intro d s γ a w h hs r y;refine⟨λh0=>?_,λi hi=>?_⟩
   .have O:=h.1 h0;rw[<-O] at y;exact y γ a w hs (Ext.refl _ _ _ _) λt _=>rfl
   .obtain⟨o,s1,u,H,h4⟩:=h.2 i hi;have I:=(mem_ready.1 hi).1;have x:o∈ops.toList:=by
     have:=acX u;simpa using this
    have j:(i,o)∈number 0 ops.toList:=by
     have:=Mf (l:=ops.toList) (k:=0) (by simpa using u);simpa using this
    have hw:∀b,EG ops o s=aa b->Region.wanted o (yielded ops a.tmps)=b:=by
     intro b e;unfold EG at e;cases m:o.guard with
     | none =>
       rw[m] at e;obtain rfl:=aF e;unfold Region.wanted;rw[m]
     | some p =>
       obtain⟨g,J⟩:=p;rw[m] at e;dsimp only at e;split at e
       .cases e
       .rename_i dg R;cases S:s.2 g with
        | true =>
          rw[S] at e;obtain rfl:=aF e;unfold Region.wanted;rw[m];simp only[(r g S).1];rfl
        | false =>
          rw[S] at e;split at e
          .rename_i c z;obtain rfl:=aF e;have A:=I7 hs z;unfold Region.wanted;rw[m];simp only[yielded,R,PJ,A];cases c<;>cases J<;>rfl
          .cases e
    unfold wpOp;rw[u];dsimp only;unfold pC at H;split at H
    .cases H
    .rename_i q;obtain⟨bL,q1,rfl⟩:=El.1 H;rw[hw true q];refine .inl (LZ hc D E hs (hd o x) (C3 (K i o u) q1) λT v w1 s1 x1=>?_);refine ih _ _ T _ w1 h4 s1 (r.run F u I) λC U W X Y Z=>y C U W X (x1.trans Y) λt A=>?_;rw[Z t A,gk (Mg A j)]
    .rename_i q;obtain rfl:=aF H;rw[hw false q];have hm:(s.1.bt o.dst .undef).mem=s.1.mem:=by cases o.dst<;>rfl
     refine ih _ _ γ _ w h4 (hs.wW (hd o x) ⟨_,rfl⟩) (r.skip F u I) λC U W X Y Z=>y C U W X (by rw[<-hm];exact Y) λt A=>?_;rw[Z t A,gk (Mg A j)]
def R0.mono{Q Q'}(b:∀s,Q s->Q' s):∀{n listed s},R0 cx nb bf inl ops fp Q n listed s->R0 cx nb bf inl ops fp Q' n listed s:=by
 intro n;induction n with
 | zero=>intro listed s h;exact⟨h.1,b _ h.2⟩
 | succ n c =>
   intro listed s h;refine⟨λd=>b _ (h.1 d),λi e=>?_⟩;obtain⟨o,g,j,k,l⟩:=h.2 i e;exact⟨o,g,j,k,c l⟩
def F3(c:P.follows .mixedOrders=true)(v:fi P cx)(d:nZ P B.G cx)(g:xa P B.G inl){Q id a w}(n:oG ops.toList=true)
  (y:∀o∈ops.toList,∀k,o.dst=aa k->k<N) (z:(wU cx nb bf inl ops (number 0 ops.toList) [] σ λ_=>false).run=aa aQ) (h:dm B N γ σ a w)
  (A:∀bz m w',dm B N bz aQ m w'->Ext B γ σ.mem w bz aQ.mem w'->Fr (number 0 ops.toList) a m->Q .normal m w'):(Code.region id ops true).wp P Q a w:=by
 refine wp_region_any c ?_;obtain⟨C,D,R,S,E⟩:=OQ ops.toList 0 [] σ _ (λj o b=>by simpa using b) ud.nil z
 let fp:Nat->Fp:=λi=>(C[i]?.map (·.1)).getD ⟨[],[],true,af⟩
 obtain⟨t,_⟩:=E fp λj f b=>by simp[fp,b]
 have key:∀l k s s',agJ cx nb bf inl ops fp k l s s'->∀j o,l[j]?=aa o->(fp<|k+j).KD=false->UB cx nb o (fp<|k+j):=by
  intro l;induction l with
  | nil=>intro k s s' _ j o b;cases b
  | cons o l F =>
    intro k s s' H j I b;obtain⟨J,T,U,p,W,K⟩:=H;cases j with
    | zero=>obtain rfl:=aF b;exact J.1
    | succ j=>rw[show k+_=k+1+j by omega];exact F _ p s' K j I (by simpa using b)
 have L:=ad6 (s':=_) ops.toList 0 (Array.replicate ops.size false) _ aS aS (λj b=>ag)
  (λj _ b=>by simp[b]) (λi o e q=>by
   rcases rR i ops.size with u|u<;>simp[u] at q) t
 have r:=R0.mono (Q':=λs=>s.1=aQ) (λs hs=>by rw[hs]) L;obtain⟨p,O⟩:=h.draw _;refine OR v d g n (λi o q=>by have:=key _ 0 _ _ t i o (by simpa using q);simpa using this) y _ _ _ γ a _ (by simpa using r) p Bz λbz m w' s x f=>A bz m w' s (O.trans x) f
def UH(b:P.follows .mixedOrders=true)(z:fi P cx)(c:nZ P B.G cx)(g:xa P B.G inl)(m:∀f p σ v aQ,(inl f p σ).run=aa (v,aQ)->bW σ aQ){Q id a w}
  (s:∀o∈ops.toList,∀k,o.dst=aa k->k<N) (q:(zn cx nb bf inl ops σ).run=aa aQ) (h:dm B N γ σ a w)
  (A:∀bz C w',dm B N bz aQ C w'->Ext B γ σ.mem w bz aQ.mem w'->Fr (number 0 ops.toList) a C->Q .normal C w'):(Code.region id ops true).wp P Q a w:=by
 unfold zn at q;cases J:ops.any λo=>o.guard.isSome with
 | true =>
   rw[J] at q;obtain⟨r,j⟩:=ay q;split at j
   .exact F3 b z c g r s j h A
   .rename_i d t l;rw[Tree.wQ] at j;obtain⟨x,hn,D⟩:=BC.1 j;obtain⟨τ,K,E⟩:=bind_some hn;split at E
    case h_2=>exact absurd E cg
    rename_i Z F;obtain rfl:=aF E;obtain rfl:=aF D;have T:∀k,aa d=aa k->k<N:=λk U=>by
     obtain rfl:=aF U;unfold T4 at l;split at l
     case h_2=>cases l
     rename_i o W;split at l
     case h_2=>cases l
     rename_i L t' H _;cases O:cU bf (8700000+L) with
     | false=>rw[O] at l;cases l
     | true =>
       rw[O] at l;obtain⟨rfl,rfl⟩:=eh (aF l);exact s o (by simpa using Array.mem_of_back? W) L H
    refine F3 b z c g r s K h.gE λn X I u Y R=>?_;obtain⟨m1,S⟩:=h.ok.unlock (FW<|Mj m _ _ _ _ _ _ K) u.ok Y;have y:=(h.go S m1).undef R u.size u.defers;refine A n X I ⟨λi=>?_,y.size,y.defers,y.ok⟩ ?_ R
    .by_cases e:i=d
     .subst e;have:=RM F (u.bb i) (mem':=(σ.undef<|number 0 ops.toList).mem);simpa [St.bt,St.put] using this
     .show cu n _ I (bif Nat.beq i d then _ else(σ.undef _).bb i) _ _
      rw[iJ e];exact y.bb i
    show Ext B γ σ.mem w n (σ.undef _).mem I
    rw[rq];exact S
 | false =>
   rw[J] at q;exact RZ b z c g s q h A
end
end Go.Ge
namespace Go.Ge
open RowKit
def vT(f:Nat->Box->Bool)(c:Nat->Option Box):Nat->Option Box:=λb=>match c b with|some d=>aa { d with lk:=f b d }|none=>af
section
variable {P:Program} {B:BT} {N:Nat} {γ WH:Gh} {mem m0 me m1:Nat->Option Box} {w w0:World} {f:Nat->Box->Bool}
def P3{b c}(h:mem b=aa c):vT f mem b=aa { c with lk:=f b c }:=by simp[vT,h]
def UI{b d}(h:vT f mem b=aa d):∃c,mem b=aa c/\d={ c with lk:=f b c }:=by
 simp only[vT] at h;split at h
 .rename_i c e;exact⟨c,e,(aF h).symm⟩
 .cases h
def Ext.vT:Ext B γ mem w γ (vT f mem) w where
 below:=vD.refl _ _
 I:=λ_ _ h=>h
 qV:=λ_ _ h=>.inl h
 cells:=λ_ _ _=>rfl
 boxes:=λb d c=>⟨_,P3 c,bX _,λ_=>⟨rfl,rfl,rfl⟩⟩
def bC.vT(h:bC B γ mem w):bC B γ (Go.Ge.vT f mem) w:=by
 have g:∀{b},Go.Ge.vT f mem b≠af->mem b≠none:=by
  intro b e m;apply e;simp[Go.Ge.vT,m]
 exact
  { tf:=h.tf
    base:=h.base
    boxes:=λb n e=>by
     obtain⟨i,h0,rfl⟩:=UI e;exact(h.boxes b i h0).keep (Ext.vT (B:=B)) rfl (λ_ _ _=>rfl)
    inj:=λb c d k o e p j q=>h.inj b c d k o (g e) (g p) j q
    fresh:=λb d k e j=>h.fresh b d k (g e) j
    te:=h.te
    sep:=λb n d k l e j r=>by
     obtain⟨i,h0,rfl⟩:=UI e;exact h.sep b i d k l h0 j r }
def dm.vT{σ a}(h:dm B N γ σ a w):dm B N γ { σ with mem:=Go.Ge.vT f σ.mem } a w:=h.go Ext.vT h.ok.vT
def Mid(g h i:Nat->Option Box):Prop:=∀b d,g b=aa d->∃c,i b=aa c/\d.aM<=c.aM /\
 (c.aM=d.aM->∃e,h b=aa e/\e.aM=d.aM/\e.buf=c.buf/\e.row=c.row)
def nT.down(l:Mid m0 me m1){b aM m K i}(n:nT m0 b aM m)(h:nT me b aM K)(o:∀d c,d.buf=c.buf->d.row=c.row->K d->i c):nT m1 b aM i:=by
 obtain⟨g,p,x,_⟩:=n;obtain⟨d,q,y,r⟩:=h;obtain⟨c,s,z,t⟩:=l b g p;refine⟨c,s,ag,λe=>?_⟩;obtain⟨j,k,A,u,v⟩:=t ag;rw[q] at k;obtain rfl:=aF k;exact o d c u v (r ag)
def cu.down(d:Mid m0 me m1):∀{v m us vs},cu WH m0 w0 v m us->cu γ me w v m vs->cu γ m1 w v m vs:=by
 intro v;induction v with
 | undef=>intro m us vs _ r;cases m<;>exact r
 | data t x=>intro m us vs _ r;cases m<;>exact r
 | pN=>intro m us vs _ r;cases m<;>exact r
 | uO=>intro m us vs _ r;cases m<;>exact r
 | cell t x=>intro m us vs _ r;cases m<;>exact r
 | nl=>intro m us vs _ r;cases m<;>exact r
 | uP=>intro m us vs _ r;cases m<;>exact r
 | ya b aM =>
   intro m us vs c r;cases m with
   | many=>exact r
   | cells=>exact⟨r.1,c.2.down d r.2 λ_ _ _ _ k=>k⟩
   | val=>exact⟨r.1,c.2.down d r.2 λ_ _ _ _ k=>k⟩
 | ptr b aM p =>
   intro m us vs c r;cases m with
   | many=>exact r
   | cells=>exact⟨r.1,c.2.down d r.2 λ_ _ _ _ k=>k⟩
   | val=>exact⟨r.1,c.2.down d r.2 λ_ _ _ _ k=>k⟩
 | whole b aM =>
   intro m us vs c r;cases m with
   | many=>exact r
   | cells=>exact⟨r.1,c.2.down d r.2 λ_ _ l o k=>by rw[<-l,<-o];exact k⟩
   | val=>exact⟨r.1,c.2.down d r.2 λ_ _ l o k=>by rw[<-l,<-o];exact k⟩
 | part b aM lo n =>
   intro m us vs c r;cases m with
   | many=>exact r
   | cells=>exact⟨r.1,c.2.down d r.2 λ_ _ l o k=>by unfold FB at k⊢;rw[<-l,<-o];exact k⟩
   | val=>exact⟨r.1,c.2.down d r.2 λ_ _ l o k=>by unfold FB at k⊢;rw[<-l,<-o];exact k⟩
 | win b aM q e k lo n =>
   intro m us vs c r;cases m with
   | many=>exact r
   | cells=>exact⟨r.1,c.2.down d r.2 λ_ _ l o k=>k⟩
   | val=>exact⟨r.1,c.2.down d r.2 λ_ _ l o k=>k⟩
 | fn f H =>
   intro m us vs c r;cases m with
   | many=>exact r
   | cells=>obtain⟨_,_,_,s⟩:=c;obtain⟨g,h,j,G⟩:=r;exact⟨g,h,j,λi b aM A=>(s i b aM A).down d (G i b aM A) λ_ _ _ _ k=>k⟩
   | val=>obtain⟨_,_,_,s⟩:=c;obtain⟨g,h,j,G⟩:=r;exact⟨g,h,j,λi b aM A=>(s i b aM A).down d (G i b aM A) λ_ _ _ _ k=>k⟩
 | mix a b y z =>
   intro m us vs c r;cases m with
   | cells=>obtain⟨_,_,_,C,D⟩:=c;obtain⟨E,F,c,h,j⟩:=r;exact⟨E,F,c,y C h,z D j⟩
   | val=>obtain⟨_,_,_,C,D⟩:=c;obtain⟨E,F,c,h,j⟩:=r;exact⟨E,F,c,y C h,z D j⟩
   | many=>obtain⟨_,_,_,C,D⟩:=c;obtain⟨E,F,c,h,j⟩:=r;exact⟨E,F,c,y C h,z D j⟩
 | BI u I =>
   intro m us vs c r;cases m with
   | val=>obtain⟨_,_,s⟩:=c;obtain⟨g,h,j⟩:=r;exact⟨g,h,I s j⟩
   | cells=>exact r
   | many=>exact r
def ad7(M:Nat->Bool)(V:Nat->Bool->Bool)(e g h:Nat->Option Box):Prop:=∀b c,e b=aa c->∃d P4,g b=aa d/\h b=aa P4/\d.buf=c.buf/\P4.buf=c.buf/\P4.row=d.row /\
 P4.aM=(bif M b&&V b c.buf then c.aM+1 else c.aM)/\((M b&&V b c.buf)=false->d.aM=c.aM)
def ad7.mid{M V}(h:ad7 M V m0 me m1):Mid m0 me m1:=λb c l=>by
 obtain⟨i,d,m,k,n,o,p,g,q⟩:=h b c l;cases j:(M b&&V b c.buf) with
 | true =>
   rw[j] at g;simp at g;exact⟨d,k,ag,λe=>absurd e ag⟩
 | false =>
   rw[j] at g;simp at g;exact⟨d,k,ag,λe=>⟨i,m,q j,n.trans o.symm,p.symm⟩⟩
def Ml:Sh->ch->Prop
 | .d _,_=>True
 | .k v,u=>v=u
 | .m a b,u=>∃p q,u=.mix p q/\Ml a p/\Ml b q
def agK v:Ml (ago v) v:=by
 induction v with
 | mix a b c d=>exact⟨a,b,rfl,c,d⟩
 | data t x=>trivial
 | _=>rfl
def ad8{t v y}(h:toD t v=aa y){m vs}(b:cu γ me w v m vs):cu γ m1 w (.data t y) m vs:=by
 unfold toD at h;split at h
 .obtain⟨q,c⟩:=Ty.lO h;subst q;subst c;cases m<;>exact b
 .split at h
  .obtain rfl:=aF h;cases m with
   | many=>exact b
   | cells=>exact .inl ⟨⟨af,b⟩,rfl⟩
   | val=>exact⟨[.slice af 0 0],.inl ⟨⟨af,rfl⟩,rfl⟩,b⟩
  .cases h
 .cases h
def UJ{M V rP rr}(D:ad7 M V rP.mem rr.mem m1)(hV:∀b x,V b false=true->rP.mem b=aa x->x.buf=false){u v}(h:Fu V rP rr u v=true){m us vs}(K:cu WH rP.mem w0 u m us)(i:cu γ rr.mem w v m vs) :
  cu γ m1 w (bump M V u) m vs:=by
 unfold Fu at h;split at h
 .rename_i b c p b' k p';simp only[gz] at h;obtain⟨⟨L,A⟩,g⟩:=h;obtain rfl:=gA L;obtain rfl:=WO A;have still:c=k->(M b&&V b false)=false->cu γ m1 w (bump M V<|.ptr b c p) m vs:=by
   intro e q;subst e;have e:bump M V (.ptr b c p)=.ptr b c p:=by simp only[bump,q];rfl
   rw[e];exact cu.down D.mid K i
  cases j:V b false with
  | false =>
    rw[j] at g;exact still (gA g) (by simp[j])
  | true =>
    rw[j] at g;simp at g;split at g
    .rename_i x y G C;simp only[gz] at g;have S:=gA g.1;have H:=gA g.2;obtain⟨O,d,E,I,T,U,W,J,X⟩:=D b x G;rw[C] at E;obtain rfl:=aF E;cases r:M b with
     | false=>exact still (by have:=X (by simp[r]);omega) (by simp[r])
     | true =>
       have e:bump M V (.ptr b c p)=.ptr b (c+1) p:=by simp only[bump,r,j];rfl
       have t:d.aM=c+1:=by rw[J,r,hV b x j G,j];simp;omega
       rw[e];cases m with
       | many=>exact i
       | cells=>exact⟨i.1,d,I,ag,λ_=>bk C H i.2⟩
       | val=>exact⟨i.1,d,I,ag,λ_=>bk C H i.2⟩
    .cases g
 .rename_i b c b' k;simp only[gz] at h;obtain⟨L,g⟩:=h;obtain rfl:=gA L;split at g
  .rename_i x y G C;simp only[gz] at g;obtain⟨⟨A,S⟩,H⟩:=g;have A:=gA A;obtain⟨O,d,E,I,T,U,W,J,X⟩:=D b x G;rw[C] at E;obtain rfl:=aF E;have z:x.buf=true:=by rw[<-T];exact H
   have key:∀s,d.aM=s->((∃v,vs=[v]/\v.oneCell'=true)/\nT rr.mem b k λF=>∃e n,F.buf=true/\F.row=aa (e,n) /\
     ((γ.loc b=af/\vs=[.slice af 0 0])\/∃l o,γ.loc b=aa (l,o)/\vs=[.slice (aa ⟨l,0,af⟩) n o])) ->
     ((∃v,vs=[v]/\v.oneCell'=true)/\nT m1 b s λF=>∃e n,F.buf=true/\F.row=aa (e,n) /\
     ((γ.loc b=af/\vs=[.slice af 0 0])\/∃l o,γ.loc b=aa (l,o)/\vs=[.slice (aa ⟨l,0,af⟩) n o])):=by
    intro s t Y;exact⟨Y.1,d,I,ag,λ_=>by obtain⟨e,n,q1,q2,q3⟩:=(bk C (gA S) Y.2);exact⟨e,n,U.trans z,W.trans q2,q3⟩⟩
   have t:∃s,bump M V (.whole b c)=.whole b s/\d.aM=s:=by
    unfold bump;cases r:(M b&&V b true) with
    | true=>exact⟨c+1,by simp[r],by rw[J,z,r,<-A];rfl⟩
    | false=>exact⟨c,by simp[r],by rw[J,z,r,<-A];rfl⟩
   obtain⟨s,e1,Z⟩:=t;rw[e1];cases m with
   | many=>exact i
   | cells=>exact key s Z i
   | val=>exact key s Z i
  .cases g
 .rename_i f aax f' R;simp only[gz] at h;obtain rfl:=gA h.1;obtain rfl:=WQ h.2;exact cu.down D.mid K i
 .cases m<;>exact i
 .cases m<;>exact i
 .simp only[gz] at h;obtain rfl:=gA h.1;obtain rfl:=gA h.2;exact cu.down D.mid K i
 .cases h
def akA{V rP σ u v}:Sh.out V rP σ (.k u) v=bif Fu V rP σ u v then aa () else none:=rfl
def akB{V rP σ a b v w}:Sh.out V rP σ (.m a b) (.mix v w)=(match Sh.out V rP σ a v,Sh.out V rP σ b w with
 | some x,aa y=>aa ((x,y):(Sh.m a b).ty.den)
 | _,_=>af):=rfl
def Zk{M V rP rr}(H:ad7 M V rP.mem rr.mem m1)(I:∀b x,V b false=true->rP.mem b=aa x->x.buf=false):∀{s u v y m us vs},Ml s u->Sh.out V rP rr s v=aa y ->
  cu WH rP.mem w0 u m us->cu γ rr.mem w v m vs->cu γ m1 w (s.rQ M V y) m vs:=by
 intro s;induction s with
 | d t=>intro u v y m us vs _ c _ e;exact ad8 c e
 | k x =>
   intro u v y m us vs C c i e;obtain rfl:=C;rw[akA] at c;cases hs:Fu V rP rr x v with
   | false=>rw[hs] at c;cases c
   | true=>exact UJ H I hs i e
 | m a b g h =>
   intro u v y m us vs C c i e;obtain⟨p,q,rfl,D,E⟩:=C;cases v with
   | mix J K =>
     rw[akB] at c;split at c
     .rename_i L O F G;obtain rfl:=aF c;cases m with
      | cells=>obtain⟨_,_,_,j,l⟩:=i;obtain⟨n,o,r,z,A⟩:=e;exact⟨n,o,r,g D F j z,h E G l A⟩
      | val=>obtain⟨_,_,_,j,l⟩:=i;obtain⟨n,o,r,z,A⟩:=e;exact⟨n,o,r,g D F j z,h E G l A⟩
      | many=>obtain⟨_,_,_,j,l⟩:=i;obtain⟨n,o,r,z,A⟩:=e;exact⟨n,o,r,g D F j z,h E G l A⟩
     .cases c
   | _=>cases c
def aaU{t v y}(h:toD t v=aa y):(v=.data t y)\/(v=.pN/\∃e,t=.slice e):=by
 unfold toD at h;split at h
 .obtain⟨q,b⟩:=Ty.lO h;subst q;subst b;exact .inl rfl
 .split at h
  .exact .inr ⟨rfl,_,rfl⟩
  .cases h
 .cases h
def Zl{M V rP rr s}{c P4:Box}{y}(j:Sh.out V rP rr s c.val=aa y)(F:P4.val=s.rQ M V y)(G:P4.buf=c.buf)(i:c.buf=true->∃e l,c.val=.data (.slice e) l) :
  P4.row=c.row/\(c.buf=true->P4.val=c.val):=by
 have n:∀t x,c.val=.data t x->P4.val=c.val:=by
  intro t x g;rw[g] at j;cases s with
  | d u =>
    obtain⟨q,o⟩:=Ty.lO j;subst q;subst o;rw[F,g];rfl
  | k z=>cases z<;>cases j
  | m a b=>cases j
 have r:∀{A C:Box},A.buf=C.buf->A.val=C.val->A.row=C.row:=by
  intro A C H I;unfold Box.row;rw[H,I]
 cases g:c.val with
 | data t x =>
   have:=n t x g;exact⟨r G this,λ_=>by rw[this,g]⟩
 | _ =>
   refine⟨?_,λh=>by obtain⟨e,l,q⟩:=i h;rw[g] at q;cases q⟩;cases o:c.buf with
   | true=>obtain⟨e,l,q⟩:=i o;rw[g] at q;cases q
   | false =>
     have J:c.row=none:=by unfold Box.row;rw[o,g]
     rw[J];unfold Box.row;rw[G,o,F];rw[g] at j;cases s with
     | d u =>
       rcases aaU j with q|⟨q,e,rfl⟩
       .first|cases q|exact absurd g (by cases k)
       .rfl
     | k z =>
       simp only[Sh.rQ];have D:∀t x,bump M V z≠.data t x:=by
        intro t x q;cases z with
        | data L O=>cases j
        | whole b v=>simp only[bump] at q;cases E:(M b&&V b true)<;>rw[E] at q<;>cases q
        | ptr b v p=>simp only[bump] at q;cases E:(M b&&V b false)<;>rw[E] at q<;>cases q
        | _=>cases q
       split<;>first|rfl|(rename_i K;exact absurd K (D _ _))
     | m a b=>rfl
end
end Go.Ge
namespace Go.Ge
open RowKit
section
variable {P:Program} {B:BT} {N:Nat} {γ WH:Gh} {w w0:World} {rP rr:St} {a a0:Act} {M:Nat->Bool} {V:Nat->Bool->Bool}
def ad9:∀{l x},agp V rP rr l=aa x->∀t,(Rn M V l x t=af/\∀s,(t,s)∉l)\/∃s y,(t,s)∈l/\Sh.out V rP rr s (rr.bb t)=aa y/\Rn M V l x t=aa (s.rQ M V y):=by
 intro l;induction l with
 | nil=>intro x _ t;exact .inl ⟨rfl,λs h=>by cases h⟩
 | cons p r j =>
   obtain⟨i,s⟩:=p;intro x h t;simp only[agp] at h;split at h
   .rename_i y z k m;obtain rfl:=aF h;by_cases e:t=i
    .subst e;refine .inr ⟨s,y,qT ..,k,?_⟩;show(bif Nat.beq t t then aa _ else Rn M V r z t)=_
     simp
    .have n:=iJ e;have o:Rn M V ((i,s)::r) ((y,z):(tyS ((i,s)::r)).den) t=Rn M V r z t:=by
      show(bif Nat.beq t i then aa _ else Rn M V r z t)=_
      rw[n];rfl
     rw[o];rcases j m t with ⟨c,d⟩|⟨g,q,c,d,u⟩
     .refine .inl ⟨c,λg b=>?_⟩;rcases fI.1 b with b|b
      .exact e (eh b).1
      .exact d g b
     .exact .inr ⟨g,q,vK _ c,d,u⟩
   .cases h
def EH{fz g d b}(h:IQ fz g d b=true):(d.ro=true->(b.ro||fz)=true)/\d.buf=b.buf/\(g=false->d.aM=b.aM):=by
 simp only[IQ,gz,Li,beq_iff_eq] at h;obtain⟨⟨⟨e,l⟩,i⟩,c⟩:=h;refine⟨λj=>by rcases e with e|e<;>simp[e,<-j],i,λk=>?_⟩;rcases c with c|c
 .rw[k] at c;cases c
 .exact gA c
def aaV{fz d c b}(h:IQ fz d c b=true):c.tid=b.tid:=by
 simp only[IQ,gz] at h;exact gA h.1.1.2
def UK{fz}:∀{l x},agq V fz rP rr l=aa x->∀t,(Lt fz M V l x t=af/\DJ l t=false) \/
  ∃s b y d,DJ l t=true/\(t,s,b)∈l/\rr.mem t=aa d/\IQ fz (V t b.buf) d b=true/\Sh.out V rP rr s d.val=aa y/\Lt fz M V l x t=aa { b with val:=s.rQ M V y,ro:=b.ro||fz,aM:=bif V t b.buf then b.aM+1 else b.aM }:=by
 intro l;induction l with
 | nil=>intro x _ t;exact .inl ⟨rfl,rfl⟩
 | cons p r o =>
   obtain⟨i,s,b⟩:=p;intro x h t;simp only[agq] at h;split at h
   .rename_i d g;cases c:IQ fz _ d b with
    | false=>rw[c] at h;cases h
    | true =>
      rw[c] at h;split at h
      .rename_i y z q u;obtain rfl:=aF h;by_cases e:t=i
       .subst e;refine .inr ⟨s,b,y,d,by simp[DJ],qT ..,g,c,q,?_⟩;show(bif Nat.beq t t then aa { b with val:=s.rQ M V y,ro:=b.ro||fz,aM:=bif V t b.buf then b.aM+1 else b.aM } else Lt fz M V r z t)=_
        simp
       .have n:=iJ e;have v:Lt fz M V ((i,s,b)::r) ((y,z):(tyM ((i,s,b)::r)).den) t=Lt fz M V r z t:=by
         show(bif Nat.beq t i then aa { b with val:=s.rQ M V y,ro:=b.ro||fz,aM:=bif V t b.buf then b.aM+1 else b.aM } else Lt fz M V r z t)=_
         rw[n];rfl
        have j:DJ ((i,s,b)::r) t=DJ r t:=by simp only[DJ,n,adj]
        rw[v,j];rcases o u t with k|⟨A,C,D,m,E,F,G⟩
        .exact .inl k
        .exact .inr ⟨A,C,D,m,E,vK _ F,G⟩
      .cases h
   .cases h
structure C5 (k:Carry) (rP:St):Prop where
 S:∀t s,(t,s)∈k.S->Ml s (rP.bb t)
 M:∀b s bx,(b,s,bx)∈k.M->rP.mem b=aa bx/\Ml s bx.val/\bx.lk=false
 V:∀b x,k.V b false=true->rP.mem b=aa x->x.buf=false
def aiQ{cx σ}:∀{p l},mkS cx σ p=aa l->∀t s,(t,s)∈l->Ml s (σ.bb t):=by
 intro p;induction p with
 | nil=>intro l h t s c;obtain rfl:=aF h;cases c
 | cons q r n =>
   obtain⟨i,o⟩:=q;intro l h t s c;simp only[mkS] at h;split at h
   .cases h
   .rename_i u g;have fin:∀m,Ml m (σ.bb i)->aa ((i,m)::u)=aa l->Ml s (σ.bb t):=by
     intro m x e;obtain rfl:=aF e;rcases fI.1 c with c|c
     .obtain⟨rfl,rfl⟩:=eh c;exact x
     .exact n g t s c
    cases j:Nat.beq o 999999 with
    | true =>
      rw[j] at h;split at h
      .rename_i b v y;exact fin (.k _) y.symm h
      .obtain rfl:=aF h;exact n g t s c
    | false =>
    rw[j] at h;simp at h;split at h
    .exact fin (.d _) trivial h
    .split at h
     .exact fin (.d _) trivial h
     .cases h
    .split at h
     .exact fin (.d _) trivial h
     .cases h
    .exact fin (.k _) rfl h
def aea{σ}:∀{p l},mkM σ p=aa l->∀b s d,(b,s,d)∈l->σ.mem b=aa d/\Ml s d.val/\d.lk=false:=by
 intro p;induction p with
 | nil=>intro l h b s d c;obtain rfl:=aF h;cases c
 | cons i r k =>
   intro l h b s d c;simp only[mkM] at h;split at h
   .rename_i j t m g;cases e:ah8 j with
    | true=>rw[e] at h;obtain rfl:=aF h;exact k g b s d c
    | false =>
      rw[e] at h;obtain rfl:=aF h;rcases fI.1 c with c|c
      .injection c with n c
       injection c with o q
       subst n;subst o;subst q;exact⟨m,agK _,(Rc.1 e).1⟩
      .exact k g b s d c
   .cases h
def As{cx nb bf σ p k}(h:KG cx nb bf σ p=aa k):C5 k σ:=by
 unfold KG at h;split at h
 .rename_i s m hs d;obtain rfl:=aF h;refine⟨aiQ hs,aea d,λb x c e=>?_⟩;simp only[BF,akd,e,gz,DF] at c;exact c.2.1
 .cases h
def agL{l b}(h:DJ l b=true):∃s c,(b,s,c)∈l:=by
 induction l with
 | nil=>cases h
 | cons p r e =>
   obtain⟨i,s,c⟩:=p;simp only[DJ,Li] at h;rcases h with h|h
   .obtain rfl:=gA h;exact⟨s,c,qT ..⟩
   .obtain⟨g,d,j⟩:=e h;exact⟨g,d,vK _ j⟩
def uX{k fz lock wr x}(hk:C5 k rP)(h0:dm B N WH rP a0 w0)(G:dm B N γ rr a w)(hx:Ext B WH rP.mem w0 γ rr.mem w)
  (hf:∀t,cU wr t=false->a.tmps[t]?=a0.tmps[t]?) (C:∀b g,rP.mem b=aa g->DJ k.M b=false->∃bl,rr.mem b=aa { g with lk:=bl }) (ho:k.out fz rP rr=aa x) :
  dm B N γ (k.rQ fz lock wr rP x) a w/\Ext B WH rP.mem w0 γ (k.rQ fz lock wr rP x).mem w:=by
 unfold Carry.out at ho;split at ho
 case h_2=>cases ho
 rename_i xs xm hxs hxm;obtain rfl:=aF ho;generalize R:k.rQ fz lock wr rP (xs,xm)=bL;have W:∀t,bL.bb t=match Rn _ k.V k.S xs t with|some v=>v|none=>bif cU wr t then .undef else rP.bb t:=λt=>by rw[<-R];rfl
 have T:∀b,bL.mem b=match Lt fz _ k.V k.M xm b with|some g=>aa g|none=>match rP.mem b with|some g=>aa { g with lk:=g.lk||lock }|none=>none:=λb=>by rw[<-R];rfl
 have D:∀b,DJ k.M b=false->bL.mem b=match rP.mem b with|some g=>aa { g with lk:=g.lk||lock }|none=>none:=by
  intro b i;rw[T b];rcases UK hxm b with ⟨q,_⟩|⟨s,b',y,g,q,_⟩
  .rw[q]
  .rw[i] at q;cases q
 have here:∀b,DJ k.M b=true->∃s m y g,rP.mem b=aa m/\Ml s m.val/\rr.mem b=aa g/\IQ fz (k.V b m.buf) g m=true/\Sh.out k.V rP rr s g.val=aa y /\
   bL.mem b=aa { m with val:=s.rQ (DJ k.M) k.V y,ro:=m.ro||fz,aM:=bif k.V b m.buf then m.aM+1 else m.aM }:=by
  intro b i;rcases UK hxm b with ⟨_,q⟩|⟨s,m,y,g,q,q1,q2,q3,q4,q5⟩
  .rw[i] at q;cases q
  .obtain⟨X,k2,_⟩:=hk.M b s m q1;exact⟨s,m,y,g,X,k2,q2,q3,q4,by rw[T b,q5]⟩
 have E:∀b g,rr.mem b=aa g->g.buf=true->∃e l,g.val=.data (.slice e) l:=by
  intro b g i J;have:=G.ok.boxes b g i;rw[ew,J] at this;obtain⟨e,l,q,_⟩:=this;exact⟨e,l,q⟩
 have hC:ad7 (DJ k.M) k.V rP.mem rr.mem bL.mem:=by
  intro b d i;cases j:DJ k.M b with
  | false =>
    obtain⟨bl,F⟩:=C b d i j;have u:=D b j;rw[i] at u;exact⟨_,_,F,u,rfl,rfl,rfl,aS,λ_=>rfl⟩
  | true =>
    obtain⟨s,m,y,g,Y,g2,U,g4,g5,Z⟩:=here b j;rw[i] at Y;obtain rfl:=aF Y;obtain⟨o1,o2,o3⟩:=EH g4;obtain⟨r1,r2⟩:=Zl (M:=DJ k.M) (V:=k.V) (P4:={ d with val:=s.rQ _ k.V y,ro:=d.ro||fz,aM:=bif k.V b d.buf then d.aM+1 else d.aM }) g5 rfl o2.symm (E b g U);refine⟨g,_,U,Z,o2,rfl,r1,aS,λH=>o3 ?_⟩;simpa using H
 have hE:Ext B WH rP.mem w0 γ bL.mem w :=
  { below:=hx.below
    I:=hx.I
    qV:=hx.qV
    cells:=hx.cells
    boxes:=λb d i=>by
     obtain⟨O,P4,c1,c2,c3,c4,c5,c6,c7⟩:=hC b d i;obtain⟨aoR,e1,e2,e3⟩:=hx.boxes b d i;rw[c1] at e1;obtain rfl:=aF e1;cases H:(DJ k.M b&&k.V b d.buf) with
     | true =>
       rw[H] at c6;simp at c6;exact⟨P4,c2,ag,λe=>absurd e ag⟩
     | false =>
       rw[H] at c6;simp at c6;obtain⟨r1,r2,r3⟩:=e3 (c7 H);exact⟨P4,c2,ag,λ_=>⟨r1,c4,c5.trans r3⟩⟩ }
 refine⟨⟨λt=>?_,G.size,G.defers,?_⟩,hE⟩
 .rw[W t];rcases ad9 hxs t with ⟨q,_⟩|⟨s,y,q1,q2,q3⟩
  .rw[q];cases hw:cU wr t with
   | true=>exact⟨_,rfl⟩
   | false =>
     have:a.tmps.getD t undef=a0.tmps.getD t undef:=by simp only[Tt,hf t hw]
     rw[this];exact(h0.bb t).ext hE
  .rw[q3];exact Zk hC hk.V (hk.S t s q1) q2 (h0.bb t) (G.bb t)
 .have hne:∀b,bL.mem b≠af->∃d,rP.mem b=aa d:=by
   intro b i;cases j:DJ k.M b with
   | true=>obtain⟨s,m,y,g,Y,_⟩:=here b j;exact⟨m,Y⟩
   | false =>
     rw[D b j] at i;cases H:rP.mem b with
     | none=>rw[H] at i;exact absurd rfl i
     | some d=>exact⟨d,rfl⟩
  have K:∀b,bL.mem b≠af->rr.mem b≠none:=by
   intro b i;obtain⟨d,u⟩:=hne b i;obtain⟨O,P4,c1,_⟩:=hC b d u;rw[c1];simp
  exact
   { tf:=G.ok.tf
     base:=G.ok.base
     boxes:=λb P4 i=>by
      cases j:DJ k.M b with
      | true =>
        obtain⟨s,m,y,g,Y,g2,U,g4,g5,Z⟩:=here b j;rw[i] at Z;obtain rfl:=aF Z;obtain⟨o1,o2,o3⟩:=EH g4;have o4:=aaV g4;obtain⟨r1,r2⟩:=Zl (P4:={ m with val:=s.rQ _ k.V y,ro:=m.ro||fz,aM:=bif k.V b m.buf then m.aM+1 else m.aM }) g5 rfl o2.symm (E b g U);have o:=G.ok.boxes b g U;have p:=h0.ok.boxes b m Y;unfold ew at o p⊢;rcases WL g.buf with r|r
        .rw[r] at o;rw[<-o2,r,r2 r,<-o4];exact o
        .rw[r] at o;rw[<-o2,r];rw[<-o2,r] at p;obtain⟨_,_,_,_,_,_,_,_,_,z⟩:=p;obtain⟨A,cap,cur,tid,fr,z1,z2,z3,L,z4⟩:=o;exact⟨A,cap,cur,tid,fr,z1,z2,z3,o4▸L,Zk hC hk.V g2 g5 z z4⟩
      | false =>
        have u:=D b j;rw[i] at u;cases H:rP.mem b with
        | none=>rw[H] at u;cases u
        | some d =>
          rw[H] at u;obtain rfl:=aF u;obtain⟨bl,F⟩:=C b d H j;have o:=G.ok.boxes b _ F;have p:=h0.ok.boxes b d H;unfold ew at o p⊢;rcases WL d.buf with r|r
          .rw[r] at o⊢;exact o
          .rw[r] at o p⊢;obtain⟨_,_,_,_,_,_,_,_,_,z⟩:=p;obtain⟨A,cap,cur,tid,fr,z1,z2,z3,L,z4⟩:=o;exact⟨A,cap,cur,tid,fr,z1,z2,z3,L,cu.down hC.mid z z4⟩
     inj:=λb c A X k2 i hc u h2=>G.ok.inj b c A X k2 (K b i) (K c hc) u h2
     fresh:=λb A X i u=>G.ok.fresh b A X (K b i) u
     te:=G.ok.te
     sep:=λb P4 A X off i u hi=>by
      obtain⟨d,q0⟩:=hne b (by rw[i];simp);obtain⟨O,aoS,c1,c2,c3,c4,c5,c6,c7⟩:=hC b d q0;rw[i] at c2;obtain rfl:=aF c2;obtain⟨s1,s2⟩:=G.ok.sep b O A X off c1 u hi;have hro:O.ro=true->P4.ro=true:=by
       cases j:DJ k.M b with
       | true =>
         obtain⟨s,m,y,g,Y,g2,U,g4,g5,Z⟩:=here b j;rw[c1] at U;obtain rfl:=aF U;rw[i] at Z;obtain rfl:=aF Z;exact(EH g4).1
       | false =>
         have u:=D b j;rw[i,q0] at u;obtain rfl:=aF u;obtain⟨bl,F⟩:=C b d q0 j;rw[c1] at F;obtain rfl:=aF F;exact λh=>h
      exact⟨hro s1,λJ e n hr=>s2 (by rw[c3,<-c4];exact J) e n (by rw[<-c5];exact hr)⟩ }
end
end Go.Ge
namespace Go.Ge
variable [Lp]
open RowKit
def F4{p:Nat->Prop}(h:∃n,p n):∃n,p n/\∀m,p m->n<=m:=by
 obtain⟨n,hn⟩:=h;induction n using Nat.strongRecOn with
 | _ n c =>
   by_cases h:∃m,m<n/\p m
   .obtain⟨m,d,e⟩:=h;exact c m d e
   .exact⟨n,hn,λm g=>Nat.le_of_not_lt λb=>h ⟨m,b,g⟩⟩
open Classical in
noncomputable def least(p:Nat->Prop):Nat:=if h:∃n,p n then Classical.choose (F4 h) else 0
def Mm{p}(h:∃n,p n):p (least p)/\∀m,p m->least p<=m:=by
 unfold least;rw[dif_pos h];exact YV (F4 h)
def HD{P c Q a w}(I:Nat->Act->World->Prop){n}(j:I n a w)
  (b:∀n a w,I n a w->c.wp P (Exit.then (λg w'=>∃m,m<n/\I m g w') Q) a w):(Code.loop c).wp P Q a w:=by
 refine wp_loop (λa w=>∃n,I n a w) (λa w=>least λn=>I n a w) ⟨n,j⟩ λa w h=>?_;obtain⟨k,l⟩:=Mm h;refine wp_mono (b _ a w k) λe g w' i=>?_;cases e with
 | normal =>
   obtain⟨m,m1,d⟩:=i;exact⟨⟨m,d⟩,Nat.lt_of_le_of_lt ((Mm ⟨m,d⟩).2 m d) m1⟩
 | _=>exact i
def F5:Nat->Exit
 | 0=>.normal
 | 1=>.ret
 | i+2=>.exit i
def Jb{l m t}:cU (l++m) t=(cU l t||cU m t):=by
 induction l with
 | nil=>rfl
 | cons i r b=>simp only[Lh,cU,b,adi]
def C6(b:List Nat)(a c:Act):Prop:=∀t,cU b t=false->c.tmps[t]?=a.tmps[t]?
def C6.refl ws a:C6 ws a a:=λ_ _=>rfl
def C6.trans{ws a b c}(h:C6 ws a b)(k:C6 ws b c):C6 ws a c:=λt d=>(k t d).trans (h t d)
def C6.left{ws vs a b}(h:C6 ws a b):C6 (ws++vs) a b:=λt c=>h t (by rw[Jb,Rc] at c;exact c.1)
def C6.right{ws vs a b}(h:C6 vs a b):C6 (ws++vs) a b:=λt c=>h t (by rw[Jb,Rc] at c;exact c.2)
def UL{t}:∀{l k},cU (r4 l) t=false->oF t (number k l)=false:=by
 intro l;induction l with
 | nil=>intro k _;rfl
 | cons o l b =>
   intro k h;simp only[number,oF];cases hd:o.dst with
   | none=>simp only[r4,hd] at h;rw[b h];rfl
   | some d =>
     simp only[r4,hd,cU,Rc] at h;rw[b h.2];simp;exact iJ λe=>by subst e;simp at h
def R1{l:List Oper}{o}(h:o∈l){k:Nat}(c:o.dst=aa k):k∈r4 l:=by
 induction l with
 | nil=>cases h
 | cons p l b =>
   rcases fI.1 h with h|h
   .subst h;simp only[r4,c];exact qT ..
   .simp only[r4];split
    .exact vK _ (b h)
    .exact b h
def P5{α}{f:Nat->Tree α}:∀{es e i},JM es e=aa i->(Fx es i f).run=(f e).run:=by
 intro es;induction es with
 | nil=>intro e i h;cases h
 | cons k r l =>
   intro e i h;simp only[JM] at h;have one:∀{b},(bif b then aa 0 else(JM r e).map (·+1))=aa i->(b=true/\i=0)\/(b=false/\∃j,JM r e=aa j/\i=j+1):=by
    intro b g;cases b with
    | true=>exact .inl ⟨rfl,(aF g).symm⟩
    | false =>
      obtain⟨j,c,d⟩:=El.1 g;exact .inr ⟨rfl,j,c,d.symm⟩
   rcases one h with ⟨c,rfl⟩|⟨c,j,d,rfl⟩
   .obtain rfl:=gA c;cases r with
    | nil=>rfl
    | cons m s=>rfl
   .cases r with
    | nil=>cases d
    | cons m s=>exact l d
section
variable {P:Program} {B:BT} {N:Nat} {cx:Ctx} {nb:Nat} {bf:List Nat} {inl:Nat->List ch->St->Tree (ch×St)}
def XB(c:∀f d σ v aQ,(inl f d σ).run=aa (v,aQ)->bW σ aQ):∀l k b σ aQ,(Ls cx nb bf inl (number k l) b σ).run=aa aQ->bW σ aQ:=by
 intro l;induction l with
 | nil=>intro k b σ aQ h;obtain rfl:=aF h;apply bW.refl
 | cons o l e =>
   intro k b σ aQ h;simp only[number,Ls] at h;split at h
   .cases h
   .obtain⟨m,g⟩:=ay h;obtain⟨bL,i,j⟩:=bind_some g;exact(B4 c bL<|C3 (KK o σ) i).trans (e _ _ _ _ j)
def aaW{fz M V}:∀{l x t},DJ l t=false->Lt fz M V l x t=none:=by
 intro l;induction l with
 | nil=>intro x t _;rfl
 | cons p r b =>
   intro x t h;simp only[DJ,Rc] at h;simp only[Lt,h.1];exact b h.2
def UM{k:Carry}{fz lock wr σ x b c}(d:σ.mem b=aa c)(h:DJ k.M b=false):(k.rQ fz lock wr σ x).mem b=aa { c with lk:=c.lk||lock }:=by
 simp only[Carry.rQ];rw[aaW h,d]
def B8{k fz lock wr σ x}(h:C5 k σ):bW σ (k.rQ fz lock wr σ x):=by
 intro b i c d;have:DJ k.M b=false:=by
  cases j:DJ k.M b with
  | false=>rfl
  | true =>
    obtain⟨s,l,m⟩:=agL j;obtain⟨e,_,g⟩:=h.M b s l m;rw[c] at e;obtain rfl:=aF e;rw[d] at g;cases g
 rw[UM c this];cases i;subst d;rfl
def Jc{α}{Q:α->Prop}{f}(b:∀e y,(f e).run=aa y->Q y):∀{es i y},(Fx es i f).run=aa y->Q y:=by
 intro es;induction es with
 | nil=>intro i y h;cases h
 | cons k r d =>
   intro i y h;cases r with
   | nil=>exact b k y h
   | cons m s =>
     have:=gG h;cases c:cK i 0 with
     | true=>rw[c] at this;exact b k y this
     | false=>rw[c] at this;exact d this
def Mn:∀{l σ aQ},Fw l σ=aa aQ->bW σ aQ:=by
 intro l;induction l with
 | nil=>intro σ aQ h;obtain rfl:=aF h;apply bW.refl
 | cons m r b =>
   intro σ aQ h;unfold Fw at h;cases c:Nat.ble 2000000 m with
   | false=>rw[c] at h;exact b h
   | true =>
     rw[c] at h;split at h
     .split at h
      .split at h
       .split at h
        .rename_i d;exact(rp d).trans ((bW.put _ _ _).trans<|b h)
        .cases h
       .cases h
      .cases h
     .exact b h
def Jd{B N a w}:∀{l σ aQ γ},Fw l σ=aa aQ->dm B N γ σ a w->∃bz,dm B N bz aQ a w/\Ext B γ σ.mem w bz aQ.mem w:=by
 intro l;induction l with
 | nil=>intro σ aQ γ h hs;obtain rfl:=aF h;exact⟨γ,hs,Ext.refl _ _ _ _⟩
 | cons m r c =>
   intro σ aQ γ h hs;unfold Fw at h;cases g:Nat.ble 2000000 m with
   | false=>rw[g] at h;exact c h hs
   | true =>
     rw[g] at h;generalize m-2000000=k at h;split at h
     .split at h
      .split at h
       .split at h
        .rename_i x bL i;obtain⟨d,b,j,n⟩:=nX hs (hs.bb k) i;have o:dm B N d (bL.put k _) a w:=⟨λt=>by
          unfold St.put;dsimp only;cases p:Nat.beq t k with
          | false=>exact b.bb t
          | true =>
            obtain rfl:=gA p;exact n,b.size,b.defers,b.ok⟩
         obtain⟨e,q,s⟩:=c h o;exact⟨e,q,j.trans s⟩
        .cases h
       .cases h
      .cases h
     .exact c h hs
def XC{f}(e:∀σ r,(f σ).run=aa r->bW σ r.2):∀n σ r,(again f n σ).run=aa r->bW σ r.2:=by
 intro n;induction n with
 | zero=>intro σ r h;cases h
 | succ n g =>
   intro σ r h;obtain⟨i,j,b⟩:=bind_some h;have c:=e _ _ j;cases d:Nat.beq i.1 0 with
   | true=>rw[d] at b;exact c.trans (g _ _ b)
   | false=>rw[d] at b;obtain rfl:=aF b;exact c
def UN{f}(g:∀σ r,(f σ).run=aa r->bW σ r.2){c}:∀n j σ r,(Hm f c n j σ).run=aa r->bW σ r.2:=by
 intro n;induction n with
 | zero=>intro j σ r h;cases h
 | succ n i =>
   intro j σ r h;unfold Hm at h;split at h
   .have h:=cQ h;obtain⟨k,l,b⟩:=bind_some h.2;have d:=(bW.put σ c _).trans (g _ _ l);cases e:Nat.beq k.1 0 with
    | true=>rw[e] at b;exact d.trans (i _ _ _ b)
    | false=>rw[e] at b;obtain rfl:=aF b;exact d
   .cases h
def n8(g:∀f A σ v aQ,(inl f A σ).run=aa (v,aQ)->bW σ aQ):∀c j σ r,(eF cx nb bf inl c j σ).run=aa r->bW σ r.2:=by
 intro c;induction c with
 | skip=>intro j σ r h;obtain rfl:=aF h;exact bW.refl _
 | label l=>intro j σ r h;obtain rfl:=aF h;exact bW.refl _
 | ret=>intro j σ r h;obtain rfl:=aF h;exact bW.refl _
 | exit i=>intro j σ r h;obtain rfl:=aF h;apply bW.refl
 | region id ops L =>
   intro j σ r h;obtain⟨bL,m,d⟩:=bind_some h;obtain rfl:=aF d;cases L with
   | true =>
     have n:(zn cx nb bf inl ops σ).run=aa bL:=m;unfold zn at n;cases J:ops.any λo=>o.guard.isSome with
     | true =>
       rw[J] at n;obtain⟨O,D⟩:=ay n;split at D
       .exact Mj g _ _ _ _ _ _ D
       .rw[Tree.wQ] at D;obtain⟨x,_,E⟩:=BC.1 D;obtain rfl:=aF E;exact λb R F _=>by show(σ.undef _).mem b=_;rw[rq];exact F
     | false =>
       rw[J] at n;exact XB g _ _ _ _ _ n
   | false=>exact FZ g _ _ _ _ m
 | seq a b t s =>
   intro j σ r h;unfold eF at h;cases hs:yb bf a with
   | true =>
     rw[hs] at h;obtain⟨u,m,d⟩:=bind_some h;cases C:Nat.beq u.1 0 with
     | true=>rw[C] at d;exact s _ (σ.back (writes a) u.2) _ d
     | false=>rw[C] at d;obtain rfl:=aF d;exact λb R F _=>F
   | false =>
   rw[hs] at h;obtain⟨u,m,d⟩:=bind_some h;have K:=t _ _ _ m;cases C:Nat.beq u.1 0 with
   | true=>rw[C] at d;exact K.trans (s _ _ _ d)
   | false=>rw[C] at d;obtain rfl:=aF d;exact K
 | block i a z =>
   intro j σ r h;obtain⟨u,m,d⟩:=bind_some h;obtain rfl:=aF d;exact z _ _ u m
 | scope a z=>intro j σ r h;exact z _ _ _ h
 | cond c a b t s =>
   intro j σ r h;unfold eF at h;split at h
   .rename_i S T hn;have:=gG h;cases S with
    | false=>exact s _ _ _ this
    | true=>exact t _ _ _ this
   .split at h
    .cases h
    rename_i σ p;refine(Mn p).trans ?_;split at h
    .cases h
    .rename_i k G;have q:=As G;dsimp only at h;split at h
     .rw[Tree.wQ] at h;obtain⟨x,m,d⟩:=BC.1 h;obtain rfl:=aF d;exact B8 q
     .rw[Tree.wQ] at h;obtain⟨x,m,d⟩:=BC.1 h;exact Jc (Q:=λr:Nat×St=>bW σ r.2) (λe y H=>by obtain rfl:=aF H;exact B8 q) d
   .cases h
 | loop a z =>
   intro j σ r h;unfold eF at h;split at h
   .split at h
    .exact UN (λσ r I=>z _ _ _ I) _ _ _ _ h
    split at h
    .cases h
    rename_i σ p;refine(Mn p).trans ?_;split at h
    .cases h
    .rename_i k G;have q:=As G;dsimp only at h;split at h
     .cases h
     .split at h
      .obtain⟨x,m,d⟩:=cd h;obtain rfl:=aF d;exact B8 q
      .obtain⟨x,m,d⟩:=cd h;exact Jc (Q:=λr=>bW σ r.2) (λe y H=>by obtain rfl:=aF H;exact B8 q) d
   .exact XC (λσ r I=>z _ _ _ I) _ _ _ h
   .cases h
 | _=>intro j σ r h;cases h
end
end Go.Ge
namespace Go.Ge
variable [Lp]
open RowKit
section
variable {P:Program} {B:BT} {N:Nat} {cx:Ctx} {nb:Nat} {bf:List Nat} {inl:Nat->List ch->St->Tree (ch×St)}
def F6(k:Carry) σ:(k.lock σ).mem=vT (λb c=>bif DJ k.M b then c.lk else true) σ.mem:=by
 funext b;simp only[Carry.lock,vT];cases σ.mem b with
 | none=>rfl
 | some c=>cases DJ k.M b<;>rfl
def agM(k:Carry) σ:k.lock σ={ σ with mem:=vT (λb c=>bif DJ k.M b then c.lk else true) σ.mem }:=by
 have:=F6 k σ;unfold Carry.lock at this⊢;dsimp only at this⊢;rw[this]
def HE{T β}{t:Tree T}{k:T->Tree β}{y}(h:(t.join k).run=aa y):∃x,t.run=aa x/\(k x).run=aa y:=by
 rw[Tree.wQ] at h;exact BC.1 h
def Mo{α}{o:Option α}{y}(h:(Tree.adq o).run=aa y):o=aa y:=by
 cases o with
 | none=>cases h
 | some x=>exact h
def aec{b e i}(h:JM [b] e=aa i):e=b:=by
 simp only[JM] at h;cases c:Nat.beq b e with
 | true=>exact(gA c).symm
 | false=>rw[c] at h;cases h
def dm.Zm{γ σ a w}(h:dm B N γ σ a w){i v}(b:cu γ σ.mem w v .val [a.tmps.getD i Go.undef]):dm B N γ (σ.put i v) a w where
 bb:=λt=>by
  show cu γ σ.mem w (bif Nat.beq t i then v else σ.bb t) .val _
  cases c:Nat.beq t i with
  | true=>obtain rfl:=gA c;exact b
  | false=>exact h.bb t
 size:=h.size
 defers:=h.defers
 ok:=h.ok
def R4{a w}:∀{l σ aQ γ},settle l σ=aa aQ->dm B N γ σ a w->∃bz,dm B N bz aQ a w/\Ext B γ σ.mem w bz aQ.mem w/\bW σ aQ:=by
 intro l;induction l with
 | nil=>intro σ aQ γ h hs;obtain rfl:=aF h;exact⟨γ,hs,Ext.refl _ _ _ _,bW.refl _⟩
 | cons p r c =>
   obtain⟨i,s⟩:=p;intro σ aQ γ h hs;cases s with
   | d t =>
     simp only[settle] at h;split at h
     .rename_i x bL g;obtain⟨j,n,o,q⟩:=nX hs (hs.bb i) g;obtain⟨e,u,y,z⟩:=c h (n.Zm q);exact⟨e,u,o.trans y,(rp g).trans z⟩
     .cases h
   | k v=>exact c h hs
   | m a b=>exact c h hs
def F7{k fz wr x rP rr WH γ a a0 w w0}(j:C5 k rP)(l:dm B N WH rP a0 w0)(m:dm B N γ rr a w)(n:Ext B WH rP.mem w0 γ rr.mem w)
  (o:∀t,cU wr t=false->a.tmps[t]?=a0.tmps[t]?) (c:∀b e,rP.mem b=aa e->DJ k.M b=false->rr.mem b=aa { e with lk:=true }) (g:k.Lu fz rP rr=aa x) :
  ∃bz,dm B N bz (k.rQ fz false wr rP x) a w/\Ext B WH rP.mem w0 bz (k.rQ fz false wr rP x).mem w:=by
 unfold Carry.Lu at g;cases fz with
 | false=>exact⟨γ,uX j l m n o (λb e h d=>⟨true,c b e h d⟩) g⟩
 | true =>
   split at g
   .rename_i bL hs;obtain⟨i,p,q,r⟩:=R4 hs m;exact⟨i,uX j l p (n.trans q) o (λb e h d=>⟨true,r b _ (c b e h d) rfl⟩) g⟩
   .cases g
noncomputable def roundOf(d:Ctx)(e:Nat)(g:List Nat)(inl:Nat->List ch->St->Tree (ch×St))(k:Carry)(h:Bool)(b:St)(c:Code)(j:List (Option Rm))(x:k.ty.den):Option (k.ty.den⊕(Nat×k.ty.den)) :=
 ((eF d e g inl c j<|k.rQ false true (writes c) b x).bind λr=>bif Nat.beq r.1 0 then(match k.out false b r.2 with
   | some y=>.ret (.inl y)
   | none=>.fail)
  else match JM (vC c) r.1,k.Lu h b r.2 with
   | some i,aa y=>.ret (.inr (i,y))
   | _,_=>.fail).run
def P6{c k fz σ γ a w Q R}(C:C5 k σ)(h:dm B N γ σ a w){x0}(D:k.out false σ σ=aa x0)
  f (Out:R->Nat->k.ty.den->Prop) {z} (X:Loop f x0=aa z)
  (Y:∀x r,f x=aa r->∃e y,(match r with|.inl E=>e=0/\E=y|.inr z=>e≠0/\Out z e y) /\
   ∀j q t S,dm B N j (k.rQ false true (writes c) σ x) q t->(∀rr bz d w',(bif Nat.beq e 0 then k.out false σ rr else k.Lu fz σ rr)=aa y->bW (k.rQ false true (writes c) σ x) rr->dm B N bz rr d w'->Ext B j (k.rQ false true (writes c) σ x).mem t bz rr.mem w'->C6 (writes c) q d->S (F5 e) d w') ->
    c.wp P S q t)
  (final:∀e y,e≠0->Out z e y->∀bz d w',dm B N bz (k.rQ fz false (writes c) σ y) d w'->Ext B γ σ.mem w bz (k.rQ fz false (writes c) σ y).mem w'->C6 (writes c) a d->Q (F5 e) d w') :
  (Code.loop c).wp P Q a w:=by
 obtain⟨n,hn⟩:=rZ X;refine HD (λm d w'=>∃bz x,dm B N bz (k.rQ false true (writes c) σ x) d w'/\Ext B γ σ.mem w bz (k.rQ false true (writes c) σ x).mem w'/\C6 (writes c) a d/\rounds f m x=aa z) (n:=n) ?_ ?_
 .obtain⟨s,x⟩:=uX C h h (Ext.refl _ _ _ _) (λ_ _=>rfl) (λb o u _=>⟨o.lk,u⟩) D;exact⟨γ,x0,s,x,C6.refl _ _,hn⟩
 .intro m q t Z;obtain⟨j,x,s1,e1,f1,T⟩:=Z;cases m with
  | zero=>cases T
  | succ m =>
    obtain⟨r,F,v⟩:=BC.1 T;obtain⟨e,y,U,G⟩:=Y x r F;refine G j q t _ s1 λrr bz d w' H I W e2 f2=>?_;have hx:=e1.trans e2;have l:=f1.trans f2;have g:∀b o,σ.mem b=aa o->DJ k.M b=false->rr.mem b=aa { o with lk:=true }:=λb o u p=>by
     have:=I b _ (UM u p) aS;simpa using this
    cases r with
    | inl E =>
      obtain⟨rfl,rfl⟩:=U;obtain⟨J,K⟩:=uX C h W hx l (λb o u p=>⟨true,g b o u p⟩) H;exact⟨m,TK m,bz,E,J,K,l,v⟩
    | inr z' =>
      obtain⟨A,hO⟩:=U;obtain rfl:=aF v;have L:Nat.beq e 0=false:=iJ A;rw[L] at H;obtain⟨O,J,K⟩:=F7 C h W hx l g H;have:=final e y A hO O d w' J K l
      match e,A,this with
      | 0,A,_=>exact absurd rfl A
      | 1,_,this=>exact this
      | i+2,_,this=>exact this
def aaX{S}{o:Option (S⊕(Nat×S))}{r}(h:cl o=aa r):(∃y,r=.inl y/\o=aa (.inl y))\/∃i y,r=.inr y/\o=aa (.inr (i,y)):=by
 obtain⟨q,b,c⟩:=El.1 h;cases q with
 | inl y=>exact .inl ⟨y,c.symm,b⟩
 | inr p=>exact .inr ⟨p.1,p.2,c.symm,b⟩
def F8(d:Gh)(g:Nat->Option Box):Gh:={ d with I:=λc o=>d.I c o\/∃b h k,g b=aa h/\d.loc b=aa (c,k)/\(h.buf=true->∀e n,h.row=aa (e,n)->o<n*e.size) }
def Je{d:Nat->Option Box}{b e}(h:yO d b=aa e):∃c,d b=aa c/\e={ c with ro:=true,lk:=true }:=by
 unfold yO at h;split at h
 .rename_i c g;exact⟨c,g,(aF h).symm⟩
 .cases h
def HF{c:Nat->Option Box}{b d}(h:c b=aa d):yO c b=aa { d with ro:=true,lk:=true }:=by
 unfold yO;rw[h]
def bC.still{B γ mem w}(h:bC B γ mem w):bC B (F8 γ mem) (yO mem) w/\Ext B γ mem w (F8 γ mem) (yO mem) w:=by
 have hx:Ext B γ mem w (F8 γ mem) (yO mem) w :=
  { below:=vD.refl _ _
    I:=λ_ _ x=>.inl x
    qV:=λd o x=>by
     rcases x with x|⟨b,bx,k,hb,hl,_⟩
     .exact .inl x
     .exact .inr (h.fresh b d k (by rw[hb];simp) hl).1
    cells:=λ_ _ _=>rfl
    boxes:=λb bx hb=>⟨_,HF hb,bX _,λ_=>⟨rfl,rfl,rfl⟩⟩ }
 have e:∀{b},yO mem b≠af->mem b≠none:=λhb m=>hb (by unfold yO;rw[m]);refine⟨?_,hx⟩;exact
  { tf:=h.BU hx
    base:=h.base
    boxes:=λb bx hb=>by
     obtain⟨g,h0,rfl⟩:=Je hb;have:=(h.boxes b g h0).keep hx rfl (λ_ _ _=>rfl);exact this
    inj:=λb c d k k' hb hc l n=>h.inj b c d k k' (e hb) (e hc) l n
    fresh:=λb d k hb l=>h.fresh b d k (e hb) l
    te:=λd i j=>by
     rcases j with j|⟨b,bx,k,hb,hl,_⟩
     .exact h.te d i j
     .exact(h.fresh b d k (by rw[hb];simp) hl).2
    sep:=λb bx d k i hb l j=>by
     obtain⟨g,h0,rfl⟩:=Je hb;rcases j with j|⟨c,cx,k',hc,hl,p⟩
     .exact⟨rfl,(h.sep b g d k i h0 l j).2⟩
     .obtain rfl:=h.inj b c d k k' (by rw[h0];simp) (by rw[hc];simp) l hl;obtain rfl:=aF (h0.symm.trans hc);exact⟨rfl,p⟩ }
def dm.still{B N γ σ a w}(h:dm B N γ σ a w):dm B N (F8 γ σ.mem) σ.still a w where
 bb:=λt=>(h.bb t).ext h.ok.still.2
 size:=h.size
 defers:=h.defers
 ok:=h.ok.still.1
def XD{w g:World}{b:Nat}{d c:Array Value}{tid e i fr'}(k:w.heap[b]?=aa (.cells d tid i))(l:g.heap[b]?=aa (.cells c e fr')){lo n:Nat}
  (h:∀o,o<lo+n->g.cell? ⟨b,o,af⟩=w.cell? ⟨b,o,af⟩):(c.toList.drop lo).take n=(d.toList.drop lo).take n:=by
 refine DE λj=>?_;rw[jq,jq];split
 .rename_i m;have:=h (lo+j) ag;rw[cell_of_heap k,cell_of_heap l] at this;rw[tu,tu];simpa using this
 .rfl
def dm.back{B N γ bz σ τ a A w w' ws}(h:dm B N γ σ a w)(s:dm B N bz τ A w')(v:Ext B (F8 γ σ.mem) σ.still.mem w bz τ.mem w')(O:bW σ.still τ)(R:C6 ws a A) :
  dm B N γ (σ.back ws τ) A w'/\Ext B γ σ.mem w γ (σ.back ws τ).mem w':=by
 have E:∀b bx,σ.mem b=aa bx->τ.mem b=aa { bx with ro:=true,lk:=true }:=λb bx hb=>O b _ (HF hb) rfl;have p:∀b bx,σ.mem b=aa bx->bz.loc b=γ.loc b:=λb bx hb=>by
  obtain⟨S,K,k2,T⟩:=v.boxes b _ (HF hb);rw[E b bx hb] at K;obtain rfl:=aF K;exact(T rfl).1
 have r:Ext B γ σ.mem w γ σ.mem w':=⟨v.below,λ_ _ k=>k,λ_ _ k=>.inl k,λb o k=>v.cells b o (Or.inl k),λb bx hb=>⟨bx,hb,bX _,λ_=>⟨rfl,rfl,rfl⟩⟩⟩;refine⟨⟨λt=>?_,s.size,s.defers,?_⟩,r⟩
 .show cu γ σ.mem w' (bif cU ws t then _ else _) .val _
  cases U:cU ws t with
  | false =>
    have e:A.tmps.getD t Go.undef=a.tmps.getD t Go.undef:=by
     have:=R t U;simp only[Tt,this]
    rw[e];exact(h.bb t).ext r
  | true =>
    have hs:=s.bb t;show cu γ σ.mem w' (bif ah9 (τ.bb t) then _ else _) .val _
    cases hv:τ.bb t with
    | data u x =>
      rw[hv] at hs;cases g:u.flat with
      | true =>
        show cu γ σ.mem w' (bif u.flat then _ else _) .val _
        rw[g];obtain⟨W,m,q⟩:=hs;exact⟨W,bH.flat g m,q⟩
      | false =>
        show cu γ σ.mem w' (bif u.flat then _ else _) .val _
        rw[g];exact⟨_,rfl⟩
    | _=>exact⟨_,rfl⟩
 .exact
  { tf:=h.ok.BU r
    base:=s.ok.base
    boxes:=λb bx hb=>by
     have m:=h.ok.boxes b bx hb;have q:=s.ok.boxes b _ (E b bx hb);have F:=p b bx hb;have L:∀c k o,γ.loc b=aa (c,k)->(bx.buf=true->∀e n,bx.row=aa (e,n)->o<n*e.size)->w'.cell? ⟨c,o,af⟩=w.cell? ⟨c,o,af⟩:=λc k o h3 X=>v.cells c o (.inr ⟨b,bx,k,hb,h3,X⟩);unfold ew at m q⊢;cases d:bx.buf with
     | true =>
       rw[d] at m q;obtain⟨e,l,hv,he,G⟩:=m;obtain⟨e',l',hv',he',C⟩:=q;obtain⟨Y,Z⟩:=ch.data.inj (hv.symm.trans hv');obtain rfl:=Ty.slice.inj Y;obtain rfl:=eq_of_heq Z;refine⟨e,l,hv,he,?_⟩;rcases G with G|⟨c,cap,cur,tid,fr,q1,q2,q3,q4,q5,q6,q7,q8⟩
       .exact .inl G
       .rcases C with C|⟨y,W1,cur',adU,fr',p1,p2,p3,p4,p5,p6,p7,p8⟩
        .rw[F,q1] at C;exact absurd C.1 aS
        .rw[F,q1] at p1;obtain⟨rfl,rfl⟩:=eh (aF p1);refine .inr ⟨c,cap,cur',adU,fr',q1,p2,p3,p4,q5,q6,p7,λi x D=>?_⟩;obtain⟨H,_⟩:=hR.1 D;have z:bx.row=aa (e,l.length):=by unfold Box.row;rw[d,hv]
         rw[XD q2 p2 (lo:=i*e.size) (n:=e.size) λo ho=>L c cap o q1 λ_ e2 n2 hr=>by
          obtain⟨rfl,rfl⟩:=eh (aF<|z.symm.trans hr)
          calc o<i*e.size+e.size:=ho
           _=(i+1)*e.size:=by rw[Hf]
           _<=l.length*e.size:=gN _ H]
         exact bH.mono r.I r.cells (q8 i x D)
     | false =>
       rw[d] at m q;obtain⟨c,cap,cur,tid,fr,q1,q2,q3,q4,q5⟩:=m;obtain⟨y,W1,cur',adU,fr',p1,p2,p3,p4,p5⟩:=q;rw[F,q1] at p1;obtain⟨rfl,rfl⟩:=eh (aF p1);have hc:cur'=cur:=by
        refine Array.ext_getElem? λj=>?_;have:=L c cap j q1 λg=>by rw[d] at g;cases g
        rw[cell_of_heap q2,cell_of_heap p2] at this;exact this
       subst hc;exact⟨c,cap,cur',adU,fr',q1,p2,p3,p4,q5.ext r⟩
    inj:=h.ok.inj
    fresh:=λb c k hb m=>by
     cases g:σ.mem b with
     | none=>exact absurd g hb
     | some bx=>exact s.ok.fresh b c k (by rw[E b bx g];simp) ((p b bx g).trans m)
    te:=λc J D=>s.ok.te c J (v.I _ _<|.inl D)
    sep:=h.ok.sep }
def uY(aiR:P.follows .mixedOrders=true)(hc:fi P cx)(aaL:nZ P B.G cx)(agF:xa P B.G inl)(D:∀f aiP σ v aQ,(inl f aiP σ).run=aa (v,aQ)->bW σ aQ) :
  ∀c {pl σ γ a w e aQ Q},(∀t∈writes c,t<N)->(eF cx nb bf inl c pl σ).run=aa (e,aQ)->dm B N γ σ a w ->
   (∀bz d w',dm B N bz aQ d w'->Ext B γ σ.mem w bz aQ.mem w'->C6 (writes c) a d->Q (F5 e) d w')->c.wp P Q a w:=by
 intro c;induction c with
 | skip =>
   intro pl σ γ a w e aQ Q H g h u;obtain⟨rfl,rfl⟩:=eh (aF g);exact wp_skip (u γ a w h (Ext.refl _ _ _ _)<|C6.refl _ _)
 | label l =>
   intro pl σ γ a w e aQ Q H g h u;obtain⟨rfl,rfl⟩:=eh (aF g);exact wp_label (u γ a w h (Ext.refl _ _ _ _)<|C6.refl _ _)
 | ret =>
   intro pl σ γ a w e aQ Q H g h u;obtain⟨rfl,rfl⟩:=eh (aF g);exact wp_ret (u γ a w h (Ext.refl _ _ _ _)<|C6.refl _ _)
 | exit i =>
   intro pl σ γ a w e aQ Q H g h u;obtain⟨rfl,rfl⟩:=eh (aF g);exact wp_exit (u γ a w h (Ext.refl _ _ _ _)<|C6.refl _ _)
 | region id ops dr =>
   intro pl σ γ a w e aQ Q H g h u;obtain⟨bL,K,J⟩:=bind_some g;obtain⟨rfl,rfl⟩:=eh (aF J);have hd':∀o∈ops.toList,∀k,o.dst=aa k->k<N:=λo ho k hk=>H k (R1 ho hk);have hfr:∀{a d},Fr (number 0 ops.toList) a d->C6 _ a d:=λhf t ht=>hf t (UL ht);cases dr with
   | true=>exact UH aiR hc aaL agF D hd' K h λbz d w' s x f=>u bz d w' s x (hfr f)
   | false=>exact RO hc aaL agF D hd' K h λbz d w' s x f=>u bz d w' s x (hfr f)
 | seq x y ihx ihy =>
   intro pl σ γ a w e aQ Q H g h u;have hdx:=λt ht=>H t (zd _ ht);have hdy:∀t∈writes y,t<N:=λt ht=>H t (Ad _ ht);unfold eF at g;cases hs:yb bf x with
   | true =>
     rw[hs] at g;obtain⟨⟨R,bL⟩,K,J⟩:=bind_some g;refine wp_seq (ihx hdx K h.still λbz d w' E I A=>?_);obtain⟨Y,x2⟩:=h.back E I (n8 D _ _ _ _ K) A;cases R with
     | zero=>exact ihy hdy J Y λaiS a'' w'' s3 x3 f3=>u aiS a'' w'' s3 (x2.trans x3) (A.left.trans f3.right)
     | succ R =>
       obtain⟨rfl,rfl⟩:=eh (aF J);have:=u γ d w' Y x2 A.left;cases R with
       | zero=>exact this
       | succ i=>exact this
   | false =>
   rw[hs] at g;obtain⟨r1,K,J⟩:=bind_some g;obtain⟨R,bL⟩:=r1;refine wp_seq (ihx hdx K h λbz d w' E I A=>?_);cases R with
   | zero=>exact ihy hdy J E λaiS a'' w'' Y x2 f2=>u aiS a'' w'' Y (I.trans x2) (A.left.trans f2.right)
   | succ R =>
     obtain⟨rfl,rfl⟩:=eh (aF J);have:=u bz d w' E I A.left;cases R with
     | zero=>exact this
     | succ i=>exact this
 | block i x ih =>
   intro pl σ γ a w e aQ Q H g h u;obtain⟨r1,K,J⟩:=bind_some g;obtain⟨R,bL⟩:=r1;obtain⟨rfl,rfl⟩:=eh (aF J);refine wp_block (ih H K h λbz d w' E I A=>?_);have:=u bz d w' E I A
   match R,this with
   | 0,this=>exact this
   | 1,this=>exact this
   | j+2,this =>
     show Exit.inBlock i Q (.exit j) d w'
     unfold Exit.inBlock;by_cases e:j=i
     .subst e;simpa [F5] using this
     .simp only[aJ e];have hb:Nat.beq (j+2) (i+2)=false:=iJ ag;rw[hb] at this;exact this
 | scope x ih =>
   intro pl σ γ a w e aQ Q H g h u;refine wp_scope_straight (ih H g h λbz d w' E I A=>?_);have:=u bz d w' E I A
   match e,this with
   | 0,this=>exact this
   | 1,this=>exact this
   | j+2,this=>exact this
 | cond o x y ihx ihy =>
   intro pl σ γ a w e aQ Q H g h u;have hdx:=λt ht=>H t (zd _ ht);have hdy:=λt ht=>H t (Ad _ ht);unfold eF at g;split at g
   .rename_i c0 S hcv;have F:=h.cW o;rw[hcv] at F;have F:=Ao F;have hn:=gG g;cases c0 with
    | false=>exact wp_cond_false F (ihy hdy hn h λbz d w' E I A=>u bz d w' E I A.right)
    | true=>exact wp_cond_true F (ihx hdx hn h λbz d w' E I A=>u bz d w' E I A.left)
   .rename_i c0 p S hcv;have F:=h.cW o;rw[hcv] at F;have F:=Ao F;split at g
    .cases g
    rename_i σ aiT;obtain⟨γ,h,hx⟩:=Jd aiT h;replace u:=λbz d w' s x f=>u bz d w' s (hx.trans x) f;split at g
    .cases g
    rename_i k hk;have hok:=As hk;have go:∀{r},(Tree.node c0 (eF cx nb bf inl x S<|k.lock σ)<|eF cx nb bf inl y (S.drop<|marks x)<|k.lock σ).run=aa r->∀{v},k.Lu p.fz σ r.2=aa v ->
      (∀bz d w',dm B N bz (k.rQ p.fz false (writes x++writes y) σ v) d w'->Ext B γ σ.mem w bz (k.rQ p.fz false (writes x++writes y) σ v).mem w'->C6 (writes x++writes y) a d->Q (F5 r.1) d w') ->
      (Code.cond o x y).wp P Q a w:=by
     intro r T v ho hQ;have hlk:dm B N γ (k.lock σ) a w:=by rw[agM];exact h.vT
     have hle:Ext B γ σ.mem w γ (k.lock σ).mem w:=by rw[F6];exact Ext.vT
     have fin:bW (k.lock σ) r.2->∀bz d w',dm B N bz r.2 d w'->Ext B γ (k.lock σ).mem w bz r.2.mem w'->C6 (writes x++writes y) a d->Q (F5 r.1) d w':=by
      intro hkp bz d w' E I A;obtain⟨γ2,Y,x2⟩:=F7 hok h E (hle.trans I) A (λb bx hb Uj=>hkp b _ (by rw[F6,P3 hb,Uj];rfl) rfl) ho;exact hQ γ2 d w' Y x2 A
     have hn:=gG T;cases c0 with
     | false=>exact wp_cond_false F (ihy hdy hn hlk λbz d w' E I A=>fin (n8 D _ _ _ _ hn) bz d w' E I A.right)
     | true=>exact wp_cond_true F (ihx hdx hn hlk λbz d w' E I A=>fin (n8 D _ _ _ _ hn) bz d w' E I A.left)
    split at g
    .obtain⟨v,K,J⟩:=HE g;obtain⟨rfl,rfl⟩:=eh (aF J);obtain⟨r,h3,h4⟩:=bind_some K;obtain⟨h5,h6⟩:=ay h4;refine go h3 (Mo h6) λbz d w' s x f=>?_;rw[gA h5];exact u bz d w' s x f
    .rename_i es hes;obtain⟨v,K,J⟩:=HE g;obtain⟨r,h3,h4⟩:=bind_some K;split at h4
     .rename_i i v' L ho;obtain rfl:=aF h4;rw[P5 L] at J;obtain⟨rfl,rfl⟩:=eh (aF J);exact go h3 ho λbz d w' s x f=>u bz d w' s x f
     .cases h4
   .cases g
 | loop c ih =>
   intro pl σ γ a w e aQ Q H g h u;unfold eF at g;split at g
   case h_2 =>
    generalize 100000=n at g;refine HD (λm d w'=>∃bz bL,dm B N bz bL d w'/\Ext B γ σ.mem w bz bL.mem w'/\C6 (writes c) a d/\(again _ m bL).run=aa _) ⟨γ,σ,h,Ext.refl _ _ _ _,C6.refl _ _,g⟩ ?_;intro m a1 w1 hI;obtain⟨U,bL,E,R,A,O⟩:=hI;cases m with
    | zero=>cases O
    | succ m =>
      obtain⟨r,W,C⟩:=bind_some O;obtain⟨e',cI⟩:=r;refine ih H W E λbz d w' Y e2 f2=>?_;cases Z:Nat.beq e' 0 with
      | true =>
        dsimp only at C;rw[Z] at C;obtain rfl:=gA Z;exact⟨m,TK m,bz,cI,Y,R.trans e2,A.trans f2,C⟩
      | false =>
        dsimp only at C;rw[Z] at C;obtain⟨rfl,rfl⟩:=eh (aF C);have:=u bz d w' Y (R.trans e2) (A.trans f2)
        match e',Z,this with
        | 0,Z,_=>cases Z
        | 1,_,this=>exact this
        | i+2,_,this=>exact this
   case h_3=>cases g
   rename_i p S;split at g
   .rename_i ct hct;generalize 100=n at g;generalize 0=j at g;refine HD (λm d w'=>∃bz bL j',dm B N bz bL d w'/\Ext B γ σ.mem w bz bL.mem w'/\C6 (writes c) a d/\(Hm _ ct m j' bL).run=aa _) ⟨γ,σ,j,h,Ext.refl _ _ _ _,C6.refl _ _,g⟩ ?_;intro m a1 w1 hI;obtain⟨U,bL,j1,E,R,A,O⟩:=hI;cases m with
    | zero=>cases O
    | succ m =>
      unfold Hm at O;split at O
      case h_2=>cases O
      rename_i x hx;obtain⟨hj,hr2⟩:=cQ O;obtain⟨r,W,C⟩:=bind_some hr2;obtain⟨e',cI⟩:=r;change Int at x;have s1':dm B N U (bL.put ct<|.data (.int .i64) (j1:Int)) a1 w1:=E.Zm (by
       have:=E.bb ct;rw[hx] at this;rw[<-(fU hj)];exact this)
      refine ih H W s1' λbz d w' Y e2 f2=>?_;cases Z:Nat.beq e' 0 with
      | true =>
        obtain rfl:=gA Z;exact⟨m,TK m,bz,cI,j1+1,Y,R.trans e2,A.trans f2,C⟩
      | false =>
        dsimp only at C;rw[Z] at C;obtain⟨rfl,rfl⟩:=eh (aF C);have:=u bz d w' Y (R.trans e2) (A.trans f2)
        match e',Z,this with
        | 0,Z,_=>cases Z
        | 1,_,this=>exact this
        | i+2,_,this=>exact this
   split at g
   .cases g
   rename_i σ aiT;obtain⟨γ,h,hx⟩:=Jd aiT h;replace u:=λbz d w' s x f=>u bz d w' s (hx.trans x) f;split at g
   .cases g
   rename_i k hk;have hok:=As hk;dsimp only at g;split at g
   .cases g
   rename_i x0 hx0;have hb:∀x r,roundOf cx nb bf inl k p.fz σ c S x=aa r->∃e rr y,(eF cx nb bf inl c S<|k.rQ false true (writes c) σ x).run=aa (e,rr)/\(bif Nat.beq e 0 then k.out false σ rr else k.Lu p.fz σ rr)=aa y/\((e=0/\r=.inl y)\/(e≠0/\∃i,JM (vC c) e=aa i/\r=.inr (i,y))):=by
    intro x r hx;obtain⟨q,W,C⟩:=bind_some hx;obtain⟨e,rr⟩:=q;cases he:Nat.beq e 0 with
    | true =>
      rw[he] at C;split at C
      .rename_i y hy;exact⟨e,rr,y,W,by rw[he];exact hy,.inl ⟨gA he,(aF C).symm⟩⟩
      .cases C
    | false =>
      rw[he] at C;simp at C;split at C
      .rename_i i y hi hy;exact⟨e,rr,y,W,by rw[he];exact hy,.inr ⟨λe0=>(by subst e0;cases he),i,hi,(aF C).symm⟩⟩
      .cases C
   have step:∀{x e rr y},(eF cx nb bf inl c S<|k.rQ false true (writes c) σ x).run=aa (e,rr)->(bif Nat.beq e 0 then k.out false σ rr else k.Lu p.fz σ rr)=aa y->∀U a1 w1 Q',dm B N U (k.rQ false true (writes c) σ x) a1 w1 ->
     (∀rr bz d w',(bif Nat.beq e 0 then k.out false σ rr else k.Lu p.fz σ rr)=aa y->bW (k.rQ false true (writes c) σ x) rr->dm B N bz rr d w'->Ext B U (k.rQ false true (writes c) σ x).mem w1 bz rr.mem w'->C6 (writes c) a1 d->Q' (F5 e) d w')->c.wp P Q' a1 w1:=by
    intro x e rr y T ho U a1 w1 Q' s hQ;exact ih H T s λbz d w' E I A=>hQ rr bz d w' ho (n8 D _ _ _ _ T) E I A
   split at g
   .rename_i e0 hes;obtain⟨v,K,J⟩:=cd g;obtain⟨rfl,rfl⟩:=eh (aF J);refine P6 (fz:=p.fz) hok h hx0 _ (λz e' y=>e'=e0/\z=y) K (λx r hx=>?_) (λe' y hne hO bz d w' s x f=>?_)
    .rcases aaX hx with ⟨y,rfl,hy⟩|⟨i,y,rfl,hy⟩
     .obtain⟨e,rr,y',W,C,X⟩:=hb x _ hy;rcases X with ⟨rfl,X⟩|⟨_,i,_,X⟩
      .obtain rfl:=TR X;exact⟨0,y,⟨rfl,rfl⟩,step W C⟩
      .cases X
     .obtain⟨e,rr,y',W,C,X⟩:=hb x _ hy;rcases X with ⟨rfl,X⟩|⟨hne,i',L,X⟩
      .cases X
      .obtain⟨rfl,rfl⟩:=eh (Sum.inr.inj X);rw[hes] at L;exact⟨e,y,⟨hne,aec L,rfl⟩,step W C⟩
    .obtain⟨rfl,rfl⟩:=hO;exact u bz d w' s x f
   .obtain⟨v,K,J⟩:=cd g;refine P6 (fz:=p.fz) hok h hx0 _ (λz e' y=>JM (vC c) e'=aa z.1/\z.2=y) K (λx r hx=>?_) (λe' y hne hO bz d w' s x f=>?_)
    .obtain⟨e,rr,y',W,C,X⟩:=hb x _ hx;rcases X with ⟨rfl,rfl⟩|⟨hne,i,L,rfl⟩
     .exact⟨0,y',⟨rfl,rfl⟩,step W C⟩
     .exact⟨e,y',⟨hne,L,rfl⟩,step W C⟩
    .obtain⟨L,rfl⟩:=hO;rw[P5 L] at J;obtain⟨rfl,rfl⟩:=eh (aF J);exact u bz d w' s x f
 | _=>intro pl σ γ a w e aQ Q H g h u;cases g
def XE{y b c r:Code}(h:three bf y=aa (b,c,r)):(∃j p e,b=.region j p e)/\y=.seq b (.seq c r)/\yb bf c=false:=by
 unfold three at h;split at h
 .rename_i j p e d i;cases hs:yb bf d with
  | true=>rw[hs] at h;cases h
  | false =>
    rw[hs] at h;obtain⟨rfl,g⟩:=eh (aF h);obtain⟨rfl,rfl⟩:=eh g;exact⟨⟨j,p,e,rfl⟩,rfl,hs⟩
 .cases h
def UO(R:P.follows .mixedOrders=true)(hc:fi P cx)(S:nZ P B.G cx)(T:xa P B.G inl)(l:∀f U σ v aQ,(inl f U σ).run=aa (v,aQ)->bW σ aQ) :
  ∀c {pl σ γ a w e aQ Q},(∀t∈writes c,t<N)->(eF cx nb bf inl (WT bf c) pl σ).run=aa (e,aQ)->dm B N γ σ a w ->
   (∀bz u w',dm B N bz aQ u w'->Ext B γ σ.mem w bz aQ.mem w'->C6 (writes c) a u->Q (F5 e) u w')->c.wp P Q a w:=by
 have A:=@uY _ P B N cx nb bf inl R hc S T l;intro c;induction c with
 | seq x y _ W =>
   have gen:∀{pl σ γ a w e aQ Q},(∀t∈writes (.seq x y),t<N)->(eF cx nb bf inl (.seq x<|WT bf y) pl σ).run=aa (e,aQ)->dm B N γ σ a w ->
     (∀bz u w',dm B N bz aQ u w'->Ext B γ σ.mem w bz aQ.mem w'->C6 (writes<|.seq x y) a u->Q (F5 e) u w')->(Code.seq x y).wp P Q a w:=by
    intro pl σ γ a w e aQ Q m g h n;have X:=λt z=>m t (zd _ z);have Y:∀t∈writes y,t<N:=λt z=>m t (Ad _ z);unfold eF at g;cases hs:yb bf x with
    | true =>
      rw[hs] at g;obtain⟨⟨s,bL⟩,F,E⟩:=bind_some g;refine wp_seq (A x X F h.still λbz u w' J K D=>?_);obtain⟨L,O⟩:=h.back J K (n8 l _ _ _ _ F) D;cases s with
      | zero=>exact W Y E L λC H I s3 x3 Z=>n C H I s3 (O.trans x3) (D.left.trans Z.right)
      | succ s =>
        obtain⟨rfl,rfl⟩:=eh (aF E);have:=n γ u w' L O D.left;cases s with
        | zero=>exact this
        | succ i=>exact this
    | false =>
    rw[hs] at g;obtain⟨r1,F,E⟩:=bind_some g;obtain⟨s,bL⟩:=r1;refine wp_seq (A x X F h λbz u w' J K D=>?_);cases s with
    | zero=>exact W Y E J λC H I L O f2=>n C H I L (K.trans O) (D.left.trans f2.right)
    | succ s =>
      obtain⟨rfl,rfl⟩:=eh (aF E);have:=n bz u w' J K D.left;cases s with
      | zero=>exact this
      | succ i=>exact this
   cases x with
   | region i o d =>
     intro pl σ γ a w e aQ Q m g h n;unfold WT at g;cases hm:cU bf (8900000+i) with
     | false=>rw[hm] at g;exact gen m g h n
     | true =>
       rw[hm] at g;cases h3:three bf y with
       | none =>
         rw[h3] at g;exact A _ m g h n
       | some bcr =>
         obtain⟨b,c,r⟩:=bcr;rw[h3] at g;obtain⟨⟨j,p,q,rfl⟩,rfl,nc1⟩:=XE h3;have g:(eF cx nb bf inl (.seq (.seq (.region i o d)<|.seq (.region j p q) c) r) pl σ).run=aa (e,aQ):=g;unfold eF at g;rw[show yb bf (.seq (.region i o d)<|.seq (.region j p q) c)=true from hm] at g;obtain⟨⟨s,bL⟩,F,E⟩:=bind_some g;have hk:=n8 l _ _ _ _ F;have zero:∀{i o d} {y:Code} {pl σ e aQ},(eF cx nb bf inl (.seq (.region i o d) y) pl σ).run=aa (e,aQ)->∃τ,(eF cx nb bf inl (.region i o d) pl σ).run=aa (0,τ)/\(eF cx nb bf inl y (pl.drop<|marks<|.region i o d) τ).run=aa (e,aQ):=by
          intro i o d y pl σ e aQ g;unfold eF at g;obtain⟨⟨s,τ⟩,g1,g2⟩:=bind_some g;obtain⟨bL,k1,k2⟩:=bind_some g1;obtain⟨rfl,rfl⟩:=eh (aF k2);exact⟨_,g1,g2⟩
         obtain⟨pB,g1,g2⟩:=zero F;obtain⟨n7,g3,g4⟩:=zero g2;have hd1:∀t∈writes (.region i o d),t<N:=λt z=>m t (zd _ z);have hd2:∀t∈writes (.region j p q),t<N:=λt z=>m t (Ad _<|zd _ z);have hd3:∀t∈writes c,t<N:=λt z=>m t (Ad _<|Ad _<|zd _ z);have hd4:∀t∈writes r,t<N:=λt z=>m t (Ad _<|Ad _<|Ad _ z);refine wp_seq (A _ hd1 g1 h.still λγ1 a1 w1 J K D=>?_);refine wp_seq (A _ hd2 g3 J λγ2 a2 w2 L O f2=>?_);refine wp_seq (A _ hd3 g4 L λγ3 a3 w3 s3 x3 Z=>?_);have ff:C6 (writes<|.seq (.region i o d)<|.seq (.region j p q) c) a a3:=(D.left.trans<|(f2.left.trans Z.right).right);obtain⟨s4,x4⟩:=h.back s3 (K.trans<|O.trans x3) hk ff;have f0:C6 (writes<|.seq (.region i o d)<|.seq (.region j p q)<|.seq c r) a a3:=D.left.trans ((f2.left.trans Z.left.right).right);cases s with
         | zero=>exact A _ hd4 E s4 λγ5 a5 w5 s5 x5 f5=>n γ5 a5 w5 s5 (x4.trans x5) (f0.trans f5.right.right.right)
         | succ s =>
           obtain⟨rfl,rfl⟩:=eh (aF E);have:=n γ a3 w3 s4 x4 f0;cases s with
           | zero=>exact this
           | succ k=>exact this
   | _=>intro pl σ γ a w e aQ Q m g h n;exact gen m g h n
 | _=>intro pl σ γ a w e aQ Q m g h n;exact A _ m g h n
end
end Go.Ge
