import Derived.Test.YtgklgliokhbcnaaGreatDoorGeF
import Derived.Scope
import Derived.Laws.Sem
set_option linter.unusedVariables false
set_option linter.unusedSimpArgs false
set_option linter.unusedSectionVars false
set_option linter.defProp false
open Option renaming some->aa,none->af
namespace Go.Ge
open RowKit
section
variable {cx:Ctx} {nb:Nat} {bf:List Nat} {inl:Nat->List cw->St->Tree (cw×St)} {ops:Array Oper} {fp:Nat->Fp}
abbrev Gst:=St×(Nat->Bool)
def FI(b:Array Oper)(o:Oper)(s:Gst):Option Bool:=match o.guard with|none=>aa true|some (g,want)=>match(b[g]?).bind (·.dst) with|none=>af|some dg=>bif s.2 g then aa false else match s.1.bj dg with|.data .bool c=>aa ((show Bool from c)==want)|_=>af
def qm(c:Ctx)(d:Nat)(e:List Nat)(inl:Nat->List cw->St->Tree (cw×St))(b:Array Oper)(f:Fp)(i:Nat)(o:Oper)(s:Gst):Option Gst:=match FI b o s with|none=>af|some true=>(jK c d e inl f o s.1).run.map λσ=>(σ,s.2)|some false=>aa (s.1.bu o.dst .undef,lp i s.2)
def alP:St:={ bj:=λ_=>.undef,mem:=λ_=>af }
def VS σ d:σ.bu d .undef=lay σ d [] alP:=by cases d with|none=>rfl|some k=>rfl
def Q6{f i o s k}(l:f.LF=false)(h:qm cx nb bf inl ops f i o s=aa k):∃b d τ,FI ops o s=aa b/\k=(lay s.1 o.dst d τ,bif b then s.2 else lp i s.2)/\(∀x∈d,x∈f.wr) /\
  ∀c,FI ops o c=aa b->(b=true->c.1.only (tmpsOf<|iL o.op) f.rd=s.1.only (tmpsOf<|iL o.op) f.rd)->qm cx nb bf inl ops f i o c=aa (lay c.1 o.dst d τ,bif b then c.2 else lp i c.2):=by
 unfold qm at h;cases hd:FI ops o s with|none=>rw[hd] at h;cases h|some b =>rw[hd] at h;cases b with|true =>(obtain⟨aV,e,rfl⟩:=Fm.1 h;unfold jK at e;rw[l] at e;obtain⟨τ,m,n⟩:=bind_some e;obtain rfl:=aI n;refine⟨true,f.wr,τ,rfl,rfl,λx g=>g,λc j p=>?_⟩;unfold qm;rw[j];simp only;unfold jK;rw[l];simp;rw[Tree.run_bind,p rfl,m];rfl)|false =>obtain rfl:=aI h;refine⟨false,[],alP,rfl,by rw[VS];rfl,λx g=>(nomatch g),λc j _=>?_⟩;unfold qm;rw[j,VS];rfl
def VT{i j x y f g}(h:CE ops i j x y f g=true):f.LF=false/\g.LF=false/\(∀b∈f.wr,b∉g.rd)/\(∀b∈g.wr,b∉f.rd)/\Ap x j=true/\Ap y i=true /\
  (∀d,x.dst=aa d->d∉Fs ops y)/\(∀d,y.dst=aa d->d∉Fs ops x)/\(∀d e,x.dst=aa d->y.dst=aa e->d≠e):=by
 simp only[CE,gO,Ez] at h;obtain⟨⟨⟨⟨⟨⟨⟨n,o⟩,p⟩,r⟩,s⟩,t⟩,c⟩,l⟩:=h;refine⟨n,o,λb m=>DV p m,λb m=>DV r m,s,t,λd k=>?_,λd k=>?_,λd e k u=>?_⟩
 .rw[k] at c;simp at c;exact kS.1 c.1
 .rw[k] at l;simp at l;exact kS.1 l
 .rw[k,u] at c;intro q;subst q;simp at c
def Nh{i o s d wr τ b}(h:Ap o i=true)(q:∀k,d=aa k->k∉Fs ops o):FI ops o (lay s.1 d wr τ,bif b then s.2 else lp i s.2)=FI ops o s:=by unfold FI;cases c:o.guard with|none=>rfl|some p =>obtain⟨g,n⟩:=p;dsimp only;cases j:(ops[g]?).bind _ with|none=>rfl|some dg =>(dsimp only;have l:Nat.beq g i=false:=by unfold Ap at h;rw[c] at h;simpa using h);(have r:(bif b then s.2 else lp i s.2) g=s.2 g:=by cases b with|true=>rfl|false=>simp only[Cp,lp,l,aeA]);(have t:(lay s.1 d wr τ).bj dg=s.1.bj dg:=by unfold lay;cases d with|none=>rfl|some k =>(have m:dg≠k:=λe=>q k rfl (by unfold Fs QU;rw[c];dsimp only;rw[j];subst e;exact rU ..));simp[ja m]);rw[r,t]
def afi σ {h i j l c g} (hd:∀d e,h=aa d->i=aa e->d≠e) (p:∀b∈j,b∉l):lay (lay σ i l g) h j c=lay (lay σ h j c) i l g:=by
 unfold lay;congr 1
 {cases h with|none=>rfl|some k =>cases i with|none=>rfl|some e =>have m:=hd k e rfl rfl;funext t;by_cases n:t=k;{subst n;simp[ja m]};by_cases q:t=e;{simp[ja n]};simp[ja n]};funext b;dsimp only;cases o:dm j b with|false=>rfl|true =>have:=p b (qz.1 o);simp[kS.2 this]
def YT{i j g l c m s s1 s2}(n:CE ops i j g l c m=true)(p:∀b∈c.wr,b∈c.rd)(C:qm cx nb bf inl ops c i g s=aa s1)(D:qm cx nb bf inl ops m j l s1=aa s2) :
  ∃d,qm cx nb bf inl ops m j l s=aa d/\qm cx nb bf inl ops c i g d=aa s2:=by
 obtain⟨E,F,G,t,H,I,u,v,J⟩:=VT n;obtain⟨K,Z,L,O,R,x,S⟩:=Q6 E C;subst R;obtain⟨T,wj,U,y,W,z,X⟩:=Q6 F D;subst W;rw[Nh I u] at y;have A:∀{o k},k∉Fs ops o->k∉tmpsOf _:=λh Y=>h (KG _ Y);refine⟨_,(X s y λ_=>(G6 (λk q=>A (u k q)) λb e=>G b (x b e)).symm),?_⟩;rw[(S _ (by rw[Nh H v];exact O) λ_=>G6 (λk q=>A (v k q)) λb e=>t b (z b e))]
 congr 1
 refine Prod.ext (afi s.1 J λb e r=>t b (z b r) (p b<|x b e)) ?_
 .dsimp only;cases K<;>cases T<;>first|rfl|skip
  simp;funext k;simp only[lp];cases Nat.beq k i<;>cases Nat.beq k j<;>rfl
def Tj(c:Ctx)(d:Nat)(e:List Nat)(inl:Nat->List cw->St->Tree (cw×St))(b:Array Oper)(g:Nat->Fp)(Q:Gst->Prop):Nat->Array Bool->Gst->Prop|0,listed,s=>Region.ready .any b listed=[]/\Q s|n+1,listed,s=>(Region.ready .any b listed=[]->Q s) /\∀i∈Region.ready .any b listed,∃o h,b[i]?=aa o/\qm c d e inl b (g i) i o s=aa h/\Tj c d e inl b g Q n (listed.setIfInBounds i true) h
variable {Q:Gst->Prop}
def YU{i p}(D:ops[i]?=aa p)(u:∀b∈(fp i).wr,b∈(fp i).rd):∀n c s q,
  Tg ops c->(∀j r,ops[j]?=aa r->j≠i->c.getD j true=false->Reach ops j i\/CE ops i j p r (fp i) (fp j)=true) ->i∈Region.ready .any ops c->qm cx nb bf inl ops (fp i) i p s=aa q->Tj cx nb bf inl ops fp Q n (c.setIfInBounds i true) q->Tj cx nb bf inl ops fp Q (n+1) c s:=by
 intro n;induction n with|zero =>intro c s q e g m A H;refine⟨λh=>(by rw[h] at m;cases m),λj t=>?_⟩;by_cases d:j=i;{subst d;exact⟨p,q,D,A,H⟩};have:=ready_mono t d;rw[H.1] at this;cases this|succ n G =>intro c s q e g m A H;refine⟨λh=>(by rw[h] at m;cases m),λj t=>?_⟩;by_cases d:j=i;{subst d;exact⟨p,q,D,A,H⟩};(obtain⟨r,I,v,J,K⟩:=H.2 j (ready_mono t d);obtain⟨l,L,E,F⟩:=mem_ready.1 t;have o:CE ops i j p r (fp i) (fp j)=true:=by rcases g j r v d l with O|o;{exact(VR (mem_ready.1 m).1<|O.ready e t).elim};exact o);obtain⟨x,R,S⟩:=YT o u A J;refine⟨r,x,v,R,G _ x I (e.list t) (λk T U C y=>g k T U C ?_) (ready_mono m<|JR d) S ?_⟩;{by_cases z:j=k;{subst z;exact l};rw[getD_set_ne true z] at y;exact y};rw[ajh _ _ d];exact K
end
end Go.Ge
namespace Go.Ge
open RowKit
section
variable {P:Program} {B:CG} {N:Nat} {γ:Gh} {cx:Ctx} {nb:Nat} {bf:List Nat} {inl:Nat->List cw->St->Tree (cw×St)} {σ aV:St} {ops:Array Oper} {fp:Nat->Fp}
def afj{b:St}{d v}(h:b.bj d=v):b.put d v=b:=by unfold St.put;congr 1;funext t;cases c:Nat.beq t d with|true=>(obtain rfl:=gP c;exact h.symm)|false=>rfl
def ahX(d:Ctx)(g:Nat)(h:List Nat)(inl:Nat->List cw->St->Tree (cw×St))(b:Array Oper)(c:Nat->Fp):Nat->List Oper->Gst->Gst->Prop|_,[],s,s'=>s=s'|k,o::l,s,s'=>(((c k).LF=false->VO d g o (c k))/\((c k).LF=true->(c k).wr=[]))/\(∀e∈o.after,Region.binds .any e=true->e.on<k) /\(∀j i,l[j]?=aa i->Reach b (k+1+j) k\/CE b k (k+1+j) o i (c k) (c<|k+1+j)=true) /\∃m,qm d g h inl b (c k) k o s=aa m/\ahX d g h inl b c (k+1) l m s'
def J8{i o f b k m mk ok r}(h:Ft ops i o f m ((k,ok,b,mk)::r)=true):(Nat.testBit m k=true\/CE ops k i ok o b f=true)/\Ft ops i o f m r=true:=by simp only[Ft,gO,Mk] at h;exact h
def Ni{i o r done d}(h:(x8 cx nb bf inl ops ((i,o)::r) done σ d).run=aa aV) :
  ∃l,Ft ops i o (CD cx nb o σ) (mask done o) done=true/\(∀e∈o.after,Region.binds .any e=true->e.on<i)/\qm cx nb bf inl ops (CD cx nb o σ) i o (σ,d)=aa l /\(x8 cx nb bf inl ops r ((i,o,CD cx nb o σ,mask done o)::done) l.1 l.2).run=aa aV:=by
 simp only[x8] at h;obtain⟨z,k⟩:=aA h;simp only[gO] at z;obtain⟨x,s⟩:=z;have p:∀e∈o.after,Region.binds .any e=true->e.on<i:=λe A C=>by rw[<-Array.all_toList,w8] at s;have:=s e (by simpa using A);rw[C] at this;have:=KF (by simpa [Nat.blt] using this);omega
 suffices ∃l,qm cx nb bf inl ops _ i o _=aa l/\(x8 cx nb bf inl ops r _ l.1 l.2).run=aa aV by obtain⟨l,D,E⟩:=this;exact⟨l,x,p,D,E⟩
 split at k
 .rename_i v;obtain⟨bO,q,t⟩:=bind_some k;refine⟨(bO,d),?_,t⟩;have hd:FI ops o (σ,d)=aa true:=by unfold FI;rw[v]
  unfold qm;rw[hd,q];rfl
 .rename_i g b v;split at k;{cases k};rename_i F u;cases m:d g with|true =>(rw[m] at k;refine⟨(σ.bu o.dst .undef,lp i d),?_,k⟩;have hd:FI ops o (σ,d)=aa false:=by unfold FI;rw[v];dsimp only;rw[u,m];rfl);unfold qm;rw[hd]|false =>rw[m] at k;split at k;{(rename_i c j;change Bool at c;have hn:=gV k;have hd:FI ops o (σ,d)=aa (c==b):=by unfold FI;rw[v];dsimp only;rw[u,m];simp;rw[j]);(have n:=afj j;have run:∀{bO},(jK cx nb bf inl (CD cx nb o σ) o σ).run=aa bO->(c==b)=true->qm cx nb bf inl ops _ i o _=aa (bO,d):=λq y=>by unfold qm;rw[hd,y,q];rfl);(have skip:(c==b)=false->qm cx nb bf inl ops (CD cx nb o σ) i o _=aa _:=λy=>by unfold qm;rw[hd,y]);cases c with|true =>(rw[n] at hn;cases b with|true=>(obtain⟨bO,q,t⟩:=bind_some hn;exact⟨(bO,d),run q rfl,t⟩)|false=>exact⟨_,skip rfl,hn⟩)|false =>rw[n] at hn;cases b with|true=>exact⟨_,skip rfl,hn⟩|false=>obtain⟨bO,q,t⟩:=bind_some hn;exact⟨(bO,d),run q rfl,t⟩};cases k
def P0:∀l k c σ n,(∀j o,l[j]?=aa o->ops[k+j]?=aa o)->vf ops c->(x8 cx nb bf inl ops (number k l) c σ n).run=aa aV ->
  ∃(g:List (Fp×Nat)) (i:Nat->Bool),g.length=l.length/\(∀j m b,g[j]?=aa m->Nat.testBit m.2 b=true->Reach ops (k+j) b) /\∀fp,(∀j f,g[j]?=aa f->fp (k+j)=f.1)->ahX cx nb bf inl ops fp k l (σ,n) (aV,i)/\∀j o f,l[j]?=aa o->g[j]?=aa f->Ft ops (k+j) o (fp<|k+j) f.2 c=true:=by
 intro l;induction l with|nil =>(intro k c σ n _ _ h;obtain rfl:=aI h;exact⟨[],n,rfl,λj m b h=>absurd h aT,λfp _=>⟨rfl,λj o f d=>absurd d aT⟩⟩)|cons o l D =>intro k c σ n v x h;obtain⟨t,E,F,G,H⟩:=Ni h;have y:=v 0 o rfl;obtain⟨g,i,z,A,I⟩:=D _ _ t.1 t.2 (λj u d=>by have:=v (j+1) u (by simpa using d);rw[<-this];congr 1;omega) (x.cons y) H;refine⟨(CD cx nb o σ,mask c o)::g,i,by simp[z],λj m b d e=>?_,λfp p=>?_⟩;{cases j with|zero=>(obtain rfl:=aI d;exact FH x y e)|succ j=>have:=A j m b (by simpa using d) e;rw[show k+_=k+1+j by omega];exact this};(have r:fp k=CD cx nb o σ:=p 0 _ rfl;obtain⟨J,C⟩:=I fp λj f d=>by have:=p (j+1) f (by simpa using d);rw[<-this];congr 1;omega);refine⟨⟨⟨λe=>by rw[r] at e⊢;exact LM o σ e,λe=>by rw[r] at e⊢;exact afg o σ e⟩,F,λj K d=>?_,t,by rw[r];exact G,J⟩,λj u f d s=>?_⟩;{obtain⟨f,s⟩:∃f,g[j]?=aa f:=⟨_,ft (by rw[z];exact(iQ.1 d).1)⟩;rcases(J8<|C j K f d s).1 with q|q;{exact .inl (A j f k s q)};rw[r];exact .inr q};cases j with|zero =>(obtain rfl:=aI d;obtain rfl:=aI s;rw[Gr,r];exact E)|succ j =>have:=(J8<|C j u f (by simpa using d)<|by simpa using s).2;rw[show k+_=k+1+j by omega];exact this
def afk{s'}:∀l k c s,(∀j,l[j]?=ops[k+j]?)->c.size=ops.size->(∀j,j<k->j<ops.size->c.getD j false=true) ->
  (∀j,k<=j->j<ops.size->c.getD j true=false)->Tg ops c->ahX cx nb bf inl ops fp k l s s'->Tj cx nb bf inl ops fp (·=s') l.length c s:=by
 intro l;induction l with
 | nil =>intro k c s x hs y D d h;refine⟨?_,h⟩;cases J:Region.ready .any ops c with|nil=>rfl|cons i r =>obtain⟨E,o,G,_⟩:=mem_ready.1 (by rw[J];exact rU ..);have n:=(xU.1 G).1;rcases ug i k with v|v;{have:=y i v n;simp[hs,n] at this E;rw[this] at E;cases E};have:=x (i-k);rw[show k+_=i by omega,G] at this;cases this
 | cons o l K =>
   (intro k c s x hs y D d h;have v:ops[k]?=aa o:=by simpa using(x 0).symm);(have n:=(xU.1 v).1;obtain⟨H,L,O,I,R,S⟩:=h;have g:=mem_ready.2 ⟨D k (b0 _) n,o,v,λe T z=>by have:=L e T z;exact y e.on this ah⟩);refine YU v (λb z=>by cases p:(fp k).LF with|true=>rw[H.2 p] at z;cases z|false=>exact(H.1 p).sub b z) l.length c s I d (λj U C W t=>?_) g R (K _ _ I (λj=>?_) (by simp[hs]) (λj C u=>?_) (λj C u=>?_) (d.list g) S)
   {have q:=(xU.1 C).1;rcases ug j k with A|A;{exfalso;have:=y j A q;simp[hs,q] at this t;rw[this] at t;cases t};have F:=x (j-k);rw[show k+_=j by omega,C] at F;obtain⟨m,X⟩:∃m,j-k=m+1:=⟨j-k-1,ah⟩;rw[X] at F;have:=O m U (by simpa using F);rw[show k+1+m=j by omega] at this;exact this};{have:=x (j+1);rw[show k+1+j=k+(j+1) by omega,<-this];simp};{by_cases e:j=k;{subst e;simp[hs,n]};rw[getD_set_ne false<|JR e];exact y j ah u};rw[getD_set_ne true (by omega:k≠j)];exact D j ah u
def Nj(c:∀f d σ v aV,(inl f d σ).run=aa (v,aV)->bY σ aV):∀l k b σ aV g,(x8 cx nb bf inl ops (number k l) b σ g).run=aa aV->bY σ aV:=by intro l;induction l with|nil=>(intro k b σ aV g h;obtain rfl:=aI h;apply bY.refl)|cons o l i =>intro k b σ aV g h;obtain⟨n,p,q,e,j⟩:=Ni h;refine bY.trans ?_ (i _ _ _ _ _ j);unfold qm at e;split at e;{cases e};{obtain⟨bO,m,rfl⟩:=Fm.1 e;exact CO c bO (DU (LM o σ) m)};obtain rfl:=aI e;apply bY.bu
end
end Go.Ge
namespace Go.Ge
open RowKit
section
variable {P:Program} {B:CG} {N:Nat} {γ:Gh} {cx:Ctx} {nb:Nat} {bf:List Nat} {inl:Nat->List cw->St->Tree (cw×St)} {σ aV:St} {ops:Array Oper} {fp:Nat->Fp}
def YV{l:List Oper}{j:Nat}{o}{d:Nat}(h:l[j]?=aa o)(b:o.dst=aa d):d∈pv.Io l:=by induction l generalizing j with|nil=>cases h|cons p l c =>cases j with|zero=>(obtain rfl:=aI h;simp only[pv.Io,b];exact rU ..)|succ j =>have:=c (by simpa using h);simp only[pv.Io];split;{exact wZ _ this};exact this
def Nk:∀{l},pv l=true->∀{i j:Nat} {x y} {d:Nat},i<j->l[i]?=aa x->l[j]?=aa y->x.dst=aa d->y.dst≠aa d:=by intro l;induction l with|nil=>intro _ i j x y d _ h;cases h|cons p l n =>(intro h i j x y d o e q g k;simp only[pv,gO] at h;obtain⟨m,rfl⟩:∃m,j=m+1:=⟨j-1,ah⟩;have b:l[m]?=aa y:=by simpa using q);cases i with|zero =>(obtain rfl:=aI e;have c:=h.1;rw[g] at c;simp at c;exact kS.1 c (YV b k))|succ i=>exact n h.2 (i:=i) ah (by simpa using e) b g k
def YW(h:pv ops.toList=true){i j:Nat}{x y}{d:Nat}(b:i≠j)(e:ops[i]?=aa x)(g:ops[j]?=aa y)(k:x.dst=aa d):y.dst≠aa d:=by
 rcases Nat.lt_or_gt_of_ne b with c|c
 {exact Nk h c (by simpa using e) (by simpa using g) k};intro l;exact Nk h c (by simpa using g) (by simpa using e) l k
def YX(c:Array Oper)(d:Nat->Bool)(b:Array Bool)(a:Act):Prop:=∀k,d k=true->yielded c a.tmps k=af/\b.getD k true=true
def zj{a:Act}{i k o v}(b:pv ops.toList=true)(d:ops[i]?=aa o)(c:k≠i):yielded ops (a.put o.dst v).tmps k=yielded ops a.tmps k:=by unfold yielded;cases e:ops[k]? with|none=>rfl|some y =>simp;cases hd:y.dst with|none=>rfl|some g =>simp;have:=YW b c e d hd;rw[gz this]
def YX.run{d listed a i o v}(h:YX ops d listed a)(c:pv ops.toList=true)(l:ops[i]?=aa o)(g:listed.getD i true=false):YX ops d (listed.setIfInBounds i true) (a.put o.dst v):=λk m=>by
 obtain⟨n,j⟩:=h k m;have b:k≠i:=λe=>by subst e;rw[j] at g;cases g
 exact⟨by rw[zj c l b];exact n,by rw[getD_set_ne true<|JR b];exact j⟩
def YX.skip{c listed a i o}(h:YX ops c listed a)(d:pv ops.toList=true)(g:ops[i]?=aa o)(m:listed.getD i true=false):YX ops (lp i c) (listed.setIfInBounds i true) (a.put o.dst Go.undef):=λk j=>by
 by_cases b:k=i
 .subst b;refine⟨G2 g,?_⟩;rcases ug k listed.size with l|l;{simp};simp[UO l] at m
 have e:c k=true:=by simp only[lp,ja b] at j;exact j
 obtain⟨n,p⟩:=h k e;exact⟨by rw[zj d g b];exact n,by rw[getD_set_ne true<|JR b];exact p⟩
def P1(hc:ga P cx)(D:ql P B.G cx)(E:zf P B.G inl){Q}(F:pv ops.toList=true)(K:∀i o,ops[i]?=aa o->(fp i).LF=false->VO cx nb o (fp i))
  (hd:∀o∈ops.toList,∀k,o.dst=aa k->k<N):∀n d s γ a w,Tj cx nb bf inl ops fp (λs=>s.1=aV) n d s->dG B N γ s.1 a w->YX ops s.2 d a ->(∀bF L w',dG B N bF aV L w'->Ext B γ s.1.mem w bF aV.mem w'->Fr (number 0 ops.toList) a L->Q .normal L w')->wpAny P .any ops Q n d a w:=by
 intro n;induction n with|zero =>(intro d s γ a w h hs r y;obtain⟨u,O⟩:=h;rw[<-O] at y;exact⟨u,y γ a w hs (Ext.refl _ _ _ _) λt _=>rfl⟩)|succ n ih =>intro d s γ a w h hs r y;refine⟨λh0=>?_,λi hi=>?_⟩;{have O:=h.1 h0;rw[<-O] at y;exact y γ a w hs (Ext.refl _ _ _ _) λt _=>rfl};(obtain⟨o,s1,u,H,h4⟩:=h.2 i hi;have I:=(mem_ready.1 hi).1;have x:o∈ops.toList:=by have:=aef u;simpa using this);(have j:(i,o)∈number 0 ops.toList:=by have:=Nf (l:=ops.toList) (k:=0) (by simpa using u);simpa using this);(have hw:∀b,FI ops o s=aa b->Region.wanted o (yielded ops a.tmps)=b:=by intro b e;unfold FI at e;cases m:o.guard with|none =>(rw[m] at e;obtain rfl:=aI e;unfold Region.wanted;rw[m])|some p =>obtain⟨g,J⟩:=p;rw[m] at e;dsimp only at e;split at e;{cases e};rename_i dg R;cases S:s.2 g with|true =>(rw[S] at e;obtain rfl:=aI e;unfold Region.wanted;rw[m];simp only[(r g S).1];rfl)|false =>rw[S] at e;split at e;{rename_i c z;obtain rfl:=aI e;have A:=J5 hs z;unfold Region.wanted;rw[m];simp only[yielded,R,UK,A];cases c<;>cases J<;>rfl};cases e);unfold wpOp;rw[u];dsimp only;unfold qm at H;split at H;{cases H};{rename_i q;obtain⟨bO,q1,rfl⟩:=Fm.1 H;rw[hw true q];refine .inl (MX hc D E hs (hd o x) (DU (K i o u) q1) λT v w1 s1 x1=>?_);refine ih _ _ T _ w1 h4 s1 (r.run F u I) λC U W X Y Z=>y C U W X (x1.trans Y) λt A=>?_;rw[Z t A,gz (Ng A j)]};(rename_i q;obtain rfl:=aI H;rw[hw false q];have hm:(s.1.bu o.dst .undef).mem=s.1.mem:=by cases o.dst<;>rfl);refine ih _ _ γ _ w h4 (hs.ya (hd o x) ⟨_,rfl⟩) (r.skip F u I) λC U W X Y Z=>y C U W X (by rw[<-hm];exact Y) λt A=>?_;rw[Z t A,gz (Ng A j)]
def Tj.mono{Q Q'}(b:∀s,Q s->Q' s):∀{n listed s},Tj cx nb bf inl ops fp Q n listed s->Tj cx nb bf inl ops fp Q' n listed s:=by intro n;induction n with|zero=>intro listed s h;exact⟨h.1,b _ h.2⟩|succ n c =>intro listed s h;refine⟨λd=>b _ (h.1 d),λi e=>?_⟩;obtain⟨o,g,j,k,l⟩:=h.2 i e;exact⟨o,g,j,k,c l⟩
def G7(c:P.follows .mixedOrders=true)(v:ga P cx)(d:ql P B.G cx)(g:zf P B.G inl){Q id a w}(n:pv ops.toList=true)
  (y:∀o∈ops.toList,∀k,o.dst=aa k->k<N) (z:(x8 cx nb bf inl ops (number 0 ops.toList) [] σ λ_=>false).run=aa aV) (h:dG B N γ σ a w) (A:∀bF m w',dG B N bF aV m w'->Ext B γ σ.mem w bF aV.mem w'->Fr (number 0 ops.toList) a m->Q .normal m w'):(Code.region id ops true).wp P Q a w:=by
 refine wp_region_any c ?_;obtain⟨C,D,R,S,E⟩:=P0 ops.toList 0 [] σ _ (λj o b=>by simpa using b) vf.nil z
 let fp:Nat->Fp:=λi=>(C[i]?.map (·.1)).getD ⟨[],[],true,af⟩
 obtain⟨t,_⟩:=E fp λj f b=>by simp[fp,b]
 have key:∀l k s s',ahX cx nb bf inl ops fp k l s s'->∀j o,l[j]?=aa o->(fp<|k+j).LF=false->VO cx nb o (fp<|k+j):=by
  intro l;induction l with|nil=>intro k s s' _ j o b;cases b|cons o l F =>intro k s s' H j I b;obtain⟨J,T,U,p,W,K⟩:=H;cases j with|zero=>(obtain rfl:=aI b;exact J.1)|succ j=>rw[show k+_=k+1+j by omega];exact F _ p s' K j I (by simpa using b)
 have L:=afk (s':=_) ops.toList 0 (Array.replicate ops.size false) _ aT aT (λj b=>ah) (λj _ b=>by simp[b]) (λi o e q=>by rcases ug i ops.size with u|u<;>simp[u] at q) t
 have r:=Tj.mono (Q':=λs=>s.1=aV) (λs hs=>by rw[hs]) L;obtain⟨p,O⟩:=h.draw _;refine P1 v d g n (λi o q=>by have:=key _ 0 _ _ t i o (by simpa using q);simpa using this) y _ _ _ γ a _ (by simpa using r) p Cu λbF m w' s x f=>A bF m w' s (O.trans x) f
def VU(b:P.follows .mixedOrders=true)(z:ga P cx)(c:ql P B.G cx)(g:zf P B.G inl)(m:∀f p σ v aV,(inl f p σ).run=aa (v,aV)->bY σ aV){Q id a w}
  (s:∀o∈ops.toList,∀k,o.dst=aa k->k<N) (q:(Aq cx nb bf inl ops σ).run=aa aV) (h:dG B N γ σ a w) (A:∀bF C w',dG B N bF aV C w'->Ext B γ σ.mem w bF aV.mem w'->Fr (number 0 ops.toList) a C->Q .normal C w'):(Code.region id ops true).wp P Q a w:=by
 unfold Aq at q;cases J:ops.any λo=>o.guard.isSome with|true =>(rw[J] at q;obtain⟨r,j⟩:=aA q;split at j;{exact G7 b z c g r s j h A};rename_i d t l;rw[Tree.x4] at j;obtain⟨x,hn,D⟩:=Co.1 j;obtain⟨τ,K,E⟩:=bind_some hn;split at E;(case h_2=>exact absurd E cp);(rename_i Z F;obtain rfl:=aI E;obtain rfl:=aI D;have T:∀k,aa d=aa k->k<N:=λk U=>by obtain rfl:=aI U;unfold Vh at l;split at l;(case h_2=>cases l);rename_i o W;split at l;(case h_2=>cases l);rename_i L t' H _;cases O:dm bf (8700000+L) with|false=>rw[O] at l;cases l|true =>rw[O] at l;obtain⟨rfl,rfl⟩:=eX (aI l);exact s o (by simpa using Array.mem_of_back? W) L H);refine G7 b z c g r s K h.gU λn X I u Y R=>?_;obtain⟨m1,S⟩:=h.ok.unlock (G0<|Nj m _ _ _ _ _ _ K) u.ok Y;have y:=(h.go S m1).undef R u.size u.defers;refine A n X I ⟨λi=>?_,y.size,y.defers,y.ok⟩ ?_ R;{by_cases e:i=d;{subst e;have:=S5 F (u.bj i) (mem':=(σ.undef<|number 0 ops.toList).mem);simpa [St.bu,St.put] using this};show cQ n _ I (bif Nat.beq i d then _ else(σ.undef _).bj i) _ _;rw[ja e];exact y.bj i};show Ext B γ σ.mem w n (σ.undef _).mem I;rw[sk];exact S)|false =>rw[J] at q;exact Ti b z c g s q h A
end
end Go.Ge
namespace Go.Ge
open RowKit
def xg(f:Nat->eF->Bool)(c:Nat->Option eF):Nat->Option eF:=λb=>match c b with|some d=>aa { d with lk:=f b d }|none=>af
section
variable {P:Program} {B:CG} {N:Nat} {γ X7:Gh} {mem m0 me m1:Nat->Option eF} {w w0:World} {f:Nat->eF->Bool}
def Q7{b c}(h:mem b=aa c):xg f mem b=aa { c with lk:=f b c }:=by simp[xg,h]
def VV{b d}(h:xg f mem b=aa d):∃c,mem b=aa c/\d={ c with lk:=f b c }:=by
 simp only[xg] at h;split at h
 {rename_i c e;exact⟨c,e,(aI h).symm⟩};cases h
def Ext.xg:Ext B γ mem w γ (xg f mem) w where
 below:=xc.refl _ _
 I:=λ_ _ h=>h
 sI:=λ_ _ h=>.inl h
 cells:=λ_ _ _=>rfl
 boxes:=λb d c=>⟨_,Q7 c,b0 _,λ_=>⟨rfl,rfl,rfl⟩⟩
def bH.xg(h:bH B γ mem w):bH B γ (Go.Ge.xg f mem) w:=by
 have g:∀{b},Go.Ge.xg f mem b≠af->mem b≠none:=by intro b e m;apply e;simp[Go.Ge.xg,m]
 exact
  { vR:=h.vR
    base:=h.base
    boxes:=λb n e=>by obtain⟨i,h0,rfl⟩:=VV e;exact(h.boxes b i h0).keep (Ext.xg (B:=B)) rfl (λ_ _ _=>rfl)
    inj:=λb c d k o e p j q=>h.inj b c d k o (g e) (g p) j q
    fresh:=λb d k e j=>h.fresh b d k (g e) j
    vQ:=h.vQ
    sep:=λb n d k l e j r=>by
     obtain⟨i,h0,rfl⟩:=VV e;exact h.sep b i d k l h0 j r }
def dG.xg{σ a}(h:dG B N γ σ a w):dG B N γ { σ with mem:=Go.Ge.xg f σ.mem } a w:=h.go Ext.xg h.ok.xg
def Mid(g h i:Nat->Option eF):Prop:=∀b d,g b=aa d->∃c,i b=aa c/\d.aR<=c.aR /\(c.aR=d.aR->∃e,h b=aa e/\e.aR=d.aR/\e.buf=c.buf/\e.row=c.row)
def oI.down(l:Mid m0 me m1){b aR m K i}(n:oI m0 b aR m)(h:oI me b aR K)(o:∀d c,d.buf=c.buf->d.row=c.row->K d->i c):oI m1 b aR i:=by obtain⟨g,p,x,_⟩:=n;obtain⟨d,q,y,r⟩:=h;obtain⟨c,s,z,t⟩:=l b g p;refine⟨c,s,ah,λe=>?_⟩;obtain⟨j,k,A,u,v⟩:=t ah;rw[q] at k;obtain rfl:=aI k;exact o d c u v (r ah)
def cQ.down(d:Mid m0 me m1):∀{v m us vs},cQ X7 m0 w0 v m us->cQ γ me w v m vs->cQ γ m1 w v m vs:=by intro v;induction v with|undef=>intro m us vs _ r;cases m<;>exact r|data t x=>intro m us vs _ r;cases m<;>exact r|qw=>intro m us vs _ r;cases m<;>exact r|vN=>intro m us vs _ r;cases m<;>exact r|cell t x=>intro m us vs _ r;cases m<;>exact r|nl=>intro m us vs _ r;cases m<;>exact r|vO=>intro m us vs _ r;cases m<;>exact r|za b aR =>(intro m us vs c r;cases m with|many=>exact r|cells=>exact⟨r.1,c.2.down d r.2 λ_ _ _ _ k=>k⟩|val=>exact⟨r.1,c.2.down d r.2 λ_ _ _ _ k=>k⟩)|ptr b aR p =>(intro m us vs c r;cases m with|many=>exact r|cells=>exact⟨r.1,c.2.down d r.2 λ_ _ _ _ k=>k⟩|val=>exact⟨r.1,c.2.down d r.2 λ_ _ _ _ k=>k⟩)|whole b aR =>(intro m us vs c r;cases m with|many=>exact r|cells=>exact⟨r.1,c.2.down d r.2 λ_ _ l o k=>by rw[<-l,<-o];exact k⟩|val=>exact⟨r.1,c.2.down d r.2 λ_ _ l o k=>by rw[<-l,<-o];exact k⟩)|part b aR lo n =>(intro m us vs c r;cases m with|many=>exact r|cells=>exact⟨r.1,c.2.down d r.2 λ_ _ l o k=>by unfold GD at k⊢;rw[<-l,<-o];exact k⟩|val=>exact⟨r.1,c.2.down d r.2 λ_ _ l o k=>by unfold GD at k⊢;rw[<-l,<-o];exact k⟩)|win b aR q e k lo n =>(intro m us vs c r;cases m with|many=>exact r|cells=>exact⟨r.1,c.2.down d r.2 λ_ _ l o k=>k⟩|val=>exact⟨r.1,c.2.down d r.2 λ_ _ l o k=>k⟩)|fn f H =>(intro m us vs c r;cases m with|many=>exact r|cells=>(obtain⟨_,_,_,s⟩:=c;obtain⟨g,h,j,G⟩:=r;exact⟨g,h,j,λi b aR A=>(s i b aR A).down d (G i b aR A) λ_ _ _ _ k=>k⟩)|val=>obtain⟨_,_,_,s⟩:=c;obtain⟨g,h,j,G⟩:=r;exact⟨g,h,j,λi b aR A=>(s i b aR A).down d (G i b aR A) λ_ _ _ _ k=>k⟩)|mix a b y z =>(intro m us vs c r;cases m with|cells=>(obtain⟨_,_,_,C,D⟩:=c;obtain⟨E,F,c,h,j⟩:=r;exact⟨E,F,c,y C h,z D j⟩)|val=>(obtain⟨_,_,_,C,D⟩:=c;obtain⟨E,F,c,h,j⟩:=r;exact⟨E,F,c,y C h,z D j⟩)|many=>obtain⟨_,_,_,C,D⟩:=c;obtain⟨E,F,c,h,j⟩:=r;exact⟨E,F,c,y C h,z D j⟩)|Ct u I =>intro m us vs c r;cases m with|val=>(obtain⟨_,_,s⟩:=c;obtain⟨g,h,j⟩:=r;exact⟨g,h,I s j⟩)|cells=>exact r|many=>exact r
def afl(M:Nat->Bool)(V:Nat->Bool->Bool)(e g h:Nat->Option eF):Prop:=∀b c,e b=aa c->∃d Q8,g b=aa d/\h b=aa Q8/\d.buf=c.buf/\Q8.buf=c.buf/\Q8.row=d.row /\Q8.aR=(bif M b&&V b c.buf then c.aR+1 else c.aR)/\((M b&&V b c.buf)=false->d.aR=c.aR)
def afl.mid{M V}(h:afl M V m0 me m1):Mid m0 me m1:=λb c l=>by obtain⟨i,d,m,k,n,o,p,g,q⟩:=h b c l;cases j:(M b&&V b c.buf) with|true =>rw[j] at g;simp at g;exact⟨d,k,ah,λe=>absurd e ah⟩|false =>rw[j] at g;simp at g;exact⟨d,k,ah,λe=>⟨i,m,q j,n.trans o.symm,p.symm⟩⟩
def Nl:Sh->cw->Prop|.d _,_=>True|.k v,u=>v=u|.m a b,u=>∃p q,u=.mix p q/\Nl a p/\Nl b q
def ahY v:Nl (ahE v) v:=by induction v with|mix a b c d=>exact⟨a,b,rfl,c,d⟩|data t x=>trivial|_=>rfl
def afm{t v y}(h:toD t v=aa y){m vs}(b:cQ γ me w v m vs):cQ γ m1 w (.data t y) m vs:=by
 unfold toD at h;split at h
 .obtain⟨q,c⟩:=Ty.my h;subst q;subst c;cases m<;>exact b
 {split at h;{obtain rfl:=aI h;cases m with|many=>exact b|cells=>exact .inl ⟨⟨af,b⟩,rfl⟩|val=>exact⟨[.slice af 0 0],.inl ⟨⟨af,rfl⟩,rfl⟩,b⟩};cases h};cases h
def VW{M V sK sn}(D:afl M V sK.mem sn.mem m1)(hV:∀b x,V b false=true->sK.mem b=aa x->x.buf=false){u v}(h:Gw V sK sn u v=true){m us vs}(K:cQ X7 sK.mem w0 u m us)(i:cQ γ sn.mem w v m vs) :
  cQ γ m1 w (bump M V u) m vs:=by
 unfold Gw at h;split at h
 .rename_i b c p b' k p';simp only[gO] at h;obtain⟨⟨L,A⟩,g⟩:=h;obtain rfl:=gP L;obtain rfl:=Yf A;have still:c=k->(M b&&V b false)=false->cQ γ m1 w (bump M V<|.ptr b c p) m vs:=by (intro e q;subst e;have e:bump M V (.ptr b c p)=.ptr b c p:=by simp only[bump,q];rfl);rw[e];exact cQ.down D.mid K i
  cases j:V b false with|false =>rw[j] at g;exact still (gP g) (by simp[j])|true =>rw[j] at g;simp at g;split at g;{rename_i x y G C;simp only[gO] at g;have S:=gP g.1;have H:=gP g.2;obtain⟨O,d,E,I,T,U,W,J,X⟩:=D b x G;rw[C] at E;obtain rfl:=aI E;cases r:M b with|false=>exact still (by have:=X (by simp[r]);omega) (by simp[r])|true =>(have e:bump M V (.ptr b c p)=.ptr b (c+1) p:=by simp only[bump,r,j];rfl);(have t:d.aR=c+1:=by rw[J,r,hV b x j G,j];simp;omega);rw[e];cases m with|many=>exact i|cells=>exact⟨i.1,d,I,ah,λ_=>bp C H i.2⟩|val=>exact⟨i.1,d,I,ah,λ_=>bp C H i.2⟩};cases g
 .rename_i b c b' k;simp only[gO] at h;obtain⟨L,g⟩:=h;obtain rfl:=gP L;split at g
  .rename_i x y G C;simp only[gO] at g;obtain⟨⟨A,S⟩,H⟩:=g;have A:=gP A;obtain⟨O,d,E,I,T,U,W,J,X⟩:=D b x G;rw[C] at E;obtain rfl:=aI E;have z:x.buf=true:=by rw[<-T];exact H
   have key:∀s,d.aR=s->((∃v,vs=[v]/\v.oneCell'=true)/\oI sn.mem b k λF=>∃e n,F.buf=true/\F.row=aa (e,n) /\
     ((γ.loc b=af/\vs=[.slice af 0 0])\/∃l o,γ.loc b=aa (l,o)/\vs=[.slice (aa ⟨l,0,af⟩) n o])) ->
     ((∃v,vs=[v]/\v.oneCell'=true)/\oI m1 b s λF=>∃e n,F.buf=true/\F.row=aa (e,n) /\
     ((γ.loc b=af/\vs=[.slice af 0 0])\/∃l o,γ.loc b=aa (l,o)/\vs=[.slice (aa ⟨l,0,af⟩) n o])):=by
    intro s t Y;exact⟨Y.1,d,I,ah,λ_=>by obtain⟨e,n,q1,q2,q3⟩:=(bp C (gP S) Y.2);exact⟨e,n,U.trans z,W.trans q2,q3⟩⟩
   have t:∃s,bump M V (.whole b c)=.whole b s/\d.aR=s:=by
    unfold bump;cases r:(M b&&V b true) with
    | true=>exact⟨c+1,by simp[r],by rw[J,z,r,<-A];rfl⟩
    | false=>exact⟨c,by simp[r],by rw[J,z,r,<-A];rfl⟩
   obtain⟨s,e1,Z⟩:=t;rw[e1];cases m with
   | many=>exact i
   | cells=>exact key s Z i
   | val=>exact key s Z i
  .cases g
 .rename_i f abT f' R;simp only[gO] at h;obtain rfl:=gP h.1;obtain rfl:=Yg h.2;exact cQ.down D.mid K i
 .cases m<;>exact i
 .cases m<;>exact i
 .simp only[gO] at h;obtain rfl:=gP h.1;obtain rfl:=gP h.2;exact cQ.down D.mid K i
 .cases h
def alQ{V sK σ u v}:Sh.out V sK σ (.k u) v=bif Gw V sK σ u v then aa () else none:=rfl
def alR{V sK σ a b v w}:Sh.out V sK σ (.m a b) (.mix v w)=(match Sh.out V sK σ a v,Sh.out V sK σ b w with|some x,aa y=>aa ((x,y):(Sh.m a b).ty.den)|_,_=>af):=rfl
def aaF{M V sK sn}(H:afl M V sK.mem sn.mem m1)(I:∀b x,V b false=true->sK.mem b=aa x->x.buf=false):∀{s u v y m us vs},Nl s u->Sh.out V sK sn s v=aa y ->
  cQ X7 sK.mem w0 u m us->cQ γ sn.mem w v m vs->cQ γ m1 w (s.sH M V y) m vs:=by
 intro s;induction s with|d t=>intro u v y m us vs _ c _ e;exact afm c e|k x =>(intro u v y m us vs C c i e;obtain rfl:=C;rw[alQ] at c;cases hs:Gw V sK sn x v with|false=>rw[hs] at c;cases c|true=>exact VW H I hs i e)|m a b g h =>intro u v y m us vs C c i e;obtain⟨p,q,rfl,D,E⟩:=C;cases v with|mix J K =>rw[alR] at c;split at c;{rename_i L O F G;obtain rfl:=aI c;cases m with|cells=>(obtain⟨_,_,_,j,l⟩:=i;obtain⟨n,o,r,z,A⟩:=e;exact⟨n,o,r,g D F j z,h E G l A⟩)|val=>(obtain⟨_,_,_,j,l⟩:=i;obtain⟨n,o,r,z,A⟩:=e;exact⟨n,o,r,g D F j z,h E G l A⟩)|many=>obtain⟨_,_,_,j,l⟩:=i;obtain⟨n,o,r,z,A⟩:=e;exact⟨n,o,r,g D F j z,h E G l A⟩};cases c|_=>cases c
def ach{t v y}(h:toD t v=aa y):(v=.data t y)\/(v=.qw/\∃e,t=.slice e):=by
 unfold toD at h;split at h
 .obtain⟨q,b⟩:=Ty.my h;subst q;subst b;exact .inl rfl
 {split at h;{exact .inr ⟨rfl,_,rfl⟩};cases h};cases h
def aaG{M V sK sn s}{c Q8:eF}{y}(j:Sh.out V sK sn s c.val=aa y)(F:Q8.val=s.sH M V y)(G:Q8.buf=c.buf)(i:c.buf=true->∃e l,c.val=.data (.slice e) l) :
  Q8.row=c.row/\(c.buf=true->Q8.val=c.val):=by
 have n:∀t x,c.val=.data t x->Q8.val=c.val:=by intro t x g;rw[g] at j;cases s with|d u =>(obtain⟨q,o⟩:=Ty.my j;subst q;subst o;rw[F,g];rfl)|k z=>cases z<;>cases j|m a b=>cases j
 have r:∀{A C:eF},A.buf=C.buf->A.val=C.val->A.row=C.row:=by intro A C H I;unfold eF.row;rw[H,I]
 cases g:c.val with|data t x =>have:=n t x g;exact⟨r G this,λ_=>by rw[this,g]⟩|_ =>refine⟨?_,λh=>by obtain⟨e,l,q⟩:=i h;rw[g] at q;cases q⟩;cases o:c.buf with|true=>(obtain⟨e,l,q⟩:=i o;rw[g] at q;cases q)|false =>(have J:c.row=none:=by unfold eF.row;rw[o,g]);rw[J];unfold eF.row;rw[G,o,F];rw[g] at j;cases s with|d u =>(rcases ach j with q|⟨q,e,rfl⟩;{first|cases q|exact absurd g (by cases k)};rfl)|k z =>((simp only[Sh.sH];have D:∀t x,bump M V z≠.data t x:=by intro t x q;cases z with|data L O=>cases j|whole b v=>simp only[bump] at q;cases E:(M b&&V b true)<;>rw[E] at q<;>cases q|ptr b v p=>simp only[bump] at q;cases E:(M b&&V b false)<;>rw[E] at q<;>cases q|_=>cases q);split<;>first|rfl|(rename_i K;exact absurd K (D _ _)))|m a b=>rfl
end
end Go.Ge
namespace Go.Ge
open RowKit
section
variable {P:Program} {B:CG} {N:Nat} {γ X7:Gh} {w w0:World} {sK sn:St} {a a0:Act} {M:Nat->Bool} {V:Nat->Bool->Bool}
def afn:∀{l x},ahF V sK sn l=aa x->∀t,(SG M V l x t=af/\∀s,(t,s)∉l)\/∃s y,(t,s)∈l/\Sh.out V sK sn s (sn.bj t)=aa y/\SG M V l x t=aa (s.sH M V y):=by intro l;induction l with|nil=>intro x _ t;exact .inl ⟨rfl,λs h=>by cases h⟩|cons p r j =>obtain⟨i,s⟩:=p;intro x h t;simp only[ahF] at h;split at h;{rename_i y z k m;obtain rfl:=aI h;by_cases e:t=i;{subst e;refine .inr ⟨s,y,rU ..,k,?_⟩;show(bif Nat.beq t t then aa _ else SG M V r z t)=_;simp};(have n:=ja e;have o:SG M V ((i,s)::r) ((y,z):(tyS ((i,s)::r)).den) t=SG M V r z t:=by show(bif Nat.beq t i then aa _ else SG M V r z t)=_;rw[n];rfl);rw[o];rcases j m t with ⟨c,d⟩|⟨g,q,c,d,u⟩;{refine .inl ⟨c,λg b=>?_⟩;rcases fA.1 b with b|b;{exact e (eX b).1};exact d g b};exact .inr ⟨g,q,wZ _ c,d,u⟩};cases h
def FJ{fz g d b}(h:JT fz g d b=true):(d.ro=true->(b.ro||fz)=true)/\d.buf=b.buf/\(g=false->d.aR=b.aR):=by
 simp only[JT,gO,Mk,beq_iff_eq] at h;obtain⟨⟨⟨e,l⟩,i⟩,c⟩:=h;refine⟨λj=>by rcases e with e|e<;>simp[e,<-j],i,λk=>?_⟩;rcases c with c|c
 {rw[k] at c;cases c};exact gP c
def aci{fz d c b}(h:JT fz d c b=true):c.tid=b.tid:=by simp only[JT,gO] at h;exact gP h.1.1.2
def VX{fz}:∀{l x},ahG V fz sK sn l=aa x->∀t,(Mu fz M V l x t=af/\ED l t=false) \/
  ∃s b y d,ED l t=true/\(t,s,b)∈l/\sn.mem t=aa d/\JT fz (V t b.buf) d b=true/\Sh.out V sK sn s d.val=aa y/\Mu fz M V l x t=aa { b with val:=s.sH M V y,ro:=b.ro||fz,aR:=bif V t b.buf then b.aR+1 else b.aR }:=by
 intro l;induction l with|nil=>intro x _ t;exact .inl ⟨rfl,rfl⟩|cons p r o =>obtain⟨i,s,b⟩:=p;intro x h t;simp only[ahG] at h;split at h;{rename_i d g;cases c:JT fz _ d b with|false=>rw[c] at h;cases h|true =>rw[c] at h;split at h;{rename_i y z q u;obtain rfl:=aI h;by_cases e:t=i;{subst e;refine .inr ⟨s,b,y,d,by simp[ED],rU ..,g,c,q,?_⟩;show(bif Nat.beq t t then aa { b with val:=s.sH M V y,ro:=b.ro||fz,aR:=bif V t b.buf then b.aR+1 else b.aR } else Mu fz M V r z t)=_;simp};(have n:=ja e;have v:Mu fz M V ((i,s,b)::r) ((y,z):(tyM ((i,s,b)::r)).den) t=Mu fz M V r z t:=by show(bif Nat.beq t i then aa { b with val:=s.sH M V y,ro:=b.ro||fz,aR:=bif V t b.buf then b.aR+1 else b.aR } else Mu fz M V r z t)=_;rw[n];rfl);(have j:ED ((i,s,b)::r) t=ED r t:=by simp only[ED,n,aeA]);rw[v,j];rcases o u t with k|⟨A,C,D,m,E,F,G⟩;{exact .inl k};exact .inr ⟨A,C,D,m,E,wZ _ F,G⟩};cases h};cases h
structure DW (k:Carry) (sK:St):Prop where
 S:∀t s,(t,s)∈k.S->Nl s (sK.bj t)
 M:∀b s bx,(b,s,bx)∈k.M->sK.mem b=aa bx/\Nl s bx.val/\bx.lk=false
 V:∀b x,k.V b false=true->sK.mem b=aa x->x.buf=false
def aj1{cx σ}:∀{p l},mkS cx σ p=aa l->∀t s,(t,s)∈l->Nl s (σ.bj t):=by
 intro p;induction p with
 | nil=>intro l h t s c;obtain rfl:=aI h;cases c
 | cons q r n =>
   obtain⟨i,o⟩:=q;intro l h t s c;simp only[mkS] at h;split at h;{cases h}
   (rename_i u g;have fin:∀m,Nl m (σ.bj i)->aa ((i,m)::u)=aa l->Nl s (σ.bj t):=by intro m x e;obtain rfl:=aI e;rcases fA.1 c with c|c;{obtain⟨rfl,rfl⟩:=eX c;exact x};exact n g t s c);cases j:Nat.beq o 999999 with|true =>(rw[j] at h;split at h;{rename_i b v y;exact fin (.k _) y.symm h};obtain rfl:=aI h;exact n g t s c)|false=>
   rw[j] at h;simp at h;split at h;{exact fin (.d _) trivial h};{split at h;{exact fin (.d _) trivial h};cases h};{split at h;{exact fin (.d _) trivial h};cases h};exact fin (.k _) rfl h
def afo{σ}:∀{p l},mkM σ p=aa l->∀b s d,(b,s,d)∈l->σ.mem b=aa d/\Nl s d.val/\d.lk=false:=by intro p;induction p with|nil=>(intro l h b s d c;obtain rfl:=aI h;cases c)|cons i r k =>intro l h b s d c;simp only[mkM] at h;split at h;{rename_i j t m g;cases e:ajn j with|true=>(rw[e] at h;obtain rfl:=aI h;exact k g b s d c)|false =>rw[e] at h;obtain rfl:=aI h;rcases fA.1 c with c|c;{injection c with n c;injection c with o q;subst n;subst o;subst q;exact⟨m,ahY _,(Sx.1 e).1⟩};exact k g b s d c};cases h
def Bk{cx nb bf σ p k}(h:LI cx nb bf σ p=aa k):DW k σ:=by
 unfold LI at h;split at h
 {rename_i s m hs d;obtain rfl:=aI h;refine⟨aj1 hs,afo d,λb x c e=>?_⟩;simp only[Cp,als,e,gO,Ez] at c;exact c.2.1};cases h
def ahZ{l b}(h:ED l b=true):∃s c,(b,s,c)∈l:=by induction l with|nil=>cases h|cons p r e =>obtain⟨i,s,c⟩:=p;simp only[ED,Mk] at h;rcases h with h|h;{obtain rfl:=gP h;exact⟨s,c,rU ..⟩};obtain⟨g,d,j⟩:=e h;exact⟨g,d,wZ _ j⟩
def vX{k fz lock wr x}(hk:DW k sK)(h0:dG B N X7 sK a0 w0)(G:dG B N γ sn a w)(hx:Ext B X7 sK.mem w0 γ sn.mem w)
  (hf:∀t,dm wr t=false->a.tmps[t]?=a0.tmps[t]?) (C:∀b g,sK.mem b=aa g->ED k.M b=false->∃bl,sn.mem b=aa { g with lk:=bl }) (ho:k.out fz sK sn=aa x) : dG B N γ (k.sH fz lock wr sK x) a w/\Ext B X7 sK.mem w0 γ (k.sH fz lock wr sK x).mem w:=by
 unfold Carry.out at ho;split at ho
 case h_2=>cases ho
 rename_i xs xm hxs hxm;obtain rfl:=aI ho;generalize R:k.sH fz lock wr sK (xs,xm)=bO;have W:∀t,bO.bj t=match SG _ k.V k.S xs t with|some v=>v|none=>bif dm wr t then .undef else sK.bj t:=λt=>by rw[<-R];rfl
 have T:∀b,bO.mem b=match Mu fz _ k.V k.M xm b with|some g=>aa g|none=>match sK.mem b with|some g=>aa { g with lk:=g.lk||lock }|none=>none:=λb=>by rw[<-R];rfl
 have D:∀b,ED k.M b=false->bO.mem b=match sK.mem b with|some g=>aa { g with lk:=g.lk||lock }|none=>none:=by
  intro b i;rw[T b];rcases VX hxm b with ⟨q,_⟩|⟨s,b',y,g,q,_⟩
  .rw[q]
  .rw[i] at q;cases q
 have here:∀b,ED k.M b=true->∃s m y g,sK.mem b=aa m/\Nl s m.val/\sn.mem b=aa g/\JT fz (k.V b m.buf) g m=true/\Sh.out k.V sK sn s g.val=aa y /\
   bO.mem b=aa { m with val:=s.sH (ED k.M) k.V y,ro:=m.ro||fz,aR:=bif k.V b m.buf then m.aR+1 else m.aR }:=by
  intro b i;rcases VX hxm b with ⟨_,q⟩|⟨s,m,y,g,q,q1,q2,q3,q4,q5⟩
  .rw[i] at q;cases q
  .obtain⟨X,k2,_⟩:=hk.M b s m q1;exact⟨s,m,y,g,X,k2,q2,q3,q4,by rw[T b,q5]⟩
 have E:∀b g,sn.mem b=aa g->g.buf=true->∃e l,g.val=.data (.slice e) l:=by
  intro b g i J;have:=G.ok.boxes b g i;rw[eL,J] at this;obtain⟨e,l,q,_⟩:=this;exact⟨e,l,q⟩
 have hC:afl (ED k.M) k.V sK.mem sn.mem bO.mem:=by
  intro b d i;cases j:ED k.M b with
  | false =>
    obtain⟨bl,F⟩:=C b d i j;have u:=D b j;rw[i] at u;exact⟨_,_,F,u,rfl,rfl,rfl,aT,λ_=>rfl⟩
  | true =>
    obtain⟨s,m,y,g,Y,g2,U,g4,g5,Z⟩:=here b j;rw[i] at Y;obtain rfl:=aI Y;obtain⟨o1,o2,o3⟩:=FJ g4;obtain⟨r1,r2⟩:=aaG (M:=ED k.M) (V:=k.V) (Q8:={ d with val:=s.sH _ k.V y,ro:=d.ro||fz,aR:=bif k.V b d.buf then d.aR+1 else d.aR }) g5 rfl o2.symm (E b g U);refine⟨g,_,U,Z,o2,rfl,r1,aT,λH=>o3 ?_⟩;simpa using H
 have hE:Ext B X7 sK.mem w0 γ bO.mem w :=
  { below:=hx.below
    I:=hx.I
    sI:=hx.sI
    cells:=hx.cells
    boxes:=λb d i=>by
     obtain⟨O,Q8,c1,c2,c3,c4,c5,c6,c7⟩:=hC b d i;obtain⟨ap8,e1,e2,e3⟩:=hx.boxes b d i;rw[c1] at e1;obtain rfl:=aI e1;cases H:(ED k.M b&&k.V b d.buf) with
     | true =>
       rw[H] at c6;simp at c6;exact⟨Q8,c2,ah,λe=>absurd e ah⟩
     | false =>
       rw[H] at c6;simp at c6;obtain⟨r1,r2,r3⟩:=e3 (c7 H);exact⟨Q8,c2,ah,λ_=>⟨r1,c4,c5.trans r3⟩⟩ }
 refine⟨⟨λt=>?_,G.size,G.defers,?_⟩,hE⟩
 .rw[W t];rcases afn hxs t with ⟨q,_⟩|⟨s,y,q1,q2,q3⟩
  .rw[q];cases hw:dm wr t with
   | true=>exact⟨_,rfl⟩
   | false =>
     have:a.tmps.getD t undef=a0.tmps.getD t undef:=by simp only[Yb,hf t hw]
     rw[this];exact(h0.bj t).ext hE
  .rw[q3];exact aaF hC hk.V (hk.S t s q1) q2 (h0.bj t) (G.bj t)
 .have hne:∀b,bO.mem b≠af->∃d,sK.mem b=aa d:=by
   intro b i;cases j:ED k.M b with
   | true=>obtain⟨s,m,y,g,Y,_⟩:=here b j;exact⟨m,Y⟩
   | false =>
     rw[D b j] at i;cases H:sK.mem b with
     | none=>rw[H] at i;exact absurd rfl i
     | some d=>exact⟨d,rfl⟩
  have K:∀b,bO.mem b≠af->sn.mem b≠none:=by
   intro b i;obtain⟨d,u⟩:=hne b i;obtain⟨O,Q8,c1,_⟩:=hC b d u;rw[c1];simp
  exact
   { vR:=G.ok.vR
     base:=G.ok.base
     boxes:=λb Q8 i=>by
      cases j:ED k.M b with
      | true =>
        obtain⟨s,m,y,g,Y,g2,U,g4,g5,Z⟩:=here b j;rw[i] at Z;obtain rfl:=aI Z;obtain⟨o1,o2,o3⟩:=FJ g4;have o4:=aci g4;obtain⟨r1,r2⟩:=aaG (Q8:={ m with val:=s.sH _ k.V y,ro:=m.ro||fz,aR:=bif k.V b m.buf then m.aR+1 else m.aR }) g5 rfl o2.symm (E b g U);have o:=G.ok.boxes b g U;have p:=h0.ok.boxes b m Y;unfold eL at o p⊢;rcases Gm g.buf with r|r
        .rw[r] at o;rw[<-o2,r,r2 r,<-o4];exact o
        .rw[r] at o;rw[<-o2,r];rw[<-o2,r] at p;obtain⟨_,_,_,_,_,_,_,_,_,z⟩:=p;obtain⟨A,cap,cur,tid,fr,z1,z2,z3,L,z4⟩:=o;exact⟨A,cap,cur,tid,fr,z1,z2,z3,o4▸L,aaF hC hk.V g2 g5 z z4⟩
      | false =>
        have u:=D b j;rw[i] at u;cases H:sK.mem b with
        | none=>rw[H] at u;cases u
        | some d =>
          rw[H] at u;obtain rfl:=aI u;obtain⟨bl,F⟩:=C b d H j;have o:=G.ok.boxes b _ F;have p:=h0.ok.boxes b d H;unfold eL at o p⊢;rcases Gm d.buf with r|r
          .rw[r] at o⊢;exact o
          .rw[r] at o p⊢;obtain⟨_,_,_,_,_,_,_,_,_,z⟩:=p;obtain⟨A,cap,cur,tid,fr,z1,z2,z3,L,z4⟩:=o;exact⟨A,cap,cur,tid,fr,z1,z2,z3,L,cQ.down hC.mid z z4⟩
     inj:=λb c A X k2 i hc u h2=>G.ok.inj b c A X k2 (K b i) (K c hc) u h2
     fresh:=λb A X i u=>G.ok.fresh b A X (K b i) u
     vQ:=G.ok.vQ
     sep:=λb Q8 A X off i u hi=>by
      obtain⟨d,q0⟩:=hne b (by rw[i];simp);obtain⟨O,ap9,c1,c2,c3,c4,c5,c6,c7⟩:=hC b d q0;rw[i] at c2;obtain rfl:=aI c2;obtain⟨s1,s2⟩:=G.ok.sep b O A X off c1 u hi;have hro:O.ro=true->Q8.ro=true:=by
       cases j:ED k.M b with
       | true =>
         obtain⟨s,m,y,g,Y,g2,U,g4,g5,Z⟩:=here b j;rw[c1] at U;obtain rfl:=aI U;rw[i] at Z;obtain rfl:=aI Z;exact(FJ g4).1
       | false =>
         have u:=D b j;rw[i,q0] at u;obtain rfl:=aI u;obtain⟨bl,F⟩:=C b d q0 j;rw[c1] at F;obtain rfl:=aI F;exact λh=>h
      exact⟨hro s1,λJ e n hr=>s2 (by rw[c3,<-c4];exact J) e n (by rw[<-c5];exact hr)⟩ }
end
end Go.Ge
namespace Go.Ge
variable [Lp]
open RowKit
def G8{p:Nat->Prop}(h:∃n,p n):∃n,p n/\∀m,p m->n<=m:=by obtain⟨n,hn⟩:=h;induction n using Nat.strongRecOn with|_ n c =>by_cases h:∃m,m<n/\p m;{obtain⟨m,d,e⟩:=h;exact c m d e};exact⟨n,hn,λm g=>Nat.le_of_not_lt λb=>h ⟨m,b,g⟩⟩
open Classical in
noncomputable def least(p:Nat->Prop):Nat:=if h:∃n,p n then Classical.choose (G8 h) else 0
def Nn{p}(h:∃n,p n):p (least p)/\∀m,p m->least p<=m:=by unfold least;rw[dif_pos h];exact Su (G8 h)
def IF{P c Q a w}(I:Nat->Act->World->Prop){n}(j:I n a w)
  (b:∀n a w,I n a w->c.wp P (Exit.then (λg w'=>∃m,m<n/\I m g w') Q) a w):(Code.loop c).wp P Q a w:=by
 refine wp_loop (λa w=>∃n,I n a w) (λa w=>least λn=>I n a w) ⟨n,j⟩ λa w h=>?_;obtain⟨k,l⟩:=Nn h;refine wp_mono (b _ a w k) λe g w' i=>?_;cases e with|normal =>(obtain⟨m,m1,d⟩:=i;exact⟨⟨m,d⟩,Nat.lt_of_le_of_lt ((Nn ⟨m,d⟩).2 m d) m1⟩)|_=>exact i
def No:Nat->Exit|0=>.normal|1=>.ret|i+2=>.exit i
def J9{l m t}:dm (l++m) t=(dm l t||dm m t):=by induction l with|nil=>rfl|cons i r b=>simp only[Mi,dm,b,U1]
def G9(b:List Nat)(a c:Act):Prop:=∀t,dm b t=false->c.tmps[t]?=a.tmps[t]?
def G9.refl ws a:G9 ws a a:=λ_ _=>rfl
def G9.trans{ws a b c}(h:G9 ws a b)(k:G9 ws b c):G9 ws a c:=λt d=>(k t d).trans (h t d)
def G9.left{ws vs a b}(h:G9 ws a b):G9 (ws++vs) a b:=λt c=>h t (by rw[J9,Sx] at c;exact c.1)
def G9.right{ws vs a b}(h:G9 vs a b):G9 (ws++vs) a b:=λt c=>h t (by rw[J9,Sx] at c;exact c.2)
def VY{t}:∀{l k},dm (sT l) t=false->pt t (number k l)=false:=by intro l;induction l with|nil=>intro k _;rfl|cons o l b =>intro k h;simp only[number,pt];cases hd:o.dst with|none=>simp only[sT,hd] at h;rw[b h];rfl|some d =>simp only[sT,hd,dm,Sx] at h;rw[b h.2];simp;exact ja λe=>by subst e;simp at h
def Tk{l:List Oper}{o}(h:o∈l){k:Nat}(c:o.dst=aa k):k∈sT l:=by induction l with|nil=>cases h|cons p l b =>rcases fA.1 h with h|h;{subst h;simp only[sT,c];exact rU ..};simp only[sT];split;{exact wZ _ (b h)};exact b h
def Q9{α}{f:Nat->Tree α}:∀{es e i},KM es e=aa i->(Gz es i f).run=(f e).run:=by intro es;induction es with|nil=>intro e i h;cases h|cons k r l =>(intro e i h;simp only[KM] at h;have one:∀{b},(bif b then aa 0 else(KM r e).map (·+1))=aa i->(b=true/\i=0)\/(b=false/\∃j,KM r e=aa j/\i=j+1):=by intro b g;cases b with|true=>exact .inl ⟨rfl,(aI g).symm⟩|false =>obtain⟨j,c,d⟩:=Fm.1 g;exact .inr ⟨rfl,j,c,d.symm⟩);rcases one h with ⟨c,rfl⟩|⟨c,j,d,rfl⟩;{obtain rfl:=gP c;cases r with|nil=>rfl|cons m s=>rfl};cases r with|nil=>cases d|cons m s=>exact l d
section
variable {P:Program} {B:CG} {N:Nat} {cx:Ctx} {nb:Nat} {bf:List Nat} {inl:Nat->List cw->St->Tree (cw×St)}
def YY(c:∀f d σ v aV,(inl f d σ).run=aa (v,aV)->bY σ aV):∀l k b σ aV,(Mt cx nb bf inl (number k l) b σ).run=aa aV->bY σ aV:=by intro l;induction l with|nil=>(intro k b σ aV h;obtain rfl:=aI h;apply bY.refl)|cons o l e =>intro k b σ aV h;simp only[number,Mt] at h;split at h;{cases h};obtain⟨m,g⟩:=aA h;obtain⟨bO,i,j⟩:=bind_some g;exact(CO c bO<|DU (LM o σ) i).trans (e _ _ _ _ j)
def acj{fz M V}:∀{l x t},ED l t=false->Mu fz M V l x t=none:=by intro l;induction l with|nil=>intro x t _;rfl|cons p r b =>intro x t h;simp only[ED,Sx] at h;simp only[Mu,h.1];exact b h.2
def VZ{k:Carry}{fz lock wr σ x b c}(d:σ.mem b=aa c)(h:ED k.M b=false):(k.sH fz lock wr σ x).mem b=aa { c with lk:=c.lk||lock }:=by simp only[Carry.sH];rw[acj h,d]
def CS{k fz lock wr σ x}(h:DW k σ):bY σ (k.sH fz lock wr σ x):=by
 intro b i c d;have:ED k.M b=false:=by cases j:ED k.M b with|false=>rfl|true =>obtain⟨s,l,m⟩:=ahZ j;obtain⟨e,_,g⟩:=h.M b s l m;rw[c] at e;obtain rfl:=aI e;rw[d] at g;cases g
 rw[VZ c this];cases i;subst d;rfl
def Ka{α}{Q:α->Prop}{f}(b:∀e y,(f e).run=aa y->Q y):∀{es i y},(Gz es i f).run=aa y->Q y:=by intro es;induction es with|nil=>intro i y h;cases h|cons k r d =>intro i y h;cases r with|nil=>exact b k y h|cons m s =>have:=gV h;cases c:cm i 0 with|true=>rw[c] at this;exact b k y this|false=>rw[c] at this;exact d this
def Np:∀{l σ aV},Gy l σ=aa aV->bY σ aV:=by intro l;induction l with|nil=>(intro σ aV h;obtain rfl:=aI h;apply bY.refl)|cons m r b =>intro σ aV h;unfold Gy at h;cases c:Nat.ble 2000000 m with|false=>rw[c] at h;exact b h|true =>rw[c] at h;split at h;{split at h;{split at h;{split at h;{rename_i d;exact(sj d).trans ((bY.put _ _ _).trans<|b h)};cases h};cases h};cases h};exact b h
def Kb{B N a w}:∀{l σ aV γ},Gy l σ=aa aV->dG B N γ σ a w->∃bF,dG B N bF aV a w/\Ext B γ σ.mem w bF aV.mem w:=by intro l;induction l with|nil=>(intro σ aV γ h hs;obtain rfl:=aI h;exact⟨γ,hs,Ext.refl _ _ _ _⟩)|cons m r c =>intro σ aV γ h hs;unfold Gy at h;cases g:Nat.ble 2000000 m with|false=>rw[g] at h;exact c h hs|true =>rw[g] at h;generalize m-2000000=k at h;split at h;{split at h;{split at h;{split at h;{(rename_i x bO i;obtain⟨d,b,j,n⟩:=oL hs (hs.bj k) i;have o:dG B N d (bO.put k _) a w:=⟨λt=>by unfold St.put;dsimp only;cases p:Nat.beq t k with|false=>exact b.bj t|true =>obtain rfl:=gP p;exact n,b.size,b.defers,b.ok⟩);obtain⟨e,q,s⟩:=c h o;exact⟨e,q,j.trans s⟩};cases h};cases h};cases h};exact c h hs
def YZ{f}(e:∀σ r,(f σ).run=aa r->bY σ r.2):∀n σ r,(again f n σ).run=aa r->bY σ r.2:=by intro n;induction n with|zero=>intro σ r h;cases h|succ n g =>intro σ r h;obtain⟨i,j,b⟩:=bind_some h;have c:=e _ _ j;cases d:Nat.beq i.1 0 with|true=>rw[d] at b;exact c.trans (g _ _ b)|false=>rw[d] at b;obtain rfl:=aI b;exact c
def V0{f}(g:∀σ r,(f σ).run=aa r->bY σ r.2){c}:∀n j σ r,(Ip f c n j σ).run=aa r->bY σ r.2:=by intro n;induction n with|zero=>intro j σ r h;cases h|succ n i =>intro j σ r h;unfold Ip at h;split at h;{have h:=cX h;obtain⟨k,l,b⟩:=bind_some h.2;have d:=(bY.put σ c _).trans (g _ _ l);cases e:Nat.beq k.1 0 with|true=>rw[e] at b;exact d.trans (i _ _ _ b)|false=>rw[e] at b;obtain rfl:=aI b;exact d};cases h
def yl(g:∀f z σ v aV,(inl f z σ).run=aa (v,aV)->bY σ aV):∀c j σ r,(jS cx nb bf inl c j σ).run=aa r->bY σ r.2:=by intro c;induction c with|skip=>(intro j σ r h;obtain rfl:=aI h;exact bY.refl _)|label l=>(intro j σ r h;obtain rfl:=aI h;exact bY.refl _)|ret=>(intro j σ r h;obtain rfl:=aI h;exact bY.refl _)|exit i=>(intro j σ r h;obtain rfl:=aI h;apply bY.refl)|region id ops K =>(intro j σ r h;obtain⟨bO,q,d⟩:=bind_some h;obtain rfl:=aI d;cases K with|true =>(have m:(Aq cx nb bf inl ops σ).run=aa bO:=q;unfold Aq at m;cases H:ops.any λo=>o.guard.isSome with|true =>(rw[H] at m;obtain⟨L,A⟩:=aA m;split at A;{exact Nj g _ _ _ _ _ _ A};rw[Tree.x4] at A;obtain⟨x,_,C⟩:=Co.1 A;obtain rfl:=aI C;exact λb T O _=>by show(σ.undef _).mem b=_;rw[sk];exact O)|false =>rw[H] at m;exact YY g _ _ _ _ _ m)|false=>exact G3 g _ _ _ _ q)|seq a b s t =>(intro j σ r h;obtain⟨D,q,d⟩:=bind_some h;have I:=s _ _ _ q;cases J:Nat.beq D.1 0 with|true=>rw[J] at d;exact I.trans (t _ _ _ d)|false=>rw[J] at d;obtain rfl:=aI d;exact I)|block i a u =>(intro j σ r h;obtain⟨D,q,d⟩:=bind_some h;obtain rfl:=aI d;exact u _ _ D q)|scope a u=>intro j σ r h;exact u _ _ _ h|cond c a b s t =>intro j σ r h;unfold jS at h;split at h;{rename_i R S hn;have:=gV h;cases R with|false=>exact t _ _ _ this|true=>exact s _ _ _ this};{split at h;{cases h};rename_i σ n;refine(Np n).trans ?_;split at h;{cases h};rename_i k E;have p:=Bk E;dsimp only at h;split at h;{rw[Tree.x4] at h;obtain⟨x,q,d⟩:=Co.1 h;obtain rfl:=aI d;exact CS p};rw[Tree.x4] at h;obtain⟨x,q,d⟩:=Co.1 h;exact Ka (Q:=λr:Nat×St=>bY σ r.2) (λe y F=>by obtain rfl:=aI F;exact CS p) d};cases h|loop a u =>intro j σ r h;unfold jS at h;split at h;{split at h;{exact V0 (λσ r G=>u _ _ _ G) _ _ _ _ h};split at h;{cases h};rename_i σ n;refine(Np n).trans ?_;split at h;{cases h};rename_i k E;have p:=Bk E;dsimp only at h;split at h;{cases h};split at h;{obtain⟨x,q,d⟩:=ck h;obtain rfl:=aI d;exact CS p};obtain⟨x,q,d⟩:=ck h;exact Ka (Q:=λr=>bY σ r.2) (λe y F=>by obtain rfl:=aI F;exact CS p) d};{exact YZ (λσ r G=>u _ _ _ G) _ _ _ h};cases h|_=>intro j σ r h;cases h
end
end Go.Ge
namespace Go.Ge
variable [Lp]
open RowKit
section
variable {P:Program} {B:CG} {N:Nat} {cx:Ctx} {nb:Nat} {bf:List Nat} {inl:Nat->List cw->St->Tree (cw×St)}
def Ha(k:Carry) σ:(k.lock σ).mem=xg (λb c=>bif ED k.M b then c.lk else true) σ.mem:=by funext b;simp only[Carry.lock,xg];cases σ.mem b with|none=>rfl|some c=>cases ED k.M b<;>rfl
def ah0(k:Carry) σ:k.lock σ={ σ with mem:=xg (λb c=>bif ED k.M b then c.lk else true) σ.mem }:=by have:=Ha k σ;unfold Carry.lock at this⊢;dsimp only at this⊢;rw[this]
def IG{T β}{t:Tree T}{k:T->Tree β}{y}(h:(t.join k).run=aa y):∃x,t.run=aa x/\(k x).run=aa y:=by rw[Tree.x4] at h;exact Co.1 h
def Nq{α}{o:Option α}{y}(h:(Tree.aeH o).run=aa y):o=aa y:=by cases o with|none=>cases h|some x=>exact h
def afq{b e i}(h:KM [b] e=aa i):e=b:=by simp only[KM] at h;cases c:Nat.beq b e with|true=>exact(gP c).symm|false=>rw[c] at h;cases h
def dG.aaH{γ σ a w}(h:dG B N γ σ a w){i v}(b:cQ γ σ.mem w v .val [a.tmps.getD i Go.undef]):dG B N γ (σ.put i v) a w where
 bj:=λt=>by
  show cQ γ σ.mem w (bif Nat.beq t i then v else σ.bj t) .val _
  cases c:Nat.beq t i with|true=>(obtain rfl:=gP c;exact b)|false=>exact h.bj t
 size:=h.size
 defers:=h.defers
 ok:=h.ok
def Tl{a w}:∀{l σ aV γ},settle l σ=aa aV->dG B N γ σ a w->∃bF,dG B N bF aV a w/\Ext B γ σ.mem w bF aV.mem w/\bY σ aV:=by intro l;induction l with|nil=>(intro σ aV γ h hs;obtain rfl:=aI h;exact⟨γ,hs,Ext.refl _ _ _ _,bY.refl _⟩)|cons p r c =>obtain⟨i,s⟩:=p;intro σ aV γ h hs;cases s with|d t =>simp only[settle] at h;split at h;{rename_i x bO g;obtain⟨j,n,o,q⟩:=oL hs (hs.bj i) g;obtain⟨e,u,y,z⟩:=c h (n.aaH q);exact⟨e,u,o.trans y,(sj g).trans z⟩};cases h|k v=>exact c h hs|m a b=>exact c h hs
def Hb{k fz wr x sK sn X7 γ a a0 w w0}(j:DW k sK)(l:dG B N X7 sK a0 w0)(m:dG B N γ sn a w)(n:Ext B X7 sK.mem w0 γ sn.mem w)
  (o:∀t,dm wr t=false->a.tmps[t]?=a0.tmps[t]?) (c:∀b e,sK.mem b=aa e->ED k.M b=false->sn.mem b=aa { e with lk:=true }) (g:k.Mv fz sK sn=aa x) : ∃bF,dG B N bF (k.sH fz false wr sK x) a w/\Ext B X7 sK.mem w0 bF (k.sH fz false wr sK x).mem w:=by
 unfold Carry.Mv at g;cases fz with|false=>exact⟨γ,vX j l m n o (λb e h d=>⟨true,c b e h d⟩) g⟩|true =>split at g;{rename_i bO hs;obtain⟨i,p,q,r⟩:=Tl hs m;exact⟨i,vX j l p (n.trans q) o (λb e h d=>⟨true,r b _ (c b e h d) rfl⟩) g⟩};cases g
noncomputable def roundOf(d:Ctx)(e:Nat)(g:List Nat)(inl:Nat->List cw->St->Tree (cw×St))(k:Carry)(h:Bool)(b:St)(c:Code)(j:List (Option SF))(x:k.ty.den):Option (k.ty.den⊕(Nat×k.ty.den)) :=
 ((jS d e g inl c j<|k.sH false true (writes c) b x).bind λr=>bif Nat.beq r.1 0 then(match k.out false b r.2 with
   | some y=>.ret (.inl y)
   | none=>.fail)
  else match KM (wS c) r.1,k.Mv h b r.2 with|some i,aa y=>.ret (.inr (i,y))|_,_=>.fail).run
def Ra{c k fz σ γ a w Q R}(C:DW k σ)(h:dG B N γ σ a w){x0}(D:k.out false σ σ=aa x0)
  f (Out:R->Nat->k.ty.den->Prop) {z} (X:Loop f x0=aa z) (Y:∀x r,f x=aa r->∃e y,(match r with|.inl E=>e=0/\E=y|.inr z=>e≠0/\Out z e y) /\∀j q t S,dG B N j (k.sH false true (writes c) σ x) q t->(∀sn bF d w',(bif Nat.beq e 0 then k.out false σ sn else k.Mv fz σ sn)=aa y->bY (k.sH false true (writes c) σ x) sn->dG B N bF sn d w'->Ext B j (k.sH false true (writes c) σ x).mem t bF sn.mem w'->G9 (writes c) q d->S (No e) d w') ->c.wp P S q t)
  (final:∀e y,e≠0->Out z e y->∀bF d w',dG B N bF (k.sH fz false (writes c) σ y) d w'->Ext B γ σ.mem w bF (k.sH fz false (writes c) σ y).mem w'->G9 (writes c) a d->Q (No e) d w') : (Code.loop c).wp P Q a w:=by
 obtain⟨n,hn⟩:=sS X;refine IF (λm d w'=>∃bF x,dG B N bF (k.sH false true (writes c) σ x) d w'/\Ext B γ σ.mem w bF (k.sH false true (writes c) σ x).mem w'/\G9 (writes c) a d/\rounds f m x=aa z) (n:=n) ?_ ?_
 .obtain⟨s,x⟩:=vX C h h (Ext.refl _ _ _ _) (λ_ _=>rfl) (λb o u _=>⟨o.lk,u⟩) D;exact⟨γ,x0,s,x,G9.refl _ _,hn⟩
 .intro m q t Z;obtain⟨j,x,s1,e1,f1,T⟩:=Z;cases m with
  | zero=>cases T
  | succ m =>
    obtain⟨r,F,v⟩:=Co.1 T;obtain⟨e,y,U,G⟩:=Y x r F;refine G j q t _ s1 λsn bF d w' H I W e2 f2=>?_;have hx:=e1.trans e2;have l:=f1.trans f2;have g:∀b o,σ.mem b=aa o->ED k.M b=false->sn.mem b=aa { o with lk:=true }:=λb o u p=>by have:=I b _ (VZ u p) aT;simpa using this
    cases r with
    | inl E =>obtain⟨rfl,rfl⟩:=U;obtain⟨J,K⟩:=vX C h W hx l (λb o u p=>⟨true,g b o u p⟩) H;exact⟨m,UX m,bF,E,J,K,l,v⟩
    | inr z' =>
      obtain⟨A,hO⟩:=U;obtain rfl:=aI v;have L:Nat.beq e 0=false:=ja A;rw[L] at H;obtain⟨O,J,K⟩:=Hb C h W hx l g H;have:=final e y A hO O d w' J K l
      match e,A,this with|0,A,_=>exact absurd rfl A|1,_,this=>exact this|i+2,_,this=>exact this
def ack{S}{o:Option (S⊕(Nat×S))}{r}(h:cr o=aa r):(∃y,r=.inl y/\o=aa (.inl y))\/∃i y,r=.inr y/\o=aa (.inr (i,y)):=by obtain⟨q,b,c⟩:=Fm.1 h;cases q with|inl y=>exact .inl ⟨y,c.symm,b⟩|inr p=>exact .inr ⟨p.1,p.2,c.symm,b⟩
def vY(aj2:P.follows .mixedOrders=true)(hc:ga P cx)(ab7:ql P B.G cx)(ahT:zf P B.G inl)(D:∀f aj0 σ v aV,(inl f aj0 σ).run=aa (v,aV)->bY σ aV) :
  ∀c {pl σ γ a w e aV Q},(∀t∈writes c,t<N)->(jS cx nb bf inl c pl σ).run=aa (e,aV)->dG B N γ σ a w ->(∀bF d w',dG B N bF aV d w'->Ext B γ σ.mem w bF aV.mem w'->G9 (writes c) a d->Q (No e) d w')->c.wp P Q a w:=by
 intro c;induction c with
 | skip =>intro pl σ γ a w e aV Q H g h u;obtain⟨rfl,rfl⟩:=eX (aI g);exact wp_skip (u γ a w h (Ext.refl _ _ _ _)<|G9.refl _ _)
 | label l =>intro pl σ γ a w e aV Q H g h u;obtain⟨rfl,rfl⟩:=eX (aI g);exact wp_label (u γ a w h (Ext.refl _ _ _ _)<|G9.refl _ _)
 | ret =>intro pl σ γ a w e aV Q H g h u;obtain⟨rfl,rfl⟩:=eX (aI g);exact wp_ret (u γ a w h (Ext.refl _ _ _ _)<|G9.refl _ _)
 | exit i =>intro pl σ γ a w e aV Q H g h u;obtain⟨rfl,rfl⟩:=eX (aI g);exact wp_exit (u γ a w h (Ext.refl _ _ _ _)<|G9.refl _ _)
 | region id ops dr =>intro pl σ γ a w e aV Q H g h u;obtain⟨bO,R,L⟩:=bind_some g;obtain⟨rfl,rfl⟩:=eX (aI L);have hd':∀o∈ops.toList,∀k,o.dst=aa k->k<N:=λo ho k hk=>H k (Tk ho hk);have hfr:∀{a d},Fr (number 0 ops.toList) a d->G9 _ a d:=λhf t ht=>hf t (VY ht);cases dr with|true=>exact VU aj2 hc ab7 ahT D hd' R h λbF d w' s x f=>u bF d w' s x (hfr f)|false=>exact S7 hc ab7 ahT D hd' R h λbF d w' s x f=>u bF d w' s x (hfr f)
 | seq x y ihx ihy =>intro pl σ γ a w e aV Q H g h u;obtain⟨r1,R,L⟩:=bind_some g;obtain⟨Y,bO⟩:=r1;have hdx:=λt ht=>H t (Ew _ ht);have hdy:∀t∈writes y,t<N:=λt ht=>H t (KG _ ht);refine wp_seq (ihx hdx R h λbF d w' E I C=>?_);cases Y with|zero=>exact ihy hdy L E λanj a'' w'' s2 x2 f2=>u anj a'' w'' s2 (I.trans x2) (C.left.trans f2.right)|succ Y =>obtain⟨rfl,rfl⟩:=eX (aI L);have:=u bF d w' E I C.left;cases Y with|zero=>exact this|succ i=>exact this
 | block i x ih =>
   intro pl σ γ a w e aV Q H g h u;obtain⟨r1,R,L⟩:=bind_some g;obtain⟨Y,bO⟩:=r1;obtain⟨rfl,rfl⟩:=eX (aI L);refine wp_block (ih H R h λbF d w' E I C=>?_);have:=u bF d w' E I C
   match Y,this with|0,this=>exact this|1,this=>exact this|j+2,this =>show Exit.inBlock i Q (.exit j) d w';unfold Exit.inBlock;by_cases e:j=i;{subst e;simpa [No] using this};simp only[aK e];have hb:Nat.beq (j+2) (i+2)=false:=ja ah;rw[hb] at this;exact this
 | scope x ih =>
   intro pl σ γ a w e aV Q H g h u;refine wp_scope_straight (ih H g h λbF d w' E I C=>?_);have:=u bF d w' E I C
   match e,this with|0,this=>exact this|1,this=>exact this|j+2,this=>exact this
 | cond o x y ihx ihy =>
   intro pl σ γ a w e aV Q H g h u;have hdx:=λt ht=>H t (Ew _ ht);have hdy:=λt ht=>H t (KG _ ht);unfold jS at g;split at g;{rename_i c0 O hcv;have F:=h.dd o;rw[hcv] at F;have F:=Bg F;have hn:=gV g;cases c0 with|false=>exact wp_cond_false F (ihy hdy hn h λbF d w' E I C=>u bF d w' E I C.right)|true=>exact wp_cond_true F (ihx hdx hn h λbF d w' E I C=>u bF d w' E I C.left)}
   .rename_i c0 p O hcv;have F:=h.dd o;rw[hcv] at F;have F:=Bg F;split at g;{cases g};rename_i σ Z;obtain⟨γ,h,hx⟩:=Kb Z h;replace u:=λbF d w' s x f=>u bF d w' s (hx.trans x) f;split at g;{cases g}
    rename_i k hk;have hok:=Bk hk;have go:∀{r},(Tree.node c0 (jS cx nb bf inl x O<|k.lock σ)<|jS cx nb bf inl y (O.drop<|marks x)<|k.lock σ).run=aa r->∀{v},k.Mv p.fz σ r.2=aa v ->
      (∀bF d w',dG B N bF (k.sH p.fz false (writes x++writes y) σ v) d w'->Ext B γ σ.mem w bF (k.sH p.fz false (writes x++writes y) σ v).mem w'->G9 (writes x++writes y) a d->Q (No r.1) d w') ->(Code.cond o x y).wp P Q a w:=by
     intro r S v ho hQ;have hlk:dG B N γ (k.lock σ) a w:=by rw[ah0];exact h.xg
     have hle:Ext B γ σ.mem w γ (k.lock σ).mem w:=by rw[Ha];exact Ext.xg
     have fin:bY (k.lock σ) r.2->∀bF d w',dG B N bF r.2 d w'->Ext B γ (k.lock σ).mem w bF r.2.mem w'->G9 (writes x++writes y) a d->Q (No r.1) d w':=by intro hkp bF d w' E I C;obtain⟨γ2,s2,x2⟩:=Hb hok h E (hle.trans I) C (λb bx hb Vw=>hkp b _ (by rw[Ha,Q7 hb,Vw];rfl) rfl) ho;exact hQ γ2 d w' s2 x2 C
     have hn:=gV S;cases c0 with|false=>exact wp_cond_false F (ihy hdy hn hlk λbF d w' E I C=>fin (yl D _ _ _ _ hn) bF d w' E I C.right)|true=>exact wp_cond_true F (ihx hdx hn hlk λbF d w' E I C=>fin (yl D _ _ _ _ hn) bF d w' E I C.left)
    split at g;{obtain⟨v,R,L⟩:=IG g;obtain⟨rfl,rfl⟩:=eX (aI L);obtain⟨r,h3,h4⟩:=bind_some R;obtain⟨h5,h6⟩:=aA h4;refine go h3 (Nq h6) λbF d w' s x f=>?_;rw[gP h5];exact u bF d w' s x f};rename_i es hes;obtain⟨v,R,L⟩:=IG g;obtain⟨r,h3,h4⟩:=bind_some R;split at h4;{rename_i i v' J ho;obtain rfl:=aI h4;rw[Q9 J] at L;obtain⟨rfl,rfl⟩:=eX (aI L);exact go h3 ho λbF d w' s x f=>u bF d w' s x f};cases h4
   cases g
 | loop c ih =>
   intro pl σ γ a w e aV Q H g h u;unfold jS at g;split at g
   case h_2 =>
    generalize 100000=n at g;refine IF (λm d w'=>∃bF bO,dG B N bF bO d w'/\Ext B γ σ.mem w bF bO.mem w'/\G9 (writes c) a d/\(again _ m bO).run=aa _) ⟨γ,σ,h,Ext.refl _ _ _ _,G9.refl _ _,g⟩ ?_;intro m a1 w1 hI;obtain⟨T,bO,E,Y,C,K⟩:=hI;cases m with
    | zero=>cases K
    | succ m =>
      obtain⟨r,U,A⟩:=bind_some K;obtain⟨e',cP⟩:=r;refine ih H U E λbF d w' s2 e2 f2=>?_;cases X:Nat.beq e' 0 with
      | true =>dsimp only at A;rw[X] at A;obtain rfl:=gP X;exact⟨m,UX m,bF,cP,s2,Y.trans e2,C.trans f2,A⟩
      | false =>
        dsimp only at A;rw[X] at A;obtain⟨rfl,rfl⟩:=eX (aI A);have:=u bF d w' s2 (Y.trans e2) (C.trans f2)
        match e',X,this with|0,X,_=>cases X|1,_,this=>exact this|i+2,_,this=>exact this
   (case h_3=>cases g);rename_i p O;split at g
   .rename_i ct hct;generalize 100=n at g;generalize 0=j at g;refine IF (λm d w'=>∃bF bO j',dG B N bF bO d w'/\Ext B γ σ.mem w bF bO.mem w'/\G9 (writes c) a d/\(Ip _ ct m j' bO).run=aa _) ⟨γ,σ,j,h,Ext.refl _ _ _ _,G9.refl _ _,g⟩ ?_;intro m a1 w1 hI;obtain⟨T,bO,j1,E,Y,C,K⟩:=hI;cases m with
    | zero=>cases K
    | succ m =>
      unfold Ip at K;split at K;(case h_2=>cases K);rename_i x hx;obtain⟨hj,hr2⟩:=cX K;obtain⟨r,U,A⟩:=bind_some hr2;obtain⟨e',cP⟩:=r;change Int at x;have s1':dG B N T (bO.put ct<|.data (.int .i64) (j1:Int)) a1 w1:=E.aaH (by have:=E.bj ct;rw[hx] at this;rw[<-(fy hj)];exact this)
      refine ih H U s1' λbF d w' s2 e2 f2=>?_;cases X:Nat.beq e' 0 with
      | true =>obtain rfl:=gP X;exact⟨m,UX m,bF,cP,j1+1,s2,Y.trans e2,C.trans f2,A⟩
      | false =>
        dsimp only at A;rw[X] at A;obtain⟨rfl,rfl⟩:=eX (aI A);have:=u bF d w' s2 (Y.trans e2) (C.trans f2)
        match e',X,this with|0,X,_=>cases X|1,_,this=>exact this|i+2,_,this=>exact this
   split at g;{cases g};rename_i σ Z;obtain⟨γ,h,hx⟩:=Kb Z h;replace u:=λbF d w' s x f=>u bF d w' s (hx.trans x) f;split at g;{cases g};rename_i k hk;have hok:=Bk hk;dsimp only at g;split at g;{cases g};rename_i x0 hx0;have hb:∀x r,roundOf cx nb bf inl k p.fz σ c O x=aa r->∃e sn y,(jS cx nb bf inl c O<|k.sH false true (writes c) σ x).run=aa (e,sn)/\(bif Nat.beq e 0 then k.out false σ sn else k.Mv p.fz σ sn)=aa y/\((e=0/\r=.inl y)\/(e≠0/\∃i,KM (wS c) e=aa i/\r=.inr (i,y))):=by intro x r hx;obtain⟨q,U,A⟩:=bind_some hx;obtain⟨e,sn⟩:=q;cases he:Nat.beq e 0 with|true =>rw[he] at A;split at A;{rename_i y hy;exact⟨e,sn,y,U,by rw[he];exact hy,.inl ⟨gP he,(aI A).symm⟩⟩};cases A|false =>rw[he] at A;simp at A;split at A;{rename_i i y hi hy;exact⟨e,sn,y,U,by rw[he];exact hy,.inr ⟨λe0=>(by subst e0;cases he),i,hi,(aI A).symm⟩⟩};cases A
   have step:∀{x e sn y},(jS cx nb bf inl c O<|k.sH false true (writes c) σ x).run=aa (e,sn)->(bif Nat.beq e 0 then k.out false σ sn else k.Mv p.fz σ sn)=aa y->∀T a1 w1 Q',dG B N T (k.sH false true (writes c) σ x) a1 w1 ->
     (∀sn bF d w',(bif Nat.beq e 0 then k.out false σ sn else k.Mv p.fz σ sn)=aa y->bY (k.sH false true (writes c) σ x) sn->dG B N bF sn d w'->Ext B T (k.sH false true (writes c) σ x).mem w1 bF sn.mem w'->G9 (writes c) a1 d->Q' (No e) d w')->c.wp P Q' a1 w1:=by
    intro x e sn y S ho T a1 w1 Q' s hQ;exact ih H S s λbF d w' E I C=>hQ sn bF d w' ho (yl D _ _ _ _ S) E I C
   split at g;{rename_i e0 hes;obtain⟨v,R,L⟩:=ck g;obtain⟨rfl,rfl⟩:=eX (aI L);refine Ra (fz:=p.fz) hok h hx0 _ (λz e' y=>e'=e0/\z=y) R (λx r hx=>?_) (λe' y hne hO bF d w' s x f=>?_);{rcases ack hx with ⟨y,rfl,hy⟩|⟨i,y,rfl,hy⟩;{obtain⟨e,sn,y',U,A,W⟩:=hb x _ hy;rcases W with ⟨rfl,W⟩|⟨_,i,_,W⟩;{obtain rfl:=U5 W;exact⟨0,y,⟨rfl,rfl⟩,step U A⟩};cases W};obtain⟨e,sn,y',U,A,W⟩:=hb x _ hy;rcases W with ⟨rfl,W⟩|⟨hne,i',J,W⟩;{cases W};obtain⟨rfl,rfl⟩:=eX (Sum.inr.inj W);rw[hes] at J;exact⟨e,y,⟨hne,afq J,rfl⟩,step U A⟩};obtain⟨rfl,rfl⟩:=hO;exact u bF d w' s x f};obtain⟨v,R,L⟩:=ck g;refine Ra (fz:=p.fz) hok h hx0 _ (λz e' y=>KM (wS c) e'=aa z.1/\z.2=y) R (λx r hx=>?_) (λe' y hne hO bF d w' s x f=>?_);{obtain⟨e,sn,y',U,A,W⟩:=hb x _ hx;rcases W with ⟨rfl,rfl⟩|⟨hne,i,J,rfl⟩;{exact⟨0,y',⟨rfl,rfl⟩,step U A⟩};exact⟨e,y',⟨hne,J,rfl⟩,step U A⟩};obtain⟨J,rfl⟩:=hO;rw[Q9 J] at L;obtain⟨rfl,rfl⟩:=eX (aI L);exact u bF d w' s x f
 | _=>intro pl σ γ a w e aV Q H g h u;cases g
end
end Go.Ge
namespace Go.Ge
variable [Lp]
open RowKit
def Y0(b:Func):Bool:=!(b.name == "runtime.NumGoroutine")&&(match b.body with|some c=>(writes c).all λt=>Nat.blt t b.ntmps|none=>true)
def Rb(cx:Ctx):Prop:=∀f b,find cx.fns f=aa b->Y0 b=true
def sZ{α}{l:List (Nat×α)}{k x}(h:find l k=aa x):(k,x)∈l:=by induction l with|nil=>cases h|cons p r c =>obtain⟨i,a⟩:=p;simp only[find] at h;cases b:Nat.beq i k with|true =>(rw[b] at h;obtain rfl:=aI h;obtain rfl:=gP b;exact rU ..)|false=>rw[b] at h;exact wZ _ (c h)
def afr{cx}(h:(cx.fns.all λp=>Y0 p.2)=true):Rb cx:=λf c b=>by rw[w8] at h;exact h _ (sZ b)
section
variable {P:Program} {B:CG} {N:Nat} {γ:Gh} {σ:St} {a:Act} {w:World} {cx:Ctx}
def IH(b:Array Value):ResultVar->Sem Value|.tmp t=>pure (b.getD t undef)|.cell a t=>do loadVar t (<-asAddr (b.getD a undef))
def B4(e:ga P cx)(h:dG B N γ σ a w){r v}(d:(Iq cx σ r).run=aa v):∃b,(IH a.tmps r).run P w=.ok b w/\cQ γ σ.mem w v .val [b]:=by cases r with|tmp t =>(obtain rfl:=aI d;exact⟨_,rfl,h.bj t⟩)|cell t ty =>obtain⟨τ,g,i⟩:=bind_some d;obtain rfl:=aI i;obtain⟨u,b,j,rfl,k,l,m⟩:=Vo e (x:=.tmp t) h g;refine⟨b,?_,?_⟩;{have c:a.tmps.getD t undef=.pointer (aa j):=k;simp only[IH,c,asAddr,Sem.run_bind,Sem.run_pure,Result.andThen_ok,l]};simpa [St.bu,St.put] using m
def Nr(e:ga P cx)(h:dG B N γ σ a w):∀{rs v},(GA cx σ rs).run=aa v->∃b,b.length=rs.length/\(rs.mapM<|IH a.tmps).run P w=.ok b w/\cQ γ σ.mem w v .many b:=by intro rs;induction rs with|nil=>(intro v d;obtain rfl:=aI d;exact⟨[],rfl,rfl,rfl⟩)|cons r rs g =>intro v d;obtain⟨t,i,j⟩:=bind_some d;obtain⟨l,k,m⟩:=bind_some j;obtain rfl:=aI m;obtain⟨c,n,o⟩:=B4 e h i;obtain⟨b,p,q,s⟩:=g k;refine⟨c::b,by simp[p],?_,c,b,rfl,o,s⟩;simp only[aav,Sem.run_bind,n,Result.andThen_ok,q,Sem.run_pure]
def Y1 fn tmps:results fn tmps=(do
  let vs <-fn.results.toList.mapM (IH tmps)
  pure (if h:vs.toArray.size=1 then vs.toArray[0] else .tuple vs.toArray)):=by
 have h:results fn tmps=(do
   let vs <-fn.results.mapM (IH tmps)
   pure (if h:vs.size=1 then vs[0] else .tuple vs)):=by
  congr 1
 rw[h,Array.mapM_eq_mapM_toList];simp
def zV(j:ga P cx)(h:dG B N γ σ a w){fn v}(d:(results1 cx σ fn.results.toList).run=aa v):∃b,(results fn a.tmps).run P w=.ok b w/\cQ γ σ.mem w v .val [b]:=by
 rw[Y1];generalize fn.results.toList=rs at d;have many:∀{l},rs.length≠1->(GA cx σ rs).run=aa l->∃b,(do
   let vs <-rs.mapM (IH a.tmps)
   pure (if h:vs.toArray.size=1 then vs.toArray[0] else .tuple vs.toArray):Sem Value).run P w=.ok b w/\cQ γ σ.mem w (.Ct l) .val [b]:=by
  intro l e k;obtain⟨c,m,n,o⟩:=Nr j h k;refine⟨.tuple c.toArray,?_,c.toArray,rfl,by simpa using o⟩;have:¬c.toArray.size=1:=by simp[m,e]
  simp only[Sem.run_bind,n,Result.andThen_ok,Sem.run_pure,dif_neg this]
 match rs,d with
 | [],d =>
   obtain⟨l,g,i⟩:=bind_some d;obtain rfl:=aI i;exact many aT g
 | [r],d =>
   obtain⟨b,p,q⟩:=B4 j h d;refine⟨b,?_,q⟩;simp only[aav,Sem.run_bind,p];rfl
 | r::s::rs,d =>
   obtain⟨l,g,i⟩:=bind_some d;obtain rfl:=aI i;exact many aT g
def II{mem}(i:bH B γ mem w){b c}(e:mB γ mem w b c.toList) n :
  dG B (c.size+(n-c.size)) γ (zb mem b) { tmps:=c++Array.replicate (n-c.size) undef,defers:=[] } w where
 bj:=λt=>by
  show cQ γ mem w ((b[t]?).getD .undef) .val [_]
  cases g:b[t]? with
  | none=>exact⟨_,rfl⟩
  | some v =>
    have h:t<c.size:=by
     have:=(iQ.1 g).1;have d:=e.1;simp at d;omega
    have d:(c++Array.replicate (n-c.size) undef).getD t undef=c[t]:=by
     rw[Yb,ajd h,(Array.getElem?_eq_getElem h)];rfl
    rw[d];exact e.2 t v c[t] g aT
 size:=aT
 defers:=rfl
 ok:=i
noncomputable def Rc(c:Ctx)(n d:Nat)(b:Nat->Gx):Nat->List cw->St->Tree (cw×St) :=λg e σ=>(EP c n ((d+g+1)*1000) b g e σ.mem).bind λr=>.ret (r.1,{ σ with mem:=r.2 })
def Ns{n nb f ij b mem r}(d:(EP cx (n+1) nb ij f b mem).run=aa r) :
  ∃e c,find cx.fns f=aa e/\e.body=aa c/\((Mw cx nb (ij f) (Rc cx n nb ij) e c b mem).run=aa r\/∃R,(aaC R b mem<|aeQ R.2<|Mw cx nb (ij f) (Rc cx n nb ij) e c b).run=aa r):=by
 unfold EP at d;split at d
 case h_2=>cases d
 rename_i e g;split at d
 case h_2=>cases d
 rename_i c h;refine⟨e,c,g,h,?_⟩;split at d
 .exact .inl d
 .exact .inr ⟨_,d⟩
def FK{nb p inl fn c b mem r}(g:(Mw cx nb p inl fn c b mem).run=aa r) :
  ∃e aV,(jS cx nb p.ajP inl c p.marks<|zb mem b).run=aa (e,aV)/\(e=0\/e=1)/\(results1 cx aV fn.results.toList).run=aa r.1/\r.2=aV.mem:=by
 obtain⟨q,h,i⟩:=bind_some g;obtain⟨e,aV⟩:=q;obtain⟨d,j⟩:=aA i;obtain⟨v,k,l⟩:=bind_some j;obtain rfl:=aI l;refine⟨e,aV,h,?_,k,rfl⟩;simp only[Mk] at d;rcases d with d|d
 .exact .inl (gP d)
 .exact .inr (gP d)
def Y2{mem}:∀{u vs},cQ γ mem w u .many vs->mB γ mem w (GB u) vs:=by intro u;induction u with|mix p q e c =>(intro vs h;obtain⟨v,r,rfl,g,j⟩:=h;have:=c j;refine⟨by simp[GB,this.1],λi k y b d=>?_⟩;cases i with|zero =>(obtain rfl:=aI b;obtain rfl:=aI d;exact g)|succ i=>exact this.2 i k y (by simpa [GB] using b) (by simpa using d))|nl=>intro vs h;rw[show vs=[] from h];exact⟨rfl,λi v y b=>by cases b⟩|_=>intro vs h;exact h.elim
def V1{mem v x}(h:cQ γ mem w v .val [x]):mB γ mem w [v] [x]:=by refine⟨rfl,λi d y b c=>?_⟩;cases i with|zero =>(obtain rfl:=aI b;obtain rfl:=aI c;exact h)|succ i=>cases b
def Y3{I}:∀{R y vs},ks w I R y vs->cQ ⟨I,λ_=>af⟩ (λ_=>af) w (CB R y) .many vs:=by intro R;induction R with|pair t r d c =>(intro y vs h;obtain⟨e,b,rfl,g,i⟩:=h;exact⟨_,b,rfl,⟨e,g,rfl⟩,c i⟩)|unit=>intro y vs h;exact h|_=>intro y vs h;exact h.elim
def FL{mem R v val}(l:cQ γ mem w v .val [val]) :
  ∃c,mB γ mem w (Ar R v) c/\∀I y,ks w I R y c->mA w I R y val:=by
 have other:∀{R},(∀t,R≠.pair t .unit)->(∀y,sL R y=.Ct (CB R y))->∃c,mB γ mem w (match v with|.Ct v=>GB v|v=>[v]) c/\∀I y,ks w I R y c->mA w I R y val:=by
  intro R m d;have one:mB γ mem w [v] [val]->∃c,mB γ mem w [v] c/\∀I y,ks w I R y c->mA w I R y val:=by intro g;refine⟨[val],g,λI y h=>?_⟩;exfalso;cases R with|pair t r =>(obtain⟨n,i,e,_,j⟩:=h;obtain⟨_,rfl⟩:=aez e;cases r with|unit=>exact m t rfl|pair a b=>(obtain⟨_,_,o,_⟩:=j;cases o)|_=>exact j.elim)|unit=>cases h|_=>exact h.elim
  cases v with|Ct u =>(obtain⟨k,g,j⟩:=l;refine⟨k.toList,Y2 j,λI y h=>?_⟩;unfold mA;rw[d];exact⟨k,g,Y3 h⟩)|_=>exact one (V1 l)
 cases R with|pair t r =>(cases r with|unit =>(refine⟨[val],by cases v<;>exact V1 l,λI y h=>?_⟩;obtain⟨n,i,e,g,j⟩:=h;obtain⟨rfl,_⟩:=aez e;exact⟨n,g,rfl⟩)|_ =>cases v<;>exact other (λp e=>by cases e) (λy=>rfl))|_ =>cases v<;>exact other (λp e=>by cases e) (λy=>rfl)
def Nt{R F mem r}(c:(aeQ R F mem).run=aa r):∃q y σ,(F mem).run=aa q/\gT (ig q.2) (chT R) (Ar (chT R) q.1)=aa (y,σ)/\r=(sL (chT R) y,σ.mem):=by
 obtain⟨q,d,b⟩:=bind_some c;split at b;case h_2=>cases b
 rename_i y σ e;exact⟨q,y,σ,d,e,(aI b).symm⟩
def ah1:∀{l i t s},(t,s)∈aaB l i->∃u,s=.d u:=by intro l;induction l with|nil=>intro i t s h;cases h|cons a r b =>intro i t s h;rcases fA.1 h with h|h;{obtain⟨rfl,rfl⟩:=eX h;exact⟨a,rfl⟩};exact b h
def Nu{R c mem F r}(d:(aaC R c mem F).run=aa r) :
  ∃(k:Carry) (x:k.ty.den) (v:cw) (mem':Nat->Option eF),DW k (ig mem)/\(F (k.lock<|ig mem).mem).run=aa (v,mem')/\k.out false (ig mem) (aeP R.1 v mem')=aa x/\Vj R.1 v R.2.length=true /\r=(SJ R.1 R.2.length (k.sH false false (List.range R.2.length) (ig mem) x).bj,(k.sH false false (List.range R.2.length) (ig mem) x).mem):=by
 unfold aaC at d;split at d
 .cases d
 rename_i m i;obtain⟨x,j,l⟩:=IG d;obtain⟨q,n,e⟩:=bind_some j;obtain⟨o,e⟩:=aA e;refine⟨⟨aaB R.2 0,m,λ_ g=>g⟩,x,q.1,q.2,⟨λt s h=>?_,afo i,λb x p=>(by cases p)⟩,n,Nq e,o,(aI l).symm⟩;obtain⟨u,rfl⟩:=ah1 h;trivial
def afs{γ mem w}:∀{m vs},cQ γ mem w m .many vs->SI m=vs.length/\∀t u,nth m t=aa u->∃v,vs[t]?=aa v/\cQ γ mem w u .val [v]:=by intro m;induction m with|mix a b _ d =>(intro vs h;obtain⟨v,r,rfl,e,g⟩:=h;obtain⟨i,j⟩:=d g;refine⟨by simp only[SI,iV,i],λt u c=>?_⟩;cases t with|zero=>(obtain rfl:=aI c;exact⟨v,rfl,e⟩)|succ t=>exact j t u c)|nl=>(intro vs h;obtain rfl:vs=[]:=h;exact⟨rfl,λt u c=>(by cases t<;>cases c)⟩)|_=>intro vs h;exact h.elim
def acm{γ mem w bj}:∀b i,(∀t v,b[t]?=aa v->cQ γ mem w (bj<|i+t) .val [v])->cQ γ mem w (ajR bj i b.length) .many b:=by
 intro b;induction b with
 | nil=>intro i h;exact rfl
 | cons v r c =>
   intro i h;refine⟨v,r,rfl,h 0 v rfl,c _ λt u d=>?_⟩;have:=h (t+1) u (by simpa using d)
   rwa [show i+_=i+1+t by omega] at this
def Nv{ij}:∀n nb f d mem r,(EP cx n nb ij f d mem).run=aa r->∀b g,mem b=aa g->g.lk=true->r.2 b=aa g:=by intro n;induction n with|zero=>intro nb f d mem r h;cases h|succ n m =>(intro nb f d mem r h b g j l;obtain⟨o,c,z,A,i⟩:=Ns h;have body:∀{mem r},(Mw cx nb (ij f) (Rc cx n nb ij) o c d mem).run=aa r->∀b g,mem b=aa g->g.lk=true->r.2 b=aa g:=by (intro mem r h b g j l;obtain⟨e,aV,i,C,D,p⟩:=FK h;have:=yl (λf d σ v aV s=>by obtain⟨q,t,u⟩:=bind_some s;obtain⟨rfl,rfl⟩:=eX (aI u);exact λb g j l=>m _ _ _ _ q t b g j l) c _ _ _ i);rw[p];exact this b g j l);rcases i with i|⟨R,i⟩;{exact body i b g j l};obtain⟨k,x,v,mem',y,_,_,_,rfl⟩:=Nu i;exact CS (wr:=List.range R.2.length) y b g j l
def Nw{ij} n nb:∀f c σ v aV,(Rc cx n nb ij f c σ).run=aa (v,aV)->bY σ aV:=by intro f c σ v aV d;obtain⟨q,e,g⟩:=bind_some d;obtain⟨rfl,rfl⟩:=eX (aI g);exact λb h i j=>Nv _ _ _ _ _ q e b h i j
def CT(U:P.follows .mixedOrders=true)(hc:ga P cx){G}(W:ql P G cx)(X:Rb cx){ij} :
  ∀n nb f B γ mem mem' w g A v,B.G=G->bH B γ mem w->mB γ mem w g A.toList->(EP cx n nb ij f g mem).run=aa (v,mem') ->(∃p Y,P.funcs[f]?=aa p/\(p.name == "runtime.NumGoroutine")=false/\p.body=aa Y) /\Calls P f A w λe w'=>∃d bF,e=.returned d/\bH B bF mem' w'/\Ext B γ mem w bF mem' w'/\cQ bF mem' w' v .val [d]:=by
 intro n;induction n with
 | zero=>intro nb f B γ mem mem' w g A v _ _ _ h;cases h
 | succ n ih =>
   intro nb f B γ mem mem' w g A v hG D T h;subst hG;obtain⟨p,c,h1,h2,E⟩:=Ns h;have F:=X f p h1;simp only[Y0,h2,gO,Ez,w8] at F;have hP:=hc.fns f p h1;refine⟨⟨p,c,hP,F.1,h2⟩,?_⟩;have Z:zf P B.G (Rc cx n nb ij):=by intro B' γ σ aqe w f g A v hG D T hi;obtain⟨q,g1,g2⟩:=bind_some hi;obtain⟨rfl,rfl⟩:=eX (aI g2);obtain⟨k1,k2⟩:=ih _ f B' γ σ.mem q.2 w g A q.1 hG D T g1;exact⟨k1,rfl,k2⟩
   have body:∀{γ mem mem' v},bH B γ mem w->mB γ mem w g A.toList->(Mw cx nb (ij f) (Rc cx n nb ij) p c g mem).run=aa (v,mem') ->
     Calls P f A w λe w'=>∃d bF,e=.returned d/\bH B bF mem' w'/\Ext B γ mem w bF mem' w'/\cQ bF mem' w' v .val [d]:=by
    intro γ mem mem' v D T h;obtain⟨e,aV,E,h4,h5,h6⟩:=FK h;subst h6;refine calls_of_wp hP h2 ?_;refine vY U hc W Z (Nw _ _) c (λt r=>?_) E (II D T p.ntmps) λbF a' w' s x f=>?_
    .have:=F.2 t r;have:=KF (by simpa [Nat.blt] using this);omega
    .obtain⟨d,r1,r2⟩:=zV hc s h5;have:a'.defers=[]/\∃H,(results p a'.tmps).run P w'=.ok H w'/\∃d bF,Ending.returned H=.returned d/\bH B bF aV.mem w'/\Ext B γ mem w bF aV.mem w'/\cQ bF aV.mem w' v .val [d] :=
      ⟨s.defers,d,r1,d,bF,rfl,s.ok,x,r2⟩
     rcases h4 with rfl|rfl
     .exact this
     .exact this
   rcases E with E|⟨R,E⟩
   .exact body D T E
   .obtain⟨k,x,H,i,hk,h4,h5,I,h6⟩:=Nu E;obtain⟨rfl,rfl⟩:=eX h6;have J:(k.lock<|ig mem).mem=xg _ mem:=Ha k _;have Yw:Ext B γ mem w γ (k.lock<|ig mem).mem w:=by rw[J];exact Ext.xg
    have K:∀b z,(k.lock<|ig mem).mem b=aa z->z.lk=true->i b=aa z:=by
     intro b z hb hl;obtain⟨q,y,cP,g4,hg,hq⟩:=Nt h4;obtain⟨e,aV,g3,_,_,g6⟩:=FK g4;have:=yl (λf g σ v aV hi=>Nw n nb f g σ v aV hi) c _ _ _ g3;rw[(eX hq).2];exact ku hg b z (by show q.2 b=aa z;rw[g6];exact this b z hb hl) hl
    obtain⟨q,y,cP,g4,hg,hq⟩:=Nt h4;obtain⟨hv1,O⟩:=eX hq;refine(body (by rw[J];exact D.xg) (T.ext Yw) g4).mono λe w' hw=>?_;obtain⟨d,X7,rfl,m0,x0,r0⟩:=hw;obtain⟨xs0,u1,u2⟩:=FL (R:=chT R.2) r0;obtain⟨j,s1,y1,y2⟩:=kR (a:={ tmps:=#[],defers:=[] }) (N:=0) (σ:=ig q.2) ⟨λt=>⟨_,rfl⟩,rfl,rfl,m0⟩ u1 hg;have m1:bH B j i w':=by rw[O];exact s1.ok
    have x1:Ext B γ (k.lock<|ig mem).mem w j i w':=by rw[O];exact x0.trans y1
    have r1:cQ j i w' H .val [d]:=by rw[O,hv1];exact(u2 _ _ y2).rep λ_ _ h=>h
    have fin:∀n (ts:Array Value),ts.size=n->n=R.2.length->(∀t,cQ j i w' (spread R.1 H t) .val [ts.getD t undef]) ->
      (∀{o sl},(∀t,cQ j o w' (sl t) .val [ts.getD t undef])->cQ j o w' (SJ R.1 R.2.length sl) .val [d]) ->
      ∃C S,Ending.returned d=.returned C/\bH B S (k.sH false false (List.range R.2.length) (ig mem) x).mem w'/\Ext B γ mem w S (k.sH false false (List.range R.2.length) (ig mem) x).mem w' /\
       cQ S (k.sH false false (List.range R.2.length) (ig mem) x).mem w' (SJ R.1 R.2.length (k.sH false false (List.range R.2.length) (ig mem) x).bj) .val [C]:=by
     intro n ts hts hn hr hg;have s0:dG B n γ (ig mem) { tmps:=Array.replicate n undef,defers:=[] } w:=⟨λt=>⟨_,rfl⟩,aT,rfl,D⟩;have s1:dG B n j (aeP R.1 H i) { tmps:=ts,defers:=[] } w':=⟨hr,hts,rfl,m1⟩;obtain⟨s2,x2⟩:=vX hk s0 s1 (Yw.trans x1) (λt r=>by
      have r:¬t<n:=λhlt=>by
       have anl:t∈List.range R.2.length:=Mm.2 ah;have:=CN.2 anl;rw[this] at r;cases r
      rw[UO<|by show ts.size<=t;omega,UO cR]) (λb z hb Vw=>⟨true,K b _ (by rw[J];simp only[xg,show mem b=aa z from hb,Vw,Cp]) rfl⟩) h5
     exact⟨d,j,rfl,s2.ok,x2,hg s2.bj⟩
    obtain⟨Ct,L⟩:=R;cases Ct with
    | false =>
      refine fin 1 #[d] rfl (gP I).symm (λt=>?_) (λh=>h 0);cases t with
      | zero=>exact r1
      | succ t=>exact⟨_,rfl⟩
    | true =>
      cases H with
      | Ct m =>
        obtain⟨l,e1,r2⟩:=r1;obtain⟨q1,q2⟩:=afs r2;obtain rfl:d=.tuple l:=wD e1;have X6:l.size=L.length:=by rw[<-(gP I),q1];simp
        refine fin L.length l X6 rfl (λt=>?_) (λ{o sl} h=>⟨l,rfl,?_⟩)
        .show cQ j i w' (match nth m t with|some u=>u|none=>.undef) .val _
         cases r:nth m t with
         | none=>exact⟨_,rfl⟩
         | some u =>
           obtain⟨v,g1,g2⟩:=q2 t u r;rw[Yb,<-aee,g1];exact g2
        .have:=acm l.toList 0 λt v r=>by
          have:=h t;rw[Yb,<-aee,r] at this;rw[Cx];exact this
         rwa [show l.toList.length=L.length by rw[<-X6];simp] at this
      | _=>cases I
end
end Go.Ge
