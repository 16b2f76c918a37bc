import Derived.Test.YtcebnmppipejfaaGreatDoorGeF
import Derived.Scope
import Derived.Laws.Sem
set_option linter.unusedVariables false
set_option linter.unusedSimpArgs false
set_option linter.unusedSectionVars false
set_option linter.defProp false
open Option renaming some->aa,none->af
namespace Go.Ge
open RowKit
section
variable {P:Program} {B:DW} {N:Nat} {γ:Gh} {cx:Ctx} {nb:Nat} {bf:List Nat} {inl:Nat->List cw->St->Tree (cw×St)} {σ bb:St} {ops:Array Oper} {fp:Nat->Fp}
def aiJ{b:St}{d v}(h:b.bw d=v):b.put d v=b:=by unfold St.put;congr 1;funext t;cases c:Nat.beq t d with|true=>(obtain rfl:=iN c;exact h.symm)|false=>rfl
def alj(d:Ctx)(g:Nat)(h:List Nat)(inl:Nat->List cw->St->Tree (cw×St))(b:Array Oper)(c:Nat->Fp):Nat->List Oper->Gst->Gst->Prop|_,[],s,s'=>s=s'|k,o::l,s,s'=>(((c k).Ov=false->Y0 d g o (c k))/\((c k).Ov=true->(c k).wr=[]))/\(∀e∈o.after,Region.binds .any e=true->e.on<k) /\(∀j i,l[j]?=aa i->Reach b (k+1+j) k\/Ef b k (k+1+j) o i (c k) (c<|k+1+j)=true) /\∃m,qe d g h inl b (c k) k o s=aa m/\alj d g h inl b c (k+1) l m s'
def Mr{i o f b k m mk ok r}(h:Hv ops i o f m ((k,ok,b,mk)::r)=true):(Nat.testBit m k=true\/Ef ops k i ok o b f=true)/\Hv ops i o f m r=true:=by simp only[Hv,gC,Iw] at h;exact h
def Qo{i o r done d}(h:(zB cx nb bf inl ops ((i,o)::r) done σ d).run=aa bb) :
  ∃l,Hv ops i o (Ed cx nb o σ) (mask done o) done=true/\(∀e∈o.after,Region.binds .any e=true->e.on<i)/\qe cx nb bf inl ops (Ed cx nb o σ) i o (σ,d)=aa l /\(zB cx nb bf inl ops r ((i,o,Ed cx nb o σ,mask done o)::done) l.1 l.2).run=aa bb:=by
 simp only[zB] at h;obtain⟨A,k⟩:=aD h;simp only[gC] at A;obtain⟨y,t⟩:=A;have p:∀e∈o.after,Region.binds .any e=true->e.on<i:=λe C D=>by rw[<-Array.all_toList,wH] at t;have:=t e (by simpa using C);rw[D] at this;have:=M7 (by simpa [Nat.blt] using this);omega
 suffices ∃l,qe cx nb bf inl ops _ i o _=aa l/\(zB cx nb bf inl ops r _ l.1 l.2).run=aa bb by obtain⟨l,E,F⟩:=this;exact⟨l,y,p,E,F⟩
 split at k
 .rename_i x;obtain⟨b4,q,u⟩:=bind_some k;refine⟨(b4,d),?_,u⟩;have hd:HI ops o (σ,d)=aa true:=by unfold HI;rw[x]
  unfold qe;rw[hd,q];rfl
 .rename_i g b x;split at k;{cases k};rename_i G v;cases m:d g with|true =>(rw[m] at k;refine⟨(σ.bF o.dst .undef,kH i d),?_,k⟩;have hd:HI ops o (σ,d)=aa false:=by unfold HI;rw[x];dsimp only;rw[v,m];rfl);unfold qe;rw[hd]|false =>rw[m] at k;split at k;{(rename_i c j;change Bool at c;have s:=gH k;have hd:HI ops o (σ,d)=aa (c==b):=by unfold HI;rw[x];dsimp only;rw[v,m];simp;rw[j]);(have n:=aiJ j;have run:∀{b4},(jo cx nb bf inl (Ed cx nb o σ) o σ).run=aa b4->(c==b)=true->qe cx nb bf inl ops _ i o _=aa (b4,d):=λq z=>by unfold qe;rw[hd,z,q];rfl);(have skip:(c==b)=false->qe cx nb bf inl ops (Ed cx nb o σ) i o _=aa _:=λz=>by unfold qe;rw[hd,z]);cases c with|true =>(rw[n] at s;cases b with|true=>(obtain⟨b4,q,u⟩:=bind_some s;exact⟨(b4,d),run q rfl,u⟩)|false=>exact⟨_,skip rfl,s⟩)|false =>rw[n] at s;cases b with|true=>exact⟨_,skip rfl,s⟩|false=>obtain⟨b4,q,u⟩:=bind_some s;exact⟨(b4,d),run q rfl,u⟩};cases k
def Td:∀l k c σ n,(∀j o,l[j]?=aa o->ops[k+j]?=aa o)->vf ops c->(zB cx nb bf inl ops (number k l) c σ n).run=aa bb ->
  ∃(g:List (Fp×Nat)) (i:Nat->Bool),g.length=l.length/\(∀j m b,g[j]?=aa m->Nat.testBit m.2 b=true->Reach ops (k+j) b) /\∀fp,(∀j f,g[j]?=aa f->fp (k+j)=f.1)->alj cx nb bf inl ops fp k l (σ,n) (bb,i)/\∀j o f,l[j]?=aa o->g[j]?=aa f->Hv ops (k+j) o (fp<|k+j) f.2 c=true:=by
 intro l;induction l with|nil =>(intro k c σ n _ _ h;obtain rfl:=aU h;exact⟨[],n,rfl,λj m b h=>absurd h aW,λfp _=>⟨rfl,λj o f d=>absurd d aW⟩⟩)|cons o l D =>intro k c σ n v x h;obtain⟨t,E,F,G,H⟩:=Qo h;have y:=v 0 o rfl;obtain⟨g,i,z,A,I⟩:=D _ _ t.1 t.2 (λj u d=>by have:=v (j+1) u (by simpa using d);rw[<-this];congr 1;omega) (x.cons y) H;refine⟨(Ed cx nb o σ,mask c o)::g,i,by simp[z],λj m b d e=>?_,λfp p=>?_⟩;{cases j with|zero=>(obtain rfl:=aU d;exact HH x y e)|succ j=>have:=A j m b (by simpa using d) e;rw[show k+_=k+1+j by omega];exact this};(have r:fp k=Ed cx nb o σ:=p 0 _ rfl;obtain⟨J,C⟩:=I fp λj f d=>by have:=p (j+1) f (by simpa using d);rw[<-this];congr 1;omega);refine⟨⟨⟨λe=>by rw[r] at e⊢;exact OC o σ e,λe=>by rw[r] at e⊢;exact aiG o σ e⟩,F,λj K d=>?_,t,by rw[r];exact G,J⟩,λj u f d s=>?_⟩;{obtain⟨f,s⟩:∃f,g[j]?=aa f:=⟨_,gQ (by rw[z];exact(ga.1 d).1)⟩;rcases(Mr<|C j K f d s).1 with q|q;{exact .inl (A j f k s q)};rw[r];exact .inr q};cases j with|zero =>(obtain rfl:=aU d;obtain rfl:=aU s;rw[IA,r];exact E)|succ j =>have:=(Mr<|C j u f (by simpa using d)<|by simpa using s).2;rw[show k+_=k+1+j by omega];exact this
def aiK{s'}:∀l k c s,(∀j,l[j]?=ops[k+j]?)->c.size=ops.size->(∀j,j<k->j<ops.size->c.getD j false=true) ->
  (∀j,k<=j->j<ops.size->c.getD j true=false)->Wo ops c->alj cx nb bf inl ops fp k l s s'->Wr cx nb bf inl ops fp (·=s') l.length c s:=by
 intro l;induction l with
 | nil =>intro k c s x y z E d h;refine⟨?_,h⟩;cases K:Region.ready .any ops c with|nil=>rfl|cons i r =>obtain⟨F,o,H,_⟩:=mem_ready.1 (by rw[K];exact pg ..);have n:=(A9.1 H).1;rcases xy i k with v|v;{have:=z i v n;simp[y,n] at this F;rw[this] at F;cases F};have:=x (i-k);rw[show k+_=i by omega,H] at this;cases this
 | cons o l L =>
   (intro k c s x y z E d h;have v:ops[k]?=aa o:=by simpa using(x 0).symm);(have n:=(A9.1 v).1;obtain⟨I,O,Q,J,R,S⟩:=h;have g:=mem_ready.2 ⟨E k (b8 _) n,o,v,λe T A=>by have:=O e T A;exact z e.on this ai⟩);refine ab3 v (λb A=>by cases p:(fp k).Ov with|true=>rw[I.2 p] at A;cases A|false=>exact(I.1 p).sub b A) l.length c s J d (λj U D W t=>?_) g R (L _ _ J (λj=>?_) (by simp[y]) (λj D u=>?_) (λj D u=>?_) (d.list g) S)
   {have q:=(A9.1 D).1;rcases xy j k with C|C;{exfalso;have:=z j C q;simp[y,q] at this t;rw[this] at t;cases t};have G:=x (j-k);rw[show k+_=j by omega,D] at G;obtain⟨m,X⟩:∃m,j-k=m+1:=⟨j-k-1,ai⟩;rw[X] at G;have:=Q m U (by simpa using G);rw[show k+1+m=j by omega] at this;exact this};{have:=x (j+1);rw[show k+1+j=k+(j+1) by omega,<-this];simp};{by_cases e:j=k;{subst e;simp[y,n]};rw[getD_set_ne false<|Pr e];exact z j ai u};rw[getD_set_ne true (by omega:k≠j)];exact E j ai u
def ab4(c:∀f d σ v bb,(inl f d σ).run=aa (v,bb)->b5 σ bb):∀l k b σ bb g,(zB cx nb bf inl ops (number k l) b σ g).run=aa bb->b5 σ bb:=by intro l;induction l with|nil=>(intro k b σ bb g h;obtain rfl:=aU h;apply b5.refl)|cons o l i =>intro k b σ bb g h;obtain⟨n,p,q,e,j⟩:=Qo h;refine b5.trans ?_ (i _ _ _ _ _ j);unfold qe at e;split at e;{cases e};{obtain⟨b4,m,rfl⟩:=Ho.1 e;exact Ep c b4 (FL (OC o σ) m)};obtain rfl:=aU e;apply b5.bF
end
end Go.Ge
namespace Go.Ge
open RowKit
section
variable {P:Program} {B:DW} {N:Nat} {γ:Gh} {cx:Ctx} {nb:Nat} {bf:List Nat} {inl:Nat->List cw->St->Tree (cw×St)} {σ bb:St} {ops:Array Oper} {fp:Nat->Fp}
def ab5{l:List Oper}{j:Nat}{o}{d:Nat}(h:l[j]?=aa o)(b:o.dst=aa d):d∈pj.KF l:=by induction l generalizing j with|nil=>cases h|cons p l c =>cases j with|zero=>(obtain rfl:=aU h;simp only[pj.KF,b];exact pg ..)|succ j =>have:=c (by simpa using h);simp only[pj.KF];split;{exact wG _ this};exact this
def Qp:∀{l},pj l=true->∀{i j:Nat} {x y} {d:Nat},i<j->l[i]?=aa x->l[j]?=aa y->x.dst=aa d->y.dst≠aa d:=by intro l;induction l with|nil=>intro _ i j x y d _ h;cases h|cons p l n =>(intro h i j x y d o e q g k;simp only[pj,gC] at h;obtain⟨m,rfl⟩:∃m,j=m+1:=⟨j-1,ai⟩;have b:l[m]?=aa y:=by simpa using q);cases i with|zero =>(obtain rfl:=aU e;have c:=h.1;rw[g] at c;simp at c;exact ko.1 c (ab5 b k))|succ i=>exact n h.2 (i:=i) ai (by simpa using e) b g k
def ab6(h:pj ops.toList=true){i j:Nat}{x y}{d:Nat}(b:i≠j)(e:ops[i]?=aa x)(g:ops[j]?=aa y)(k:x.dst=aa d):y.dst≠aa d:=by
 rcases Nat.lt_or_gt_of_ne b with c|c
 {exact Qp h c (by simpa using e) (by simpa using g) k};intro l;exact Qp h c (by simpa using g) (by simpa using e) l k
def ab7(c:Array Oper)(d:Nat->Bool)(b:Array Bool)(a:Act):Prop:=∀k,d k=true->yielded c a.tmps k=af/\b.getD k true=true
def zK{a:Act}{i k o v}(b:pj ops.toList=true)(d:ops[i]?=aa o)(c:k≠i):yielded ops (a.put o.dst v).tmps k=yielded ops a.tmps k:=by unfold yielded;cases e:ops[k]? with|none=>rfl|some y =>simp;cases hd:y.dst with|none=>rfl|some g =>simp;have:=ab6 b c e d hd;rw[gm this]
def ab7.run{d listed a i o v}(h:ab7 ops d listed a)(c:pj ops.toList=true)(l:ops[i]?=aa o)(g:listed.getD i true=false):ab7 ops d (listed.setIfInBounds i true) (a.put o.dst v):=λk m=>by
 obtain⟨n,j⟩:=h k m;have b:k≠i:=λe=>by subst e;rw[j] at g;cases g
 exact⟨by rw[zK c l b];exact n,by rw[getD_set_ne true<|Pr b];exact j⟩
def ab7.skip{c listed a i o}(h:ab7 ops c listed a)(d:pj ops.toList=true)(g:ops[i]?=aa o)(m:listed.getD i true=false):ab7 ops (kH i c) (listed.setIfInBounds i true) (a.put o.dst Go.undef):=λk j=>by
 by_cases b:k=i
 .subst b;refine⟨Jd g,?_⟩;rcases xy k listed.size with l|l;{simp};simp[X4 l] at m
 have e:c k=true:=by simp only[kH,kn b] at j;exact j
 obtain⟨n,p⟩:=h k e;exact⟨by rw[zK d g b];exact n,by rw[getD_set_ne true<|Pr b];exact p⟩
def Te(hc:fM P cx)(E:sn P B.G cx)(F:zG P B.G inl){Q}(H:pj ops.toList=true)(L:∀i o,ops[i]?=aa o->(fp i).Ov=false->Y0 cx nb o (fp i))
  (hd:∀o∈ops.toList,∀k,o.dst=aa k->k<N):∀n d s γ a w,Wr cx nb bf inl ops fp (λs=>s.1=bb) n d s->dz B N γ s.1 a w->ab7 ops s.2 d a ->(∀bM O w',dz B N bM bb O w'->Ext B γ s.1.mem w bM bb.mem w'->Fr (number 0 ops.toList) a O->Q .normal O w')->wpAny P .any ops Q n d a w:=by
 intro n;induction n with|zero =>(intro d s γ a w h D r y;obtain⟨u,R⟩:=h;rw[<-R] at y;exact⟨u,y γ a w D (Ext.refl _ _ _ _) λt _=>rfl⟩)|succ n ih =>intro d s γ a w h D r y;refine⟨λh0=>?_,λi hi=>?_⟩;{have R:=h.1 h0;rw[<-R] at y;exact y γ a w D (Ext.refl _ _ _ _) λt _=>rfl};(obtain⟨o,s1,u,I,h4⟩:=h.2 i hi;have J:=(mem_ready.1 hi).1;have x:o∈ops.toList:=by have:=ahD u;simpa using this);(have j:(i,o)∈number 0 ops.toList:=by have:=Ql (l:=ops.toList) (k:=0) (by simpa using u);simpa using this);(have hw:∀b,HI ops o s=aa b->Region.wanted o (yielded ops a.tmps)=b:=by intro b e;unfold HI at e;cases m:o.guard with|none =>(rw[m] at e;obtain rfl:=aU e;unfold Region.wanted;rw[m])|some p =>obtain⟨g,K⟩:=p;rw[m] at e;dsimp only at e;split at e;{cases e};rename_i dg S;cases T:s.2 g with|true =>(rw[T] at e;obtain rfl:=aU e;unfold Region.wanted;rw[m];simp only[(r g T).1];rfl)|false =>rw[T] at e;split at e;{rename_i c z;obtain rfl:=aU e;have A:=Mp D z;unfold Region.wanted;rw[m];simp only[yielded,S,adQ,A];cases c<;>cases K<;>rfl};cases e);unfold wpOp;rw[u];dsimp only;unfold qe at I;split at I;{cases I};{rename_i q;obtain⟨b4,q1,rfl⟩:=Ho.1 I;rw[hw true q];refine .inl (P6 hc E F D (hd o x) (FL (L i o u) q1) λU v w1 s1 x1=>?_);refine ih _ _ U _ w1 h4 s1 (r.run H u J) λC W X Y Z f2=>y C W X Y (x1.trans Z) λt A=>?_;rw[f2 t A,gm (Qm A j)]};(rename_i q;obtain rfl:=aU I;rw[hw false q];have hm:(s.1.bF o.dst .undef).mem=s.1.mem:=by cases o.dst<;>rfl);refine ih _ _ γ _ w h4 (D.yu (hd o x) ⟨_,rfl⟩) (r.skip H u J) λC W X Y Z f2=>y C W X Y (by rw[<-hm];exact Z) λt A=>?_;rw[f2 t A,gm (Qm A j)]
def Wr.mono{Q Q'}(b:∀s,Q s->Q' s):∀{n listed s},Wr cx nb bf inl ops fp Q n listed s->Wr cx nb bf inl ops fp Q' n listed s:=by intro n;induction n with|zero=>intro listed s h;exact⟨h.1,b _ h.2⟩|succ n c =>intro listed s h;refine⟨λd=>b _ (h.1 d),λi e=>?_⟩;obtain⟨o,g,j,k,l⟩:=h.2 i e;exact⟨o,g,j,k,c l⟩
def Ws(c:P.follows .mixedOrders=true)(v:fM P cx)(d:sn P B.G cx)(g:zG P B.G inl){Q id a w}(n:pj ops.toList=true)
  (y:∀o∈ops.toList,∀k,o.dst=aa k->k<N) (z:(zB cx nb bf inl ops (number 0 ops.toList) [] σ λ_=>false).run=aa bb) (h:dz B N γ σ a w) (A:∀bM m w',dz B N bM bb m w'->Ext B γ σ.mem w bM bb.mem w'->Fr (number 0 ops.toList) a m->Q .normal m w'):(Code.region id ops true).wp P Q a w:=by
 refine wp_region_any c ?_;obtain⟨C,D,R,S,E⟩:=Td ops.toList 0 [] σ _ (λj o b=>by simpa using b) vf.nil z
 let fp:Nat->Fp:=λi=>(C[i]?.map (·.1)).getD ⟨[],[],true,af⟩
 obtain⟨t,_⟩:=E fp λj f b=>by simp[fp,b]
 have key:∀l k s s',alj cx nb bf inl ops fp k l s s'->∀j o,l[j]?=aa o->(fp<|k+j).Ov=false->Y0 cx nb o (fp<|k+j):=by
  intro l;induction l with|nil=>intro k s s' _ j o b;cases b|cons o l F =>intro k s s' H j I b;obtain⟨J,T,U,p,W,K⟩:=H;cases j with|zero=>(obtain rfl:=aU b;exact J.1)|succ j=>rw[show k+_=k+1+j by omega];exact F _ p s' K j I (by simpa using b)
 have hA:=aiK (s':=_) ops.toList 0 (Array.replicate ops.size false) _ aW aW (λj b=>ai) (λj _ b=>by simp[b]) (λi o e q=>by rcases xy i ops.size with u|u<;>simp[u] at q) t
 have r:=Wr.mono (Q':=λs=>s.1=bb) (λs L=>by rw[L]) hA;obtain⟨p,O⟩:=h.draw _;refine Te v d g n (λi o q=>by have:=key _ 0 _ _ t i o (by simpa using q);simpa using this) y _ _ _ γ a _ (by simpa using r) p Ak λbM m w' s x f=>A bM m w' s (O.trans x) f
def Y6(b:P.follows .mixedOrders=true)(l:fM P cx)(c:sn P B.G cx)(d:zG P B.G inl){Q id a w}
  (m:∀o∈ops.toList,∀k,o.dst=aa k->k<N) (e:(Bk cx nb bf inl ops σ).run=aa bb) (h:dz B N γ σ a w) (n:∀bM g w',dz B N bM bb g w'->Ext B γ σ.mem w bM bb.mem w'->Fr (number 0 ops.toList) a g->Q .normal g w'):(Code.region id ops true).wp P Q a w:=by
 unfold Bk at e;cases p:ops.any λo=>o.guard.isSome with|true =>(rw[p] at e;obtain⟨i,j⟩:=aD e;exact Ws b l c d i m j h n)|false =>rw[p] at e;exact Wq b l c d m e h n
end
end Go.Ge
namespace Go.Ge
open RowKit
def xB(f:Nat->Box->Bool)(c:Nat->Option Box):Nat->Option Box:=λb=>match c b with|some d=>aa { d with lk:=f b d }|none=>af
section
variable {P:Program} {B:DW} {N:Nat} {γ γ0:Gh} {mem m0 me m1:Nat->Option Box} {w w0:World} {f:Nat->Box->Bool}
def UG{b c}(h:mem b=aa c):xB f mem b=aa { c with lk:=f b c }:=by simp[xB,h]
def Y7{b d}(h:xB f mem b=aa d):∃c,mem b=aa c/\d={ c with lk:=f b c }:=by
 simp only[xB] at h;split at h
 {rename_i c e;exact⟨c,e,(aU h).symm⟩};cases h
def Ext.xB:Ext B γ mem w γ (xB f mem) w where
 below:=yh.refl _ _
 I:=λ_ _ h=>h
 s9:=λ_ _ h=>.inl h
 cells:=λ_ _ _=>rfl
 boxes:=λb d c=>⟨_,UG c,b8 _,λ_=>⟨rfl,rfl,rfl⟩⟩
def bP.xB(h:bP B γ mem w):bP B γ (Go.Ge.xB f mem) w:=by
 have g:∀{b},Go.Ge.xB f mem b≠af->mem b≠none:=by intro b e m;apply e;simp[Go.Ge.xB,m]
 exact
  { dk:=h.dk
    base:=h.base
    boxes:=λb n e=>by obtain⟨i,h0,rfl⟩:=Y7 e;exact(h.boxes b i h0).keep (Ext.xB (B:=B)) rfl (λ_ _ _=>rfl)
    inj:=λb c d k o e p j q=>h.inj b c d k o (g e) (g p) j q
    fresh:=λb d k e j=>h.fresh b d k (g e) j
    xd:=h.xd
    sep:=λb n d k l e j r=>by
     obtain⟨i,h0,rfl⟩:=Y7 e;exact h.sep b i d k l h0 j r }
def dz.xB{σ a}(h:dz B N γ σ a w):dz B N γ { σ with mem:=Go.Ge.xB f σ.mem } a w:=h.go Ext.xB h.ok.xB
def Mid(g h i:Nat->Option Box):Prop:=∀b d,g b=aa d->∃c,i b=aa c/\d.aY<=c.aY /\(c.aY=d.aY->∃e,h b=aa e/\e.aY=d.aY/\e.buf=c.buf/\e.row=c.row)
def oz.down(l:Mid m0 me m1){b aY m K i}(n:oz m0 b aY m)(h:oz me b aY K)(o:∀d c,d.buf=c.buf->d.row=c.row->K d->i c):oz m1 b aY i:=by obtain⟨g,p,x,_⟩:=n;obtain⟨d,q,y,r⟩:=h;obtain⟨c,s,z,t⟩:=l b g p;refine⟨c,s,ai,λe=>?_⟩;obtain⟨j,k,A,u,v⟩:=t ai;rw[q] at k;obtain rfl:=aU k;exact o d c u v (r ai)
def cK.down(d:Mid m0 me m1):∀{v m us vs},cK γ0 m0 w0 v m us->cK γ me w v m vs->cK γ m1 w v m vs:=by intro v;induction v with|undef=>intro m us vs _ r;cases m<;>exact r|data t x=>intro m us vs _ r;cases m<;>exact r|qq=>intro m us vs _ r;cases m<;>exact r|vM=>intro m us vs _ r;cases m<;>exact r|cell t x=>intro m us vs _ r;cases m<;>exact r|nl=>intro m us vs _ r;cases m<;>exact r|vN=>intro m us vs _ r;cases m<;>exact r|zy b aY =>(intro m us vs c r;cases m with|many=>exact r|cells=>exact⟨r.1,c.2.down d r.2 λ_ _ _ _ k=>k⟩|val=>exact⟨r.1,c.2.down d r.2 λ_ _ _ _ k=>k⟩)|ptr b aY p =>(intro m us vs c r;cases m with|many=>exact r|cells=>exact⟨r.1,c.2.down d r.2 λ_ _ _ _ k=>k⟩|val=>exact⟨r.1,c.2.down d r.2 λ_ _ _ _ k=>k⟩)|whole b aY =>(intro m us vs c r;cases m with|many=>exact r|cells=>exact⟨r.1,c.2.down d r.2 λ_ _ l o k=>by rw[<-l,<-o];exact k⟩|val=>exact⟨r.1,c.2.down d r.2 λ_ _ l o k=>by rw[<-l,<-o];exact k⟩)|part b aY lo n =>(intro m us vs c r;cases m with|many=>exact r|cells=>exact⟨r.1,c.2.down d r.2 λ_ _ l o k=>by unfold IL at k⊢;rw[<-l,<-o];exact k⟩|val=>exact⟨r.1,c.2.down d r.2 λ_ _ l o k=>by unfold IL at k⊢;rw[<-l,<-o];exact k⟩)|win b aY q e k lo n =>(intro m us vs c r;cases m with|many=>exact r|cells=>exact⟨r.1,c.2.down d r.2 λ_ _ l o k=>k⟩|val=>exact⟨r.1,c.2.down d r.2 λ_ _ l o k=>k⟩)|fn f H =>(intro m us vs c r;cases m with|many=>exact r|cells=>(obtain⟨_,_,_,s⟩:=c;obtain⟨g,h,j,G⟩:=r;exact⟨g,h,j,λi b aY A=>(s i b aY A).down d (G i b aY A) λ_ _ _ _ k=>k⟩)|val=>obtain⟨_,_,_,s⟩:=c;obtain⟨g,h,j,G⟩:=r;exact⟨g,h,j,λi b aY A=>(s i b aY A).down d (G i b aY A) λ_ _ _ _ k=>k⟩)|mix a b y z =>(intro m us vs c r;cases m with|cells=>(obtain⟨_,_,_,C,D⟩:=c;obtain⟨E,F,c,h,j⟩:=r;exact⟨E,F,c,y C h,z D j⟩)|val=>(obtain⟨_,_,_,C,D⟩:=c;obtain⟨E,F,c,h,j⟩:=r;exact⟨E,F,c,y C h,z D j⟩)|many=>obtain⟨_,_,_,C,D⟩:=c;obtain⟨E,F,c,h,j⟩:=r;exact⟨E,F,c,y C h,z D j⟩)|D0 u I =>intro m us vs c r;cases m with|val=>(obtain⟨_,_,s⟩:=c;obtain⟨g,h,j⟩:=r;exact⟨g,h,I s j⟩)|cells=>exact r|many=>exact r
def aiL(M:Nat->Bool)(V:Nat->Bool->Bool)(e g h:Nat->Option Box):Prop:=∀b c,e b=aa c->∃d Wt,g b=aa d/\h b=aa Wt/\d.buf=c.buf/\Wt.buf=c.buf/\Wt.row=d.row /\Wt.aY=(bif M b&&V b c.buf then c.aY+1 else c.aY)/\((M b&&V b c.buf)=false->d.aY=c.aY)
def aiL.mid{M V}(h:aiL M V m0 me m1):Mid m0 me m1:=λb c l=>by obtain⟨i,d,m,k,n,o,p,g,q⟩:=h b c l;cases j:(M b&&V b c.buf) with|true =>rw[j] at g;simp at g;exact⟨d,k,ai,λe=>absurd e ai⟩|false =>rw[j] at g;simp at g;exact⟨d,k,ai,λe=>⟨i,m,q j,n.trans o.symm,p.symm⟩⟩
def Qq:Sh->cw->Prop|.d _,_=>True|.k v,u=>v=u|.m a b,u=>∃p q,u=.mix p q/\Qq a p/\Qq b q
def alk v:Qq (ak0 v) v:=by induction v with|mix a b c d=>exact⟨a,b,rfl,c,d⟩|data t x=>trivial|_=>rfl
def aiM{t v y}(h:toD t v=aa y){m vs}(b:cK γ me w v m vs):cK γ m1 w (.data t y) m vs:=by
 unfold toD at h;split at h
 .obtain⟨q,c⟩:=Ty.lZ h;subst q;subst c;cases m<;>exact b
 {split at h;{obtain rfl:=aU h;cases m with|many=>exact b|cells=>exact .inl ⟨⟨af,b⟩,rfl⟩|val=>exact⟨[.slice af 0 0],.inl ⟨⟨af,rfl⟩,rfl⟩,b⟩};cases h};cases h
def Y8{M V sN sq}(D:aiL M V sN.mem sq.mem m1)(hV:∀b x,V b false=true->sN.mem b=aa x->x.buf=false){u v}(h:ID V sN sq u v=true){m us vs}(K:cK γ0 sN.mem w0 u m us)(i:cK γ sq.mem w v m vs) :
  cK γ m1 w (bump M V u) m vs:=by
 unfold ID at h;split at h
 .rename_i b c p b' k p';simp only[gC] at h;obtain⟨⟨L,A⟩,g⟩:=h;obtain rfl:=iN L;obtain rfl:=abr A;have still:c=k->(M b&&V b false)=false->cK γ m1 w (bump M V<|.ptr b c p) m vs:=by (intro e q;subst e;have e:bump M V (.ptr b c p)=.ptr b c p:=by simp only[bump,q];rfl);rw[e];exact cK.down D.mid K i
  cases j:V b false with|false =>rw[j] at g;exact still (iN g) (by simp[j])|true =>rw[j] at g;simp at g;split at g;{rename_i x y G C;simp only[gC] at g;have R:=iN g.1;have H:=iN g.2;obtain⟨O,d,E,I,S,T,U,J,W⟩:=D b x G;rw[C] at E;obtain rfl:=aU E;cases r:M b with|false=>exact still (by have:=W (by simp[r]);omega) (by simp[r])|true =>(have e:bump M V (.ptr b c p)=.ptr b (c+1) p:=by simp only[bump,r,j];rfl);(have t:d.aY=c+1:=by rw[J,r,hV b x j G,j];simp;omega);rw[e];cases m with|many=>exact i|cells=>exact⟨i.1,d,I,ai,λ_=>bC C H i.2⟩|val=>exact⟨i.1,d,I,ai,λ_=>bC C H i.2⟩};cases g
 .rename_i b c b' k;simp only[gC] at h;obtain⟨L,g⟩:=h;obtain rfl:=iN L;split at g
  .rename_i x y G C;simp only[gC] at g;obtain⟨⟨A,R⟩,H⟩:=g;have A:=iN A;obtain⟨O,d,E,I,S,T,U,J,W⟩:=D b x G;rw[C] at E;obtain rfl:=aU E;have z:x.buf=true:=by rw[<-S];exact H
   have key:∀s,d.aY=s->((∃v,vs=[v]/\v.oneCell'=true)/\oz sq.mem b k λF=>∃e n,F.buf=true/\F.row=aa (e,n) /\
     ((γ.loc b=af/\vs=[.slice af 0 0])\/∃l o,γ.loc b=aa (l,o)/\vs=[.slice (aa ⟨l,0,af⟩) n o])) ->
     ((∃v,vs=[v]/\v.oneCell'=true)/\oz m1 b s λF=>∃e n,F.buf=true/\F.row=aa (e,n) /\
     ((γ.loc b=af/\vs=[.slice af 0 0])\/∃l o,γ.loc b=aa (l,o)/\vs=[.slice (aa ⟨l,0,af⟩) n o])):=by
    intro s t X;exact⟨X.1,d,I,ai,λ_=>by obtain⟨e,n,q1,q2,q3⟩:=(bC C (iN R) X.2);exact⟨e,n,T.trans z,U.trans q2,q3⟩⟩
   have t:∃s,bump M V (.whole b c)=.whole b s/\d.aY=s:=by
    unfold bump;cases r:(M b&&V b true) with
    | true=>exact⟨c+1,by simp[r],by rw[J,z,r,<-A];rfl⟩
    | false=>exact⟨c,by simp[r],by rw[J,z,r,<-A];rfl⟩
   obtain⟨s,e1,Y⟩:=t;rw[e1];cases m with
   | many=>exact i
   | cells=>exact key s Y i
   | val=>exact key s Y i
  .cases g
 .rename_i f Z f' Q;simp only[gC] at h;obtain rfl:=iN h.1;obtain rfl:=abt h.2;exact cK.down D.mid K i
 .cases m<;>exact i
 .cases m<;>exact i
 .simp only[gC] at h;obtain rfl:=iN h.1;obtain rfl:=iN h.2;exact cK.down D.mid K i
 .cases h
def apd{V sN σ u v}:Sh.out V sN σ (.k u) v=bif ID V sN σ u v then aa () else none:=rfl
def ape{V sN σ a b v w}:Sh.out V sN σ (.m a b) (.mix v w)=(match Sh.out V sN σ a v,Sh.out V sN σ b w with|some x,aa y=>aa ((x,y):(Sh.m a b).ty.den)|_,_=>af):=rfl
def aea{M V sN sq}(I:aiL M V sN.mem sq.mem m1)(J:∀b x,V b false=true->sN.mem b=aa x->x.buf=false):∀{s u v y m us vs},Qq s u->Sh.out V sN sq s v=aa y ->
  cK γ0 sN.mem w0 u m us->cK γ sq.mem w v m vs->cK γ m1 w (s.sj M V y) m vs:=by
 intro s;induction s with|d t=>intro u v y m us vs _ c _ e;exact aiM c e|k x =>(intro u v y m us vs C c i e;obtain rfl:=C;rw[apd] at c;cases H:ID V sN sq x v with|false=>rw[H] at c;cases c|true=>exact Y8 I J H i e)|m a b g h =>intro u v y m us vs C c i e;obtain⟨p,q,rfl,D,E⟩:=C;cases v with|mix K L =>rw[ape] at c;split at c;{rename_i O Q F G;obtain rfl:=aU c;cases m with|cells=>(obtain⟨_,_,_,j,l⟩:=i;obtain⟨n,o,r,z,A⟩:=e;exact⟨n,o,r,g D F j z,h E G l A⟩)|val=>(obtain⟨_,_,_,j,l⟩:=i;obtain⟨n,o,r,z,A⟩:=e;exact⟨n,o,r,g D F j z,h E G l A⟩)|many=>obtain⟨_,_,_,j,l⟩:=i;obtain⟨n,o,r,z,A⟩:=e;exact⟨n,o,r,g D F j z,h E G l A⟩};cases c|_=>cases c
def afA{t v y}(h:toD t v=aa y):(v=.data t y)\/(v=.qq/\∃e,t=.slice e):=by
 unfold toD at h;split at h
 .obtain⟨q,b⟩:=Ty.lZ h;subst q;subst b;exact .inl rfl
 {split at h;{exact .inr ⟨rfl,_,rfl⟩};cases h};cases h
def aeb{M V sN sq s}{c Wt:Box}{y}(j:Sh.out V sN sq s c.val=aa y)(E:Wt.val=s.sj M V y)(F:Wt.buf=c.buf)(i:c.buf=true->∃e l,c.val=.data (.slice e) l) :
  Wt.row=c.row/\(c.buf=true->Wt.val=c.val):=by
 have n:∀t x,c.val=.data t x->Wt.val=c.val:=by intro t x g;rw[g] at j;cases s with|d u =>(obtain⟨q,o⟩:=Ty.lZ j;subst q;subst o;rw[E,g];rfl)|k z=>cases z<;>cases j|m a b=>cases j
 have r:∀{b1 A:Box},b1.buf=A.buf->b1.val=A.val->b1.row=A.row:=by intro b1 A G H;unfold Box.row;rw[G,H]
 cases g:c.val with|data t x =>have:=n t x g;exact⟨r F this,λ_=>by rw[this,g]⟩|_ =>refine⟨?_,λh=>by obtain⟨e,l,q⟩:=i h;rw[g] at q;cases q⟩;cases o:c.buf with|true=>(obtain⟨e,l,q⟩:=i o;rw[g] at q;cases q)|false =>(have I:c.row=none:=by unfold Box.row;rw[o,g]);rw[I];unfold Box.row;rw[F,o,E];rw[g] at j;cases s with|d u =>(rcases afA j with q|⟨q,e,rfl⟩;{first|cases q|exact absurd g (by cases k)};rfl)|k z =>((simp only[Sh.sj];have C:∀t x,bump M V z≠.data t x:=by intro t x q;cases z with|data K L=>cases j|whole b v=>simp only[bump] at q;cases D:(M b&&V b true)<;>rw[D] at q<;>cases q|ptr b v p=>simp only[bump] at q;cases D:(M b&&V b false)<;>rw[D] at q<;>cases q|_=>cases q);split<;>first|rfl|(rename_i J;exact absurd J (C _ _)))|m a b=>rfl
end
end Go.Ge
namespace Go.Ge
open RowKit
section
variable {P:Program} {B:DW} {N:Nat} {γ γ0:Gh} {w w0:World} {sN sq:St} {a a0:Act} {M:Nat->Bool} {V:Nat->Bool->Bool}
def aiN:∀{l x},ak1 V sN sq l=aa x->∀t,(VQ M V l x t=af/\∀s,(t,s)∉l)\/∃s y,(t,s)∈l/\Sh.out V sN sq s (sq.bw t)=aa y/\VQ M V l x t=aa (s.sj M V y):=by intro l;induction l with|nil=>intro x _ t;exact .inl ⟨rfl,λs h=>by cases h⟩|cons p r j =>obtain⟨i,s⟩:=p;intro x h t;simp only[ak1] at h;split at h;{rename_i y z k m;obtain rfl:=aU h;by_cases e:t=i;{subst e;refine .inr ⟨s,y,pg ..,k,?_⟩;show(bif Nat.beq t t then aa _ else VQ M V r z t)=_;simp};(have n:=kn e;have o:VQ M V ((i,s)::r) ((y,z):(tyS ((i,s)::r)).den) t=VQ M V r z t:=by show(bif Nat.beq t i then aa _ else VQ M V r z t)=_;rw[n];rfl);rw[o];rcases j m t with ⟨c,d⟩|⟨g,q,c,d,u⟩;{refine .inl ⟨c,λg b=>?_⟩;rcases eK.1 b with b|b;{exact e (b9 b).1};exact d g b};exact .inr ⟨g,q,wG _ c,d,u⟩};cases h
def HJ{fz g d b}(h:Md fz g d b=true):(d.ro=true->(b.ro||fz)=true)/\d.buf=b.buf/\(g=false->d.aY=b.aY):=by
 simp only[Md,gC,Iw,beq_iff_eq] at h;obtain⟨⟨⟨e,l⟩,i⟩,c⟩:=h;refine⟨λj=>by rcases e with e|e<;>simp[e,<-j],i,λk=>?_⟩;rcases c with c|c
 {rw[k] at c;cases c};exact iN c
def afB{fz d c b}(h:Md fz d c b=true):c.tid=b.tid:=by simp only[Md,gC] at h;exact iN h.1.1.2
def Y9{fz}:∀{l x},ak2 V fz sN sq l=aa x->∀t,(PA fz M V l x t=af/\Gs l t=false) \/
  ∃s b y d,Gs l t=true/\(t,s,b)∈l/\sq.mem t=aa d/\Md fz (V t b.buf) d b=true/\Sh.out V sN sq s d.val=aa y/\PA fz M V l x t=aa { b with val:=s.sj M V y,ro:=b.ro||fz,aY:=bif V t b.buf then b.aY+1 else b.aY }:=by
 intro l;induction l with|nil=>intro x _ t;exact .inl ⟨rfl,rfl⟩|cons p r o =>obtain⟨i,s,b⟩:=p;intro x h t;simp only[ak2] at h;split at h;{rename_i d g;cases c:Md fz _ d b with|false=>rw[c] at h;cases h|true =>rw[c] at h;split at h;{rename_i y z q u;obtain rfl:=aU h;by_cases e:t=i;{subst e;refine .inr ⟨s,b,y,d,by simp[Gs],pg ..,g,c,q,?_⟩;show(bif Nat.beq t t then aa { b with val:=s.sj M V y,ro:=b.ro||fz,aY:=bif V t b.buf then b.aY+1 else b.aY } else PA fz M V r z t)=_;simp};(have n:=kn e;have v:PA fz M V ((i,s,b)::r) ((y,z):(tyM ((i,s,b)::r)).den) t=PA fz M V r z t:=by show(bif Nat.beq t i then aa { b with val:=s.sj M V y,ro:=b.ro||fz,aY:=bif V t b.buf then b.aY+1 else b.aY } else PA fz M V r z t)=_;rw[n];rfl);(have j:Gs ((i,s,b)::r) t=Gs r t:=by simp only[Gs,n,ahY]);rw[v,j];rcases o u t with k|⟨A,C,D,m,E,F,G⟩;{exact .inl k};exact .inr ⟨A,C,D,m,E,wG _ F,G⟩};cases h};cases h
structure FN (k:Carry) (sN:St):Prop where
 S:∀t s,(t,s)∈k.S->Qq s (sN.bw t)
 M:∀b s bx,(b,s,bx)∈k.M->sN.mem b=aa bx/\Qq s bx.val/\bx.lk=false
 V:∀b x,k.V b false=true->sN.mem b=aa x->x.buf=false
def anH{cx σ}:∀{p l},mkS cx σ p=aa l->∀t s,(t,s)∈l->Qq s (σ.bw t):=by
 intro p;induction p with
 | nil=>intro l h t s c;obtain rfl:=aU h;cases c
 | cons q r n =>
   obtain⟨i,o⟩:=q;intro l h t s c;simp only[mkS] at h;split at h;{cases h}
   (rename_i u g;have fin:∀m,Qq m (σ.bw i)->aa ((i,m)::u)=aa l->Qq s (σ.bw t):=by intro m x e;obtain rfl:=aU e;rcases eK.1 c with c|c;{obtain⟨rfl,rfl⟩:=b9 c;exact x};exact n g t s c);cases j:Nat.beq o 999999 with|true =>(rw[j] at h;split at h;{rename_i b v y;exact fin (.k _) y.symm h};obtain rfl:=aU h;exact n g t s c)|false=>
   rw[j] at h;simp at h;split at h;{exact fin (.d _) trivial h};{split at h;{exact fin (.d _) trivial h};cases h};{split at h;{exact fin (.d _) trivial h};cases h};exact fin (.k _) rfl h
def aiO{σ}:∀{p l},mkM σ p=aa l->∀b s d,(b,s,d)∈l->σ.mem b=aa d/\Qq s d.val/\d.lk=false:=by intro p;induction p with|nil=>(intro l h b s d c;obtain rfl:=aU h;cases c)|cons i r k =>intro l h b s d c;simp only[mkM] at h;split at h;{rename_i g t m j;cases e:g.lk with|true=>rw[e] at h;cases h|false =>rw[e] at h;obtain rfl:=aU h;rcases eK.1 c with c|c;{injection c with n c;injection c with o q;subst n;subst o;subst q;exact⟨m,alk _,e⟩};exact k j b s d c};cases h
def Cn{cx nb bf σ p k}(h:Oy cx nb bf σ p=aa k):FN k σ:=by
 unfold Oy at h;split at h
 {rename_i s m d e;obtain rfl:=aU h;refine⟨anH d,aiO e,λb x c g=>?_⟩;simp only[zw,aoV,g,gC,Hr] at c;exact c.2.1};cases h
def alm{l b}(h:Gs l b=true):∃s c,(b,s,c)∈l:=by induction l with|nil=>cases h|cons p r e =>obtain⟨i,s,c⟩:=p;simp only[Gs,Iw] at h;rcases h with h|h;{obtain rfl:=iN h;exact⟨s,c,pg ..⟩};obtain⟨g,d,j⟩:=e h;exact⟨g,d,wG _ j⟩
def vT{k fz lock wr x}(hk:FN k sN)(h0:dz B N γ0 sN a0 w0)(G:dz B N γ sq a w)(hx:Ext B γ0 sN.mem w0 γ sq.mem w)
  (hf:∀t,du wr t=false->a.tmps[t]?=a0.tmps[t]?) (C:∀b g,sN.mem b=aa g->Gs k.M b=false->∃bl,sq.mem b=aa { g with lk:=bl }) (ho:k.out fz sN sq=aa x) : dz B N γ (k.sj fz lock wr sN x) a w/\Ext B γ0 sN.mem w0 γ (k.sj fz lock wr sN x).mem w:=by
 unfold Carry.out at ho;split at ho
 case h_2=>cases ho
 rename_i xs xm hxs hxm;obtain rfl:=aU ho;generalize Q:k.sj fz lock wr sN (xs,xm)=b4;have U:∀t,b4.bw t=match VQ _ k.V k.S xs t with|some v=>v|none=>bif du wr t then .undef else sN.bw t:=λt=>by rw[<-Q];rfl
 have R:∀b,b4.mem b=match PA fz _ k.V k.M xm b with|some g=>aa g|none=>match sN.mem b with|some g=>aa { g with lk:=g.lk||lock }|none=>none:=λb=>by rw[<-Q];rfl
 have D:∀b,Gs k.M b=false->b4.mem b=match sN.mem b with|some g=>aa { g with lk:=g.lk||lock }|none=>none:=by
  intro b i;rw[R b];rcases Y9 hxm b with ⟨q,_⟩|⟨s,b',y,g,q,_⟩
  .rw[q]
  .rw[i] at q;cases q
 have here:∀b,Gs k.M b=true->∃s m y g,sN.mem b=aa m/\Qq s m.val/\sq.mem b=aa g/\Md fz (k.V b m.buf) g m=true/\Sh.out k.V sN sq s g.val=aa y /\
   b4.mem b=aa { m with val:=s.sj (Gs k.M) k.V y,ro:=m.ro||fz,aY:=bif k.V b m.buf then m.aY+1 else m.aY }:=by
  intro b i;rcases Y9 hxm b with ⟨_,q⟩|⟨s,m,y,g,q,q1,q2,q3,q4,q5⟩
  .rw[i] at q;cases q
  .obtain⟨W,k2,_⟩:=hk.M b s m q1;exact⟨s,m,y,g,W,k2,q2,q3,q4,by rw[R b,q5]⟩
 have E:∀b g,sq.mem b=aa g->g.buf=true->∃e l,g.val=.data (.slice e) l:=by
  intro b g i J;have:=G.ok.boxes b g i;rw[e7,J] at this;obtain⟨e,l,q,_⟩:=this;exact⟨e,l,q⟩
 have hC:aiL (Gs k.M) k.V sN.mem sq.mem b4.mem:=by
  intro b d i;cases j:Gs k.M b with
  | false =>
    obtain⟨bl,F⟩:=C b d i j;have u:=D b j;rw[i] at u;exact⟨_,_,F,u,rfl,rfl,rfl,aW,λ_=>rfl⟩
  | true =>
    obtain⟨s,m,y,g,X,g2,T,g4,g5,Y⟩:=here b j;rw[i] at X;obtain rfl:=aU X;obtain⟨o1,Z,o3⟩:=HJ g4;obtain⟨r1,r2⟩:=aeb (M:=Gs k.M) (V:=k.V) (Wt:={ d with val:=s.sj _ k.V y,ro:=d.ro||fz,aY:=bif k.V b d.buf then d.aY+1 else d.aY }) g5 rfl Z.symm (E b g T);refine⟨g,_,T,Y,Z,rfl,r1,aW,λH=>o3 ?_⟩;simpa using H
 have hE:Ext B γ0 sN.mem w0 γ b4.mem w :=
  { below:=hx.below
    I:=hx.I
    s9:=hx.s9
    cells:=hx.cells
    boxes:=λb d i=>by
     obtain⟨O,Wt,c1,c2,c3,c4,c5,c6,c7⟩:=hC b d i;obtain⟨atv,e1,e2,e3⟩:=hx.boxes b d i;rw[c1] at e1;obtain rfl:=aU e1;cases H:(Gs k.M b&&k.V b d.buf) with
     | true =>
       rw[H] at c6;simp at c6;exact⟨Wt,c2,ai,λe=>absurd e ai⟩
     | false =>
       rw[H] at c6;simp at c6;obtain⟨r1,r2,r3⟩:=e3 (c7 H);exact⟨Wt,c2,ai,λ_=>⟨r1,c4,c5.trans r3⟩⟩ }
 refine⟨⟨λt=>?_,G.size,G.defers,?_⟩,hE⟩
 .rw[U t];rcases aiN hxs t with ⟨q,_⟩|⟨s,y,q1,q2,q3⟩
  .rw[q];cases hw:du wr t with
   | true=>exact⟨_,rfl⟩
   | false =>
     have:a.tmps.getD t undef=a0.tmps.getD t undef:=by simp only[abo,hf t hw]
     rw[this];exact(h0.bw t).ext hE
  .rw[q3];exact aea hC hk.V (hk.S t s q1) q2 (h0.bw t) (G.bw t)
 .have hne:∀b,b4.mem b≠af->∃d,sN.mem b=aa d:=by
   intro b i;cases j:Gs k.M b with
   | true=>obtain⟨s,m,y,g,X,_⟩:=here b j;exact⟨m,X⟩
   | false =>
     rw[D b j] at i;cases H:sN.mem b with
     | none=>rw[H] at i;exact absurd rfl i
     | some d=>exact⟨d,rfl⟩
  have K:∀b,b4.mem b≠af->sq.mem b≠none:=by
   intro b i;obtain⟨d,u⟩:=hne b i;obtain⟨O,Wt,c1,_⟩:=hC b d u;rw[c1];simp
  exact
   { dk:=G.ok.dk
     base:=G.ok.base
     boxes:=λb Wt i=>by
      cases j:Gs k.M b with
      | true =>
        obtain⟨s,m,y,g,X,g2,T,g4,g5,Y⟩:=here b j;rw[i] at Y;obtain rfl:=aU Y;obtain⟨o1,Z,o3⟩:=HJ g4;have o4:=afB g4;obtain⟨r1,r2⟩:=aeb (Wt:={ m with val:=s.sj _ k.V y,ro:=m.ro||fz,aY:=bif k.V b m.buf then m.aY+1 else m.aY }) g5 rfl Z.symm (E b g T);have o:=G.ok.boxes b g T;have p:=h0.ok.boxes b m X;unfold e7 at o p⊢;rcases amY g.buf with r|r
        .rw[r] at o;rw[<-Z,r,r2 r,<-o4];exact o
        .rw[r] at o;rw[<-Z,r];rw[<-Z,r] at p;obtain⟨_,_,_,_,_,_,_,_,_,z⟩:=p;obtain⟨A,cap,cur,tid,fr,z1,z2,z3,L,z4⟩:=o;exact⟨A,cap,cur,tid,fr,z1,z2,z3,o4▸L,aea hC hk.V g2 g5 z z4⟩
      | false =>
        have u:=D b j;rw[i] at u;cases H:sN.mem b with
        | none=>rw[H] at u;cases u
        | some d =>
          rw[H] at u;obtain rfl:=aU u;obtain⟨bl,F⟩:=C b d H j;have o:=G.ok.boxes b _ F;have p:=h0.ok.boxes b d H;unfold e7 at o p⊢;rcases amY d.buf with r|r
          .rw[r] at o⊢;exact o
          .rw[r] at o p⊢;obtain⟨_,_,_,_,_,_,_,_,_,z⟩:=p;obtain⟨A,cap,cur,tid,fr,z1,z2,z3,L,z4⟩:=o;exact⟨A,cap,cur,tid,fr,z1,z2,z3,L,cK.down hC.mid z z4⟩
     inj:=λb c A W k2 i hc u h2=>G.ok.inj b c A W k2 (K b i) (K c hc) u h2
     fresh:=λb A W i u=>G.ok.fresh b A W (K b i) u
     xd:=G.ok.xd
     sep:=λb Wt A W off i u hi=>by
      obtain⟨d,q0⟩:=hne b (by rw[i];simp);obtain⟨O,atw,c1,c2,c3,c4,c5,c6,c7⟩:=hC b d q0;rw[i] at c2;obtain rfl:=aU c2;obtain⟨s1,s2⟩:=G.ok.sep b O A W off c1 u hi;have hro:O.ro=true->Wt.ro=true:=by
       cases j:Gs k.M b with
       | true =>
         obtain⟨s,m,y,g,X,g2,T,g4,g5,Y⟩:=here b j;rw[c1] at T;obtain rfl:=aU T;rw[i] at Y;obtain rfl:=aU Y;exact(HJ g4).1
       | false =>
         have u:=D b j;rw[i,q0] at u;obtain rfl:=aU u;obtain⟨bl,F⟩:=C b d q0 j;rw[c1] at F;obtain rfl:=aU F;exact λh=>h
      exact⟨hro s1,λJ e n hr=>s2 (by rw[c3,<-c4];exact J) e n (by rw[<-c5];exact hr)⟩ }
end
end Go.Ge
namespace Go.Ge
variable [Lp]
open RowKit
def Ji{p:Nat->Prop}(h:∃n,p n):∃n,p n/\∀m,p m->n<=m:=by obtain⟨n,c⟩:=h;induction n using Nat.strongRecOn with|_ n d =>by_cases h:∃m,m<n/\p m;{obtain⟨m,e,g⟩:=h;exact d m e g};exact⟨n,c,λm i=>Nat.le_of_not_lt λb=>h ⟨m,b,i⟩⟩
open Classical in
noncomputable def least(p:Nat->Prop):Nat:=if h:∃n,p n then Classical.choose (Ji h) else 0
def Qr{p}(h:∃n,p n):p (least p)/\∀m,p m->least p<=m:=by unfold least;rw[dif_pos h];exact adI (Ji h)
def KV{P c Q a w}(I:Nat->Act->World->Prop){n}(j:I n a w)
  (b:∀n a w,I n a w->c.wp P (Exit.then (λg w'=>∃m,m<n/\I m g w') Q) a w):(Code.loop c).wp P Q a w:=by
 refine wp_loop (λa w=>∃n,I n a w) (λa w=>least λn=>I n a w) ⟨n,j⟩ λa w h=>?_;obtain⟨k,l⟩:=Qr h;refine wp_mono (b _ a w k) λe g w' i=>?_;cases e with|normal =>(obtain⟨m,m1,d⟩:=i;exact⟨⟨m,d⟩,Nat.lt_of_le_of_lt ((Qr ⟨m,d⟩).2 m d) m1⟩)|_=>exact i
def Qs:Nat->Exit|0=>.normal|1=>.ret|i+2=>.exit i
def Ms{l m t}:du (l++m) t=(du l t||du m t):=by induction l with|nil=>rfl|cons i r b=>simp only[Na,du,b,adY]
def Jj(b:List Nat)(a c:Act):Prop:=∀t,du b t=false->c.tmps[t]?=a.tmps[t]?
def Jj.refl ws a:Jj ws a a:=λ_ _=>rfl
def Jj.trans{ws a b c}(h:Jj ws a b)(k:Jj ws b c):Jj ws a c:=λt d=>(k t d).trans (h t d)
def Jj.left{ws vs a b}(h:Jj ws a b):Jj (ws++vs) a b:=λt c=>h t (by rw[Ms,Pc] at c;exact c.1)
def Jj.right{ws vs a b}(h:Jj vs a b):Jj (ws++vs) a b:=λt c=>h t (by rw[Ms,Pc] at c;exact c.2)
def Za{t}:∀{l k},du (s6 l) t=false->ph t (number k l)=false:=by intro l;induction l with|nil=>intro k _;rfl|cons o l b =>intro k h;simp only[number,ph];cases hd:o.dst with|none=>simp only[s6,hd] at h;rw[b h];rfl|some d =>simp only[s6,hd,du,Pc] at h;rw[b h.2];simp;exact kn λe=>by subst e;simp at h
def Wu{l:List Oper}{o}(h:o∈l){k:Nat}(c:o.dst=aa k):k∈s6 l:=by induction l with|nil=>cases h|cons p l b =>rcases eK.1 h with h|h;{subst h;simp only[s6,c];exact pg ..};simp only[s6];split;{exact wG _ (b h)};exact b h
def UH{α}{f:Nat->Tree α}:∀{es e i},Ng es e=aa i->(IG es i f).run=(f e).run:=by intro es;induction es with|nil=>intro e i h;cases h|cons k r l =>(intro e i h;simp only[Ng] at h;have one:∀{b},(bif b then aa 0 else(Ng r e).map (·+1))=aa i->(b=true/\i=0)\/(b=false/\∃j,Ng r e=aa j/\i=j+1):=by intro b g;cases b with|true=>exact .inl ⟨rfl,(aU g).symm⟩|false =>obtain⟨j,c,d⟩:=Ho.1 g;exact .inr ⟨rfl,j,c,d.symm⟩);rcases one h with ⟨c,rfl⟩|⟨c,j,d,rfl⟩;{obtain rfl:=iN c;cases r with|nil=>rfl|cons m s=>rfl};cases r with|nil=>cases d|cons m s=>exact l d
section
variable {P:Program} {B:DW} {N:Nat} {cx:Ctx} {nb:Nat} {bf:List Nat} {inl:Nat->List cw->St->Tree (cw×St)}
def ab9(c:∀f d σ v bb,(inl f d σ).run=aa (v,bb)->b5 σ bb):∀l k b σ bb,(Py cx nb bf inl (number k l) b σ).run=aa bb->b5 σ bb:=by intro l;induction l with|nil=>(intro k b σ bb h;obtain rfl:=aU h;apply b5.refl)|cons o l e =>intro k b σ bb h;simp only[number,Py] at h;split at h;{cases h};obtain⟨m,g⟩:=aD h;obtain⟨b4,i,j⟩:=bind_some g;exact(Ep c b4<|FL (OC o σ) i).trans (e _ _ _ _ j)
def afC{fz M V}:∀{l x t},Gs l t=false->PA fz M V l x t=none:=by intro l;induction l with|nil=>intro x t _;rfl|cons p r b =>intro x t h;simp only[Gs,Pc] at h;simp only[PA,h.1];exact b h.2
def Zb{k:Carry}{fz lock wr σ x b c}(d:σ.mem b=aa c)(h:Gs k.M b=false):(k.sj fz lock wr σ x).mem b=aa { c with lk:=c.lk||lock }:=by simp only[Carry.sj];rw[afC h,d]
def Eu{k fz lock wr σ x}(h:FN k σ):b5 σ (k.sj fz lock wr σ x):=by
 intro b i c d;have:Gs k.M b=false:=by cases j:Gs k.M b with|false=>rfl|true =>obtain⟨s,l,m⟩:=alm j;obtain⟨e,_,g⟩:=h.M b s l m;rw[c] at e;obtain rfl:=aU e;rw[d] at g;cases g
 rw[Zb c this];cases i;subst d;rfl
def Mt{α}{Q:α->Prop}{f}(b:∀e y,(f e).run=aa y->Q y):∀{es i y},(IG es i f).run=aa y->Q y:=by intro es;induction es with|nil=>intro i y h;cases h|cons k r d =>intro i y h;cases r with|nil=>exact b k y h|cons m s =>have:=gH h;cases c:cF i 0 with|true=>rw[c] at this;exact b k y this|false=>rw[c] at this;exact d this
def Qt:∀{l σ bb},IF l σ=aa bb->b5 σ bb:=by intro l;induction l with|nil=>(intro σ bb h;obtain rfl:=aU h;apply b5.refl)|cons m r b =>intro σ bb h;unfold IF at h;cases c:Nat.ble 2000000 m with|false=>rw[c] at h;exact b h|true =>rw[c] at h;split at h;{split at h;{split at h;{split at h;{rename_i d;exact(so d).trans ((b5.put _ _ _).trans<|b h)};cases h};cases h};cases h};exact b h
def Mu{B N a w}:∀{l σ bb γ},IF l σ=aa bb->dz B N γ σ a w->∃bM,dz B N bM bb a w/\Ext B γ σ.mem w bM bb.mem w:=by intro l;induction l with|nil=>(intro σ bb γ h b;obtain rfl:=aU h;exact⟨γ,b,Ext.refl _ _ _ _⟩)|cons m r d =>intro σ bb γ h b;unfold IF at h;cases i:Nat.ble 2000000 m with|false=>rw[i] at h;exact d h b|true =>rw[i] at h;generalize m-2000000=k at h;split at h;{split at h;{split at h;{split at h;{(rename_i x b4 j;obtain⟨e,c,n,o⟩:=oD b (b.bw k) j;have p:dz B N e (b4.put k _) a w:=⟨λt=>by unfold St.put;dsimp only;cases q:Nat.beq t k with|false=>exact c.bw t|true =>obtain rfl:=iN q;exact o,c.size,c.defers,c.ok⟩);obtain⟨g,s,u⟩:=d h p;exact⟨g,s,n.trans u⟩};cases h};cases h};cases h};exact d h b
def aca{f}(e:∀σ r,(f σ).run=aa r->b5 σ r.2):∀n σ r,(again f n σ).run=aa r->b5 σ r.2:=by intro n;induction n with|zero=>intro σ r h;cases h|succ n g =>intro σ r h;obtain⟨i,j,b⟩:=bind_some h;have c:=e _ _ j;cases d:Nat.beq i.1 0 with|true=>rw[d] at b;exact c.trans (g _ _ b)|false=>rw[d] at b;obtain rfl:=aU b;exact c
def Zc{f}(g:∀σ r,(f σ).run=aa r->b5 σ r.2){c}:∀n j σ r,(KG f c n j σ).run=aa r->b5 σ r.2:=by intro n;induction n with|zero=>intro j σ r h;cases h|succ n i =>intro j σ r h;unfold KG at h;split at h;{have h:=cL h;obtain⟨k,l,b⟩:=bind_some h.2;have d:=(b5.put σ c _).trans (g _ _ l);cases e:Nat.beq k.1 0 with|true=>rw[e] at b;exact d.trans (i _ _ _ b)|false=>rw[e] at b;obtain rfl:=aU b;exact d};cases h
def yB(g:∀f z σ v bb,(inl f z σ).run=aa (v,bb)->b5 σ bb):∀c j σ r,(kE cx nb bf inl c j σ).run=aa r->b5 σ r.2:=by intro c;induction c with|skip=>(intro j σ r h;obtain rfl:=aU h;exact b5.refl _)|label l=>(intro j σ r h;obtain rfl:=aU h;exact b5.refl _)|ret=>(intro j σ r h;obtain rfl:=aU h;exact b5.refl _)|exit i=>(intro j σ r h;obtain rfl:=aU h;apply b5.refl)|region id ops I =>(intro j σ r h;obtain⟨b4,q,d⟩:=bind_some h;obtain rfl:=aU d;cases I with|true =>(have m:(Bk cx nb bf inl ops σ).run=aa b4:=q;unfold Bk at m;cases F:ops.any λo=>o.guard.isSome with|true =>(rw[F] at m;obtain⟨J,K⟩:=aD m;exact ab4 g _ _ _ _ _ _ K)|false =>rw[F] at m;exact ab9 g _ _ _ _ _ m)|false=>exact Je g _ _ _ _ q)|seq a b s t =>(intro j σ r h;obtain⟨A,q,d⟩:=bind_some h;have G:=s _ _ _ q;cases H:Nat.beq A.1 0 with|true=>rw[H] at d;exact G.trans (t _ _ _ d)|false=>rw[H] at d;obtain rfl:=aU d;exact G)|block i a u =>(intro j σ r h;obtain⟨A,q,d⟩:=bind_some h;obtain rfl:=aU d;exact u _ _ A q)|scope a u=>intro j σ r h;exact u _ _ _ h|cond c a b s t =>intro j σ r h;unfold kE at h;split at h;{rename_i L O R;have:=gH h;cases L with|false=>exact t _ _ _ this|true=>exact s _ _ _ this};{split at h;{cases h};rename_i σ n;refine(Qt n).trans ?_;split at h;{cases h};rename_i k C;have p:=Cn C;dsimp only at h;split at h;{rw[Tree.D9] at h;obtain⟨x,q,d⟩:=Gl.1 h;obtain rfl:=aU d;exact Eu p};rw[Tree.D9] at h;obtain⟨x,q,d⟩:=Gl.1 h;exact Mt (Q:=λr:Nat×St=>b5 σ r.2) (λe y D=>by obtain rfl:=aU D;exact Eu p) d};cases h|loop a u =>intro j σ r h;unfold kE at h;split at h;{split at h;{exact Zc (λσ r E=>u _ _ _ E) _ _ _ _ h};split at h;{cases h};rename_i σ n;refine(Qt n).trans ?_;split at h;{cases h};rename_i k C;have p:=Cn C;dsimp only at h;split at h;{cases h};split at h;{obtain⟨x,q,d⟩:=ck h;obtain rfl:=aU d;exact Eu p};obtain⟨x,q,d⟩:=ck h;exact Mt (Q:=λr=>b5 σ r.2) (λe y D=>by obtain rfl:=aU D;exact Eu p) d};{exact aca (λσ r E=>u _ _ _ E) _ _ _ h};cases h|_=>intro j σ r h;cases h
end
end Go.Ge
namespace Go.Ge
variable [Lp]
open RowKit
section
variable {P:Program} {B:DW} {N:Nat} {cx:Ctx} {nb:Nat} {bf:List Nat} {inl:Nat->List cw->St->Tree (cw×St)}
def Jk(k:Carry) σ:(k.lock σ).mem=xB (λb c=>bif Gs k.M b then c.lk else true) σ.mem:=by funext b;simp only[Carry.lock,xB];cases σ.mem b with|none=>rfl|some c=>cases Gs k.M b<;>rfl
def aln(k:Carry) σ:k.lock σ={ σ with mem:=xB (λb c=>bif Gs k.M b then c.lk else true) σ.mem }:=by have:=Jk k σ;unfold Carry.lock at this⊢;dsimp only at this⊢;rw[this]
def KW{T β}{t:Tree T}{k:T->Tree β}{y}(h:(t.join k).run=aa y):∃x,t.run=aa x/\(k x).run=aa y:=by rw[Tree.D9] at h;exact Gl.1 h
def Qu{α}{o:Option α}{y}(h:(Tree.ah4 o).run=aa y):o=aa y:=by cases o with|none=>cases h|some x=>exact h
def aiQ{e0 e i}(h:Ng [e0] e=aa i):e=e0:=by simp only[Ng] at h;cases b:Nat.beq e0 e with|true=>exact(iN b).symm|false=>rw[b] at h;cases h
def dz.aec{γ σ a w}(h:dz B N γ σ a w){i v}(b:cK γ σ.mem w v .val [a.tmps.getD i Go.undef]):dz B N γ (σ.put i v) a w where
 bw:=λt=>by
  show cK γ σ.mem w (bif Nat.beq t i then v else σ.bw t) .val _
  cases c:Nat.beq t i with|true=>(obtain rfl:=iN c;exact b)|false=>exact h.bw t
 size:=h.size
 defers:=h.defers
 ok:=h.ok
def Wv{a w}:∀{l σ bb γ},settle l σ=aa bb->dz B N γ σ a w->∃bM,dz B N bM bb a w/\Ext B γ σ.mem w bM bb.mem w/\b5 σ bb:=by intro l;induction l with|nil=>(intro σ bb γ h c;obtain rfl:=aU h;exact⟨γ,c,Ext.refl _ _ _ _,b5.refl _⟩)|cons p r e =>obtain⟨i,s⟩:=p;intro σ bb γ h c;cases s with|d t =>simp only[settle] at h;split at h;{rename_i x b4 j;obtain⟨n,o,q,u⟩:=oD c (c.bw i) j;obtain⟨g,y,z,A⟩:=e h (o.aec u);exact⟨g,y,q.trans z,(so j).trans A⟩};cases h|k v=>exact e h c|m a b=>exact e h c
def Jl{k fz wr x sN sq γ0 γ a a0 w w0}(j:FN k sN)(l:dz B N γ0 sN a0 w0)(m:dz B N γ sq a w)(n:Ext B γ0 sN.mem w0 γ sq.mem w)
  (o:∀t,du wr t=false->a.tmps[t]?=a0.tmps[t]?) (c:∀b e,sN.mem b=aa e->Gs k.M b=false->sq.mem b=aa { e with lk:=true }) (g:k.PB fz sN sq=aa x) : ∃bM,dz B N bM (k.sj fz false wr sN x) a w/\Ext B γ0 sN.mem w0 bM (k.sj fz false wr sN x).mem w:=by
 unfold Carry.PB at g;cases fz with|false=>exact⟨γ,vT j l m n o (λb e h d=>⟨true,c b e h d⟩) g⟩|true =>split at g;{rename_i b4 p;obtain⟨i,q,r,s⟩:=Wv p m;exact⟨i,vT j l q (n.trans r) o (λb e h d=>⟨true,s b _ (c b e h d) rfl⟩) g⟩};cases g
noncomputable def roundOf(d:Ctx)(e:Nat)(g:List Nat)(inl:Nat->List cw->St->Tree (cw×St))(k:Carry)(h:Bool)(b:St)(c:Code)(j:List (Option Pz))(x:k.ty.den):Option (k.ty.den⊕(Nat×k.ty.den)) :=
 ((kE d e g inl c j<|k.sj false true (writes c) b x).bind λr=>bif Nat.beq r.1 0 then(match k.out false b r.2 with
   | some y=>.ret (.inl y)
   | none=>.fail)
  else match Ng (xc c) r.1,k.PB h b r.2 with|some i,aa y=>.ret (.inr (i,y))|_,_=>.fail).run
def UI{c k fz σ γ a w Q R}(C:FN k σ)(h:dz B N γ σ a w){x0}(D:k.out false σ σ=aa x0)
  f (Out:R->Nat->k.ty.den->Prop) {z} (X:Loop f x0=aa z) (Y:∀x r,f x=aa r->∃e y,(match r with|.inl E=>e=0/\E=y|.inr z=>e≠0/\Out z e y) /\∀j q t S,dz B N j (k.sj false true (writes c) σ x) q t->(∀sq bM d w',(bif Nat.beq e 0 then k.out false σ sq else k.PB fz σ sq)=aa y->b5 (k.sj false true (writes c) σ x) sq->dz B N bM sq d w'->Ext B j (k.sj false true (writes c) σ x).mem t bM sq.mem w'->Jj (writes c) q d->S (Qs e) d w') ->c.wp P S q t)
  (final:∀e y,e≠0->Out z e y->∀bM d w',dz B N bM (k.sj fz false (writes c) σ y) d w'->Ext B γ σ.mem w bM (k.sj fz false (writes c) σ y).mem w'->Jj (writes c) a d->Q (Qs e) d w') : (Code.loop c).wp P Q a w:=by
 obtain⟨n,Z⟩:=sZ X;refine KV (λm d w'=>∃bM x,dz B N bM (k.sj false true (writes c) σ x) d w'/\Ext B γ σ.mem w bM (k.sj false true (writes c) σ x).mem w'/\Jj (writes c) a d/\rounds f m x=aa z) (n:=n) ?_ ?_
 .obtain⟨s,x⟩:=vT C h h (Ext.refl _ _ _ _) (λ_ _=>rfl) (λb o u _=>⟨o.lk,u⟩) D;exact⟨γ,x0,s,x,Jj.refl _ _,Z⟩
 .intro m q t hI;obtain⟨j,x,s1,e1,f1,T⟩:=hI;cases m with
  | zero=>cases T
  | succ m =>
    obtain⟨r,F,v⟩:=Gl.1 T;obtain⟨e,y,U,G⟩:=Y x r F;refine G j q t _ s1 λsq bM d w' H I W e2 f2=>?_;have hx:=e1.trans e2;have l:=f1.trans f2;have g:∀b o,σ.mem b=aa o->Gs k.M b=false->sq.mem b=aa { o with lk:=true }:=λb o u p=>by have:=I b _ (Zb u p) aW;simpa using this
    cases r with
    | inl E =>obtain⟨rfl,rfl⟩:=U;obtain⟨J,K⟩:=vT C h W hx l (λb o u p=>⟨true,g b o u p⟩) H;exact⟨m,Yf m,bM,E,J,K,l,v⟩
    | inr z' =>
      obtain⟨A,hO⟩:=U;obtain rfl:=aU v;have L:Nat.beq e 0=false:=kn A;rw[L] at H;obtain⟨O,J,K⟩:=Jl C h W hx l g H;have:=final e y A hO O d w' J K l
      match e,A,this with|0,A,_=>exact absurd rfl A|1,_,this=>exact this|i+2,_,this=>exact this
def afD{S}{o:Option (S⊕(Nat×S))}{r}(h:cf o=aa r):(∃y,r=.inl y/\o=aa (.inl y))\/∃i y,r=.inr y/\o=aa (.inr (i,y)):=by obtain⟨q,b,c⟩:=Ho.1 h;cases q with|inl y=>exact .inl ⟨y,c.symm,b⟩|inr p=>exact .inr ⟨p.1,p.2,c.symm,b⟩
def vU(aqU:P.follows .mixedOrders=true)(hc:fM P cx)(ale:sn P B.G cx)(alf:zG P B.G inl)(H:∀f anG σ v bb,(inl f anG σ).run=aa (v,bb)->b5 σ bb) :
  ∀c {pl σ γ a w e bb Q},(∀t∈writes c,t<N)->(kE cx nb bf inl c pl σ).run=aa (e,bb)->dz B N γ σ a w ->(∀bM d w',dz B N bM bb d w'->Ext B γ σ.mem w bM bb.mem w'->Jj (writes c) a d->Q (Qs e) d w')->c.wp P Q a w:=by
 intro c;induction c with
 | skip =>intro pl σ γ a w e bb Q F g h u;obtain⟨rfl,rfl⟩:=b9 (aU g);exact wp_skip (u γ a w h (Ext.refl _ _ _ _)<|Jj.refl _ _)
 | label l =>intro pl σ γ a w e bb Q F g h u;obtain⟨rfl,rfl⟩:=b9 (aU g);exact wp_label (u γ a w h (Ext.refl _ _ _ _)<|Jj.refl _ _)
 | ret =>intro pl σ γ a w e bb Q F g h u;obtain⟨rfl,rfl⟩:=b9 (aU g);exact wp_ret (u γ a w h (Ext.refl _ _ _ _)<|Jj.refl _ _)
 | exit i =>intro pl σ γ a w e bb Q F g h u;obtain⟨rfl,rfl⟩:=b9 (aU g);exact wp_exit (u γ a w h (Ext.refl _ _ _ _)<|Jj.refl _ _)
 | region id ops dr =>intro pl σ γ a w e bb Q F g h u;obtain⟨b4,R,L⟩:=bind_some g;obtain⟨rfl,rfl⟩:=b9 (aU L);have hd':∀o∈ops.toList,∀k,o.dst=aa k->k<N:=λo ho k hk=>F k (Wu ho hk);have hfr:∀{a d},Fr (number 0 ops.toList) a d->Jj _ a d:=λhf t ht=>hf t (Za ht);cases dr with|true=>exact Y6 aqU hc ale alf hd' R h λbM d w' s x f=>u bM d w' s x (hfr f)|false=>exact Wg hc ale alf H hd' R h λbM d w' s x f=>u bM d w' s x (hfr f)
 | seq x y ihx ihy =>intro pl σ γ a w e bb Q F g h u;obtain⟨r1,R,L⟩:=bind_some g;obtain⟨Y,b4⟩:=r1;have hdx:=λt ht=>F t (Gm _ ht);have hdy:∀t∈writes y,t<N:=λt ht=>F t (M8 _ ht);refine wp_seq (ihx hdx R h λbM d w' D I C=>?_);cases Y with|zero=>exact ihy hdy L D λaqV a'' w'' s2 x2 f2=>u aqV a'' w'' s2 (I.trans x2) (C.left.trans f2.right)|succ Y =>obtain⟨rfl,rfl⟩:=b9 (aU L);have:=u bM d w' D I C.left;cases Y with|zero=>exact this|succ i=>exact this
 | block i x ih =>
   intro pl σ γ a w e bb Q F g h u;obtain⟨r1,R,L⟩:=bind_some g;obtain⟨Y,b4⟩:=r1;obtain⟨rfl,rfl⟩:=b9 (aU L);refine wp_block (ih F R h λbM d w' D I C=>?_);have:=u bM d w' D I C
   match Y,this with|0,this=>exact this|1,this=>exact this|j+2,this =>show Exit.inBlock i Q (.exit j) d w';unfold Exit.inBlock;by_cases e:j=i;{subst e;simpa [Qs] using this};simp only[aK e];have hb:Nat.beq (j+2) (i+2)=false:=kn ai;rw[hb] at this;exact this
 | scope x ih =>
   intro pl σ γ a w e bb Q F g h u;refine wp_scope_straight (ih F g h λbM d w' D I C=>?_);have:=u bM d w' D I C
   match e,this with|0,this=>exact this|1,this=>exact this|j+2,this=>exact this
 | cond o x y ihx ihy =>
   intro pl σ γ a w e bb Q F g h u;have hdx:=λt ht=>F t (Gm _ ht);have hdy:=λt ht=>F t (M8 _ ht);unfold kE at g;split at g;{rename_i c0 O hcv;have E:=h.dm o;rw[hcv] at E;have E:=Cj E;have hn:=gH g;cases c0 with|false=>exact wp_cond_false E (ihy hdy hn h λbM d w' D I C=>u bM d w' D I C.right)|true=>exact wp_cond_true E (ihx hdx hn h λbM d w' D I C=>u bM d w' D I C.left)}
   .rename_i c0 p O hcv;have E:=h.dm o;rw[hcv] at E;have E:=Cj E;split at g;{cases g};rename_i σ Z;obtain⟨γ,h,hx⟩:=Mu Z h;replace u:=λbM d w' s x f=>u bM d w' s (hx.trans x) f;split at g;{cases g}
    rename_i k hk;have hok:=Cn hk;have go:∀{r},(Tree.node c0 (kE cx nb bf inl x O<|k.lock σ)<|kE cx nb bf inl y (O.drop<|marks x)<|k.lock σ).run=aa r->∀{v},k.PB p.fz σ r.2=aa v ->
      (∀bM d w',dz B N bM (k.sj p.fz false (writes x++writes y) σ v) d w'->Ext B γ σ.mem w bM (k.sj p.fz false (writes x++writes y) σ v).mem w'->Jj (writes x++writes y) a d->Q (Qs r.1) d w') ->(Code.cond o x y).wp P Q a w:=by
     intro r S v ho hQ;have hlk:dz B N γ (k.lock σ) a w:=by rw[aln];exact h.xB
     have hle:Ext B γ σ.mem w γ (k.lock σ).mem w:=by rw[Jk];exact Ext.xB
     have fin:b5 (k.lock σ) r.2->∀bM d w',dz B N bM r.2 d w'->Ext B γ (k.lock σ).mem w bM r.2.mem w'->Jj (writes x++writes y) a d->Q (Qs r.1) d w':=by intro hkp bM d w' D I C;obtain⟨γ2,s2,x2⟩:=Jl hok h D (hle.trans I) C (λb bx hb hin=>hkp b _ (by rw[Jk,UG hb,hin];rfl) rfl) ho;exact hQ γ2 d w' s2 x2 C
     have hn:=gH S;cases c0 with|false=>exact wp_cond_false E (ihy hdy hn hlk λbM d w' D I C=>fin (yB H _ _ _ _ hn) bM d w' D I C.right)|true=>exact wp_cond_true E (ihx hdx hn hlk λbM d w' D I C=>fin (yB H _ _ _ _ hn) bM d w' D I C.left)
    split at g;{obtain⟨v,R,L⟩:=KW g;obtain⟨rfl,rfl⟩:=b9 (aU L);obtain⟨r,h3,h4⟩:=bind_some R;obtain⟨h5,h6⟩:=aD h4;refine go h3 (Qu h6) λbM d w' s x f=>?_;rw[iN h5];exact u bM d w' s x f};rename_i es hes;obtain⟨v,R,L⟩:=KW g;obtain⟨r,h3,h4⟩:=bind_some R;split at h4;{rename_i i v' J ho;obtain rfl:=aU h4;rw[UH J] at L;obtain⟨rfl,rfl⟩:=b9 (aU L);exact go h3 ho λbM d w' s x f=>u bM d w' s x f};cases h4
   cases g
 | loop c ih =>
   intro pl σ γ a w e bb Q F g h u;unfold kE at g;split at g
   case h_2 =>
    generalize 100000=n at g;refine KV (λm d w'=>∃bM b4,dz B N bM b4 d w'/\Ext B γ σ.mem w bM b4.mem w'/\Jj (writes c) a d/\(again _ m b4).run=aa _) ⟨γ,σ,h,Ext.refl _ _ _ _,Jj.refl _ _,g⟩ ?_;intro m a1 w1 hI;obtain⟨T,b4,D,Y,C,K⟩:=hI;cases m with
    | zero=>cases K
    | succ m =>
      obtain⟨r,U,A⟩:=bind_some K;obtain⟨e',cM⟩:=r;refine ih F U D λbM d w' s2 e2 f2=>?_;cases X:Nat.beq e' 0 with
      | true =>dsimp only at A;rw[X] at A;obtain rfl:=iN X;exact⟨m,Yf m,bM,cM,s2,Y.trans e2,C.trans f2,A⟩
      | false =>
        dsimp only at A;rw[X] at A;obtain⟨rfl,rfl⟩:=b9 (aU A);have:=u bM d w' s2 (Y.trans e2) (C.trans f2)
        match e',X,this with|0,X,_=>cases X|1,_,this=>exact this|i+2,_,this=>exact this
   (case h_3=>cases g);rename_i p O;split at g
   .rename_i ct hct;generalize 100=n at g;generalize 0=j at g;refine KV (λm d w'=>∃bM b4 j',dz B N bM b4 d w'/\Ext B γ σ.mem w bM b4.mem w'/\Jj (writes c) a d/\(KG _ ct m j' b4).run=aa _) ⟨γ,σ,j,h,Ext.refl _ _ _ _,Jj.refl _ _,g⟩ ?_;intro m a1 w1 hI;obtain⟨T,b4,j1,D,Y,C,K⟩:=hI;cases m with
    | zero=>cases K
    | succ m =>
      unfold KG at K;split at K;(case h_2=>cases K);rename_i x hx;obtain⟨hj,hr2⟩:=cL K;obtain⟨r,U,A⟩:=bind_some hr2;obtain⟨e',cM⟩:=r;change Int at x;have s1':dz B N T (b4.put ct<|.data (.int .i64) (j1:Int)) a1 w1:=D.aec (by have:=D.bw ct;rw[hx] at this;rw[<-(gb hj)];exact this)
      refine ih F U s1' λbM d w' s2 e2 f2=>?_;cases X:Nat.beq e' 0 with
      | true =>obtain rfl:=iN X;exact⟨m,Yf m,bM,cM,j1+1,s2,Y.trans e2,C.trans f2,A⟩
      | false =>
        dsimp only at A;rw[X] at A;obtain⟨rfl,rfl⟩:=b9 (aU A);have:=u bM d w' s2 (Y.trans e2) (C.trans f2)
        match e',X,this with|0,X,_=>cases X|1,_,this=>exact this|i+2,_,this=>exact this
   split at g;{cases g};rename_i σ Z;obtain⟨γ,h,hx⟩:=Mu Z h;replace u:=λbM d w' s x f=>u bM d w' s (hx.trans x) f;split at g;{cases g};rename_i k hk;have hok:=Cn hk;dsimp only at g;split at g;{cases g};rename_i x0 hx0;have hb:∀x r,roundOf cx nb bf inl k p.fz σ c O x=aa r->∃e sq y,(kE cx nb bf inl c O<|k.sj false true (writes c) σ x).run=aa (e,sq)/\(bif Nat.beq e 0 then k.out false σ sq else k.PB p.fz σ sq)=aa y/\((e=0/\r=.inl y)\/(e≠0/\∃i,Ng (xc c) e=aa i/\r=.inr (i,y))):=by intro x r hx;obtain⟨q,U,A⟩:=bind_some hx;obtain⟨e,sq⟩:=q;cases he:Nat.beq e 0 with|true =>rw[he] at A;split at A;{rename_i y hy;exact⟨e,sq,y,U,by rw[he];exact hy,.inl ⟨iN he,(aU A).symm⟩⟩};cases A|false =>rw[he] at A;simp at A;split at A;{rename_i i y hi hy;exact⟨e,sq,y,U,by rw[he];exact hy,.inr ⟨λe0=>(by subst e0;cases he),i,hi,(aU A).symm⟩⟩};cases A
   have step:∀{x e sq y},(kE cx nb bf inl c O<|k.sj false true (writes c) σ x).run=aa (e,sq)->(bif Nat.beq e 0 then k.out false σ sq else k.PB p.fz σ sq)=aa y->∀T a1 w1 Q',dz B N T (k.sj false true (writes c) σ x) a1 w1 ->
     (∀sq bM d w',(bif Nat.beq e 0 then k.out false σ sq else k.PB p.fz σ sq)=aa y->b5 (k.sj false true (writes c) σ x) sq->dz B N bM sq d w'->Ext B T (k.sj false true (writes c) σ x).mem w1 bM sq.mem w'->Jj (writes c) a1 d->Q' (Qs e) d w')->c.wp P Q' a1 w1:=by
    intro x e sq y S ho T a1 w1 Q' s hQ;exact ih F S s λbM d w' D I C=>hQ sq bM d w' ho (yB H _ _ _ _ S) D I C
   split at g;{rename_i e0 hes;obtain⟨v,R,L⟩:=ck g;obtain⟨rfl,rfl⟩:=b9 (aU L);refine UI (fz:=p.fz) hok h hx0 _ (λz e' y=>e'=e0/\z=y) R (λx r hx=>?_) (λe' y hne hO bM d w' s x f=>?_);{rcases afD hx with ⟨y,rfl,hy⟩|⟨i,y,rfl,hy⟩;{obtain⟨e,sq,y',U,A,W⟩:=hb x _ hy;rcases W with ⟨rfl,W⟩|⟨_,i,_,W⟩;{obtain rfl:=Ym W;exact⟨0,y,⟨rfl,rfl⟩,step U A⟩};cases W};obtain⟨e,sq,y',U,A,W⟩:=hb x _ hy;rcases W with ⟨rfl,W⟩|⟨hne,i',J,W⟩;{cases W};obtain⟨rfl,rfl⟩:=b9 (Sum.inr.inj W);rw[hes] at J;exact⟨e,y,⟨hne,aiQ J,rfl⟩,step U A⟩};obtain⟨rfl,rfl⟩:=hO;exact u bM d w' s x f};obtain⟨v,R,L⟩:=ck g;refine UI (fz:=p.fz) hok h hx0 _ (λz e' y=>Ng (xc c) e'=aa z.1/\z.2=y) R (λx r hx=>?_) (λe' y hne hO bM d w' s x f=>?_);{obtain⟨e,sq,y',U,A,W⟩:=hb x _ hx;rcases W with ⟨rfl,rfl⟩|⟨hne,i,J,rfl⟩;{exact⟨0,y',⟨rfl,rfl⟩,step U A⟩};exact⟨e,y',⟨hne,J,rfl⟩,step U A⟩};obtain⟨J,rfl⟩:=hO;rw[UH J] at L;obtain⟨rfl,rfl⟩:=b9 (aU L);exact u bM d w' s x f
 | _=>intro pl σ γ a w e bb Q F g h u;cases g
end
end Go.Ge
namespace Go.Ge
variable [Lp]
open RowKit
def acb(b:Func):Bool:=!(b.name == "runtime.NumGoroutine")&&(match b.body with|some c=>(writes c).all λt=>Nat.blt t b.ntmps|none=>true)
def UJ(cx:Ctx):Prop:=∀f b,find cx.fns f=aa b->acb b=true
def vV{α}{l:List (Nat×α)}{k x}(h:find l k=aa x):(k,x)∈l:=by induction l with|nil=>cases h|cons p r c =>obtain⟨i,a⟩:=p;simp only[find] at h;cases b:Nat.beq i k with|true =>(rw[b] at h;obtain rfl:=aU h;obtain rfl:=iN b;exact pg ..)|false=>rw[b] at h;exact wG _ (c h)
def Zd{cx}(h:(cx.fns.all λp=>acb p.2)=true):UJ cx:=λf c b=>by rw[wH] at h;exact h _ (vV b)
section
variable {P:Program} {B:DW} {N:Nat} {γ:Gh} {σ:St} {a:Act} {w:World} {cx:Ctx}
def KX(b:Array Value):ResultVar->Sem Value|.tmp t=>pure (b.getD t undef)|.cell a t=>do loadVar t (<-asAddr (b.getD a undef))
def Dx(e:fM P cx)(h:dz B N γ σ a w){r v}(d:(KH cx σ r).run=aa v):∃b,(KX a.tmps r).run P w=.ok b w/\cK γ σ.mem w v .val [b]:=by cases r with|tmp t =>(obtain rfl:=aU d;exact⟨_,rfl,h.bw t⟩)|cell t ty =>obtain⟨τ,g,i⟩:=bind_some d;obtain rfl:=aU i;obtain⟨u,b,j,rfl,k,l,m⟩:=YB e (x:=.tmp t) h g;refine⟨b,?_,?_⟩;{have c:a.tmps.getD t undef=.pointer (aa j):=k;simp only[KX,c,asAddr,Sem.run_bind,Sem.run_pure,Result.andThen_ok,l]};simpa [St.bF,St.put] using m
def Qv(e:fM P cx)(h:dz B N γ σ a w):∀{rs v},(IH cx σ rs).run=aa v->∃b,b.length=rs.length/\(rs.mapM<|KX a.tmps).run P w=.ok b w/\cK γ σ.mem w v .many b:=by intro rs;induction rs with|nil=>(intro v d;obtain rfl:=aU d;exact⟨[],rfl,rfl,rfl⟩)|cons r rs g =>intro v d;obtain⟨t,i,j⟩:=bind_some d;obtain⟨l,k,m⟩:=bind_some j;obtain rfl:=aU m;obtain⟨c,n,o⟩:=Dx e h i;obtain⟨b,p,q,s⟩:=g k;refine⟨c::b,by simp[p],?_,c,b,rfl,o,s⟩;simp only[adX,Sem.run_bind,n,Result.andThen_ok,q,Sem.run_pure]
def acd fn tmps:results fn tmps=(do
  let vs <-fn.results.toList.mapM (KX tmps)
  pure (if h:vs.toArray.size=1 then vs.toArray[0] else .tuple vs.toArray)):=by
 have h:results fn tmps=(do
   let vs <-fn.results.mapM (KX tmps)
   pure (if h:vs.size=1 then vs[0] else .tuple vs)):=by
  congr 1
 rw[h,Array.mapM_eq_mapM_toList];simp
def AA(j:fM P cx)(h:dz B N γ σ a w){fn v}(d:(results1 cx σ fn.results.toList).run=aa v):∃b,(results fn a.tmps).run P w=.ok b w/\cK γ σ.mem w v .val [b]:=by
 rw[acd];generalize fn.results.toList=rs at d;have many:∀{l},rs.length≠1->(IH cx σ rs).run=aa l->∃b,(do
   let vs <-rs.mapM (KX a.tmps)
   pure (if h:vs.toArray.size=1 then vs.toArray[0] else .tuple vs.toArray):Sem Value).run P w=.ok b w/\cK γ σ.mem w (.D0 l) .val [b]:=by
  intro l e k;obtain⟨c,m,n,o⟩:=Qv j h k;refine⟨.tuple c.toArray,?_,c.toArray,rfl,by simpa using o⟩;have:¬c.toArray.size=1:=by simp[m,e]
  simp only[Sem.run_bind,n,Result.andThen_ok,Sem.run_pure,dif_neg this]
 match rs,d with
 | [],d =>
   obtain⟨l,g,i⟩:=bind_some d;obtain rfl:=aU i;exact many aW g
 | [r],d =>
   obtain⟨b,p,q⟩:=Dx j h d;refine⟨b,?_,q⟩;simp only[adX,Sem.run_bind,p];rfl
 | r::s::rs,d =>
   obtain⟨l,g,i⟩:=bind_some d;obtain rfl:=aU i;exact many aW g
def KY{mem}(i:bP B γ mem w){b c}(e:nH γ mem w b c.toList) n :
  dz B (c.size+(n-c.size)) γ (qt mem b) { tmps:=c++Array.replicate (n-c.size) undef,defers:=[] } w where
 bw:=λt=>by
  show cK γ mem w ((b[t]?).getD .undef) .val [_]
  cases g:b[t]? with
  | none=>exact⟨_,rfl⟩
  | some v =>
    have h:t<c.size:=by
     have:=(ga.1 g).1;have d:=e.1;simp at d;omega
    have d:(c++Array.replicate (n-c.size) undef).getD t undef=c[t]:=by
     rw[abo,amU h,(Array.getElem?_eq_getElem h)];rfl
    rw[d];exact e.2 t v c[t] g aW
 size:=aW
 defers:=rfl
 ok:=i
noncomputable def UK(c:Ctx)(n d:Nat)(b:Nat->IE):Nat->List cw->St->Tree (cw×St) :=λg e σ=>(II c n ((d+g+1)*1000) b g e σ.mem).bind λr=>.ret (r.1,{ σ with mem:=r.2 })
def Qw{n nb f ft b mem r}(d:(II cx (n+1) nb ft f b mem).run=aa r) :
  ∃e c,find cx.fns f=aa e/\e.body=aa c/\((PC cx nb (ft f) (UK cx n nb ft) e c b mem).run=aa r\/∃R,(ad5 R b mem<|PC cx nb (ft f) (UK cx n nb ft) e c b).run=aa r):=by
 unfold II at d;split at d
 case h_2=>cases d
 rename_i e g;split at d
 case h_2=>cases d
 rename_i c h;refine⟨e,c,g,h,?_⟩;split at d
 .exact .inl d
 .exact .inr ⟨_,d⟩
def HK{nb p inl fn c b mem r}(g:(PC cx nb p inl fn c b mem).run=aa r) :
  ∃e bb,(kE cx nb p.anr inl c p.marks<|qt mem b).run=aa (e,bb)/\(e=0\/e=1)/\(results1 cx bb fn.results.toList).run=aa r.1/\r.2=bb.mem:=by
 obtain⟨q,h,i⟩:=bind_some g;obtain⟨e,bb⟩:=q;obtain⟨d,j⟩:=aD i;obtain⟨v,k,l⟩:=bind_some j;obtain rfl:=aU l;refine⟨e,bb,h,?_,k,rfl⟩;simp only[Iw] at d;rcases d with d|d
 .exact .inl (iN d)
 .exact .inr (iN d)
def alo:∀{l i t s},(t,s)∈ad4 l i->∃u,s=.d u:=by intro l;induction l with|nil=>intro i t s h;cases h|cons a r b =>intro i t s h;rcases eK.1 h with h|h;{obtain⟨rfl,rfl⟩:=b9 h;exact⟨a,rfl⟩};exact b h
def Qx{R c mem F r}(d:(ad5 R c mem F).run=aa r) :
  ∃(k:Carry) (x:k.ty.den) (v:cw) (cS:Nat->Option Box),FN k (lT mem)/\(F (k.lock<|lT mem).mem).run=aa (v,cS)/\k.out false (lT mem) (aif R.1 v cS)=aa x/\Yv R.1 v R.2.length=true /\r=(VT R.1 R.2.length (k.sj false false (List.range R.2.length) (lT mem) x).bw,(k.sj false false (List.range R.2.length) (lT mem) x).mem):=by
 unfold ad5 at d;split at d
 .cases d
 rename_i m i;obtain⟨x,j,l⟩:=KW d;obtain⟨q,n,e⟩:=bind_some j;obtain⟨o,e⟩:=aD e;refine⟨⟨ad4 R.2 0,m,λ_ g=>g⟩,x,q.1,q.2,⟨λt s h=>?_,aiO i,λb x p=>(by cases p)⟩,n,Qu e,o,(aU l).symm⟩;obtain⟨u,rfl⟩:=alo h;trivial
def aiR{γ mem w}:∀{m vs},cK γ mem w m .many vs->VS m=vs.length/\∀t u,nth m t=aa u->∃v,vs[t]?=aa v/\cK γ mem w u .val [v]:=by intro m;induction m with|mix a b _ d =>(intro vs h;obtain⟨v,r,rfl,e,g⟩:=h;obtain⟨i,j⟩:=d g;refine⟨by simp only[VS,iG,i],λt u c=>?_⟩;cases t with|zero=>(obtain rfl:=aU c;exact⟨v,rfl,e⟩)|succ t=>exact j t u c)|nl=>(intro vs h;obtain rfl:vs=[]:=h;exact⟨rfl,λt u c=>(by cases t<;>cases c)⟩)|_=>intro vs h;exact h.elim
def afE{γ mem w bw}:∀b i,(∀t v,b[t]?=aa v->cK γ mem w (bw<|i+t) .val [v])->cK γ mem w (anu bw i b.length) .many b:=by
 intro b;induction b with
 | nil=>intro i h;exact rfl
 | cons v r c =>
   intro i h;refine⟨v,r,rfl,h 0 v rfl,c _ λt u d=>?_⟩;have:=h (t+1) u (by simpa using d)
   rwa [show i+_=i+1+t by omega] at this
def ace{ft}:∀n nb f d mem r,(II cx n nb ft f d mem).run=aa r->∀b g,mem b=aa g->g.lk=true->r.2 b=aa g:=by intro n;induction n with|zero=>intro nb f d mem r h;cases h|succ n m =>(intro nb f d mem r h b g j l;obtain⟨o,c,z,A,i⟩:=Qw h;have body:∀{mem r},(PC cx nb (ft f) (UK cx n nb ft) o c d mem).run=aa r->∀b g,mem b=aa g->g.lk=true->r.2 b=aa g:=by (intro mem r h b g j l;obtain⟨e,bb,i,C,D,p⟩:=HK h;have:=yB (λf d σ v bb s=>by obtain⟨q,t,u⟩:=bind_some s;obtain⟨rfl,rfl⟩:=b9 (aU u);exact λb g j l=>m _ _ _ _ q t b g j l) c _ _ _ i);rw[p];exact this b g j l);rcases i with i|⟨R,i⟩;{exact body i b g j l};obtain⟨k,x,v,cS,y,_,_,_,rfl⟩:=Qx i;exact Eu (wr:=List.range R.2.length) y b g j l
def Qy{ft} n nb:∀f c σ v bb,(UK cx n nb ft f c σ).run=aa (v,bb)->b5 σ bb:=by intro f c σ v bb d;obtain⟨q,e,g⟩:=bind_some d;obtain⟨rfl,rfl⟩:=b9 (aU g);exact λb h i j=>ace _ _ _ _ _ q e b h i j
def Mv(Q:P.follows .mixedOrders=true)(hc:fM P cx){G}(S:sn P G cx)(T:UJ cx){ft} :
  ∀n nb f B γ mem cS w g y v,B.G=G->bP B γ mem w->nH γ mem w g y.toList->(II cx n nb ft f g mem).run=aa (v,cS) ->(∃p U,P.funcs[f]?=aa p/\(p.name == "runtime.NumGoroutine")=false/\p.body=aa U) /\Calls P f y w λe w'=>∃d bM,e=.returned d/\bP B bM cS w'/\Ext B γ mem w bM cS w'/\cK bM cS w' v .val [d]:=by
 intro n;induction n with
 | zero=>intro nb f B γ mem cS w g y v _ _ _ h;cases h
 | succ n ih =>
   intro nb f B γ mem cS w g y v hG A K h;subst hG;obtain⟨p,c,h1,h2,C⟩:=Qw h;have D:=T f p h1;simp only[acb,h2,gC,Hr,wH] at D;have hP:=hc.fns f p h1;refine⟨⟨p,c,hP,D.1,h2⟩,?_⟩;have W:zG P B.G (UK cx n nb ft):=by intro B' γ σ atB w f g y v hG A K hi;obtain⟨q,g1,g2⟩:=bind_some hi;obtain⟨rfl,rfl⟩:=b9 (aU g2);obtain⟨k1,k2⟩:=ih _ f B' γ σ.mem q.2 w g y q.1 hG A K g1;exact⟨k1,rfl,k2⟩
   have body:∀{γ mem cS v},bP B γ mem w->nH γ mem w g y.toList->(PC cx nb (ft f) (UK cx n nb ft) p c g mem).run=aa (v,cS) ->
     Calls P f y w λe w'=>∃d bM,e=.returned d/\bP B bM cS w'/\Ext B γ mem w bM cS w'/\cK bM cS w' v .val [d]:=by
    intro γ mem cS v A K h;obtain⟨e,bb,C,h4,h5,h6⟩:=HK h;subst h6;refine calls_of_wp hP h2 ?_;refine vU Q hc S W (Qy _ _) c (λt r=>?_) C (KY A K p.ntmps) λbM a' w' s x f=>?_
    .have:=D.2 t r;have:=M7 (by simpa [Nat.blt] using this);omega
    .obtain⟨d,r1,r2⟩:=AA hc s h5;have:a'.defers=[]/\∃O,(results p a'.tmps).run P w'=.ok O w'/\∃d bM,Ending.returned O=.returned d/\bP B bM bb.mem w'/\Ext B γ mem w bM bb.mem w'/\cK bM bb.mem w' v .val [d] :=⟨s.defers,d,r1,d,bM,rfl,s.ok,x,r2⟩;rcases h4 with rfl|rfl;{exact this}
     .exact this
   rcases C with C|⟨R,C⟩
   .exact body A K C
   .obtain⟨k,x,O,i,hk,h4,h5,E,h6⟩:=Qx C;obtain⟨rfl,rfl⟩:=b9 h6;have F:(k.lock<|lT mem).mem=xB _ mem:=Jk k _;have X:Ext B γ mem w γ (k.lock<|lT mem).mem w:=by rw[F];exact Ext.xB
    have H:∀b I,(k.lock<|lT mem).mem b=aa I->I.lk=true->i b=aa I:=by
     intro b I hb hl;obtain⟨e,bb,g3,_,_,g6⟩:=HK h4;have:=yB (λf g σ v bb hi=>Qy n nb f g σ v bb hi) c _ _ _ g3;rw[show i=bb.mem from g6];exact this b I hb hl
    refine(body (by rw[F];exact A.xB) (K.ext X) h4).mono λe w' hw=>?_;obtain⟨d,j,rfl,m1,x1,r1⟩:=hw;have fin:∀n (ts:Array Value),ts.size=n->n=R.2.length->(∀t,cK j i w' (spread R.1 O t) .val [ts.getD t undef]) ->
      (∀{o sl},(∀t,cK j o w' (sl t) .val [ts.getD t undef])->cK j o w' (VT R.1 R.2.length sl) .val [d]) ->
      ∃z J,Ending.returned d=.returned z/\bP B J (k.sj false false (List.range R.2.length) (lT mem) x).mem w'/\Ext B γ mem w J (k.sj false false (List.range R.2.length) (lT mem) x).mem w' /\
       cK J (k.sj false false (List.range R.2.length) (lT mem) x).mem w' (VT R.1 R.2.length (k.sj false false (List.range R.2.length) (lT mem) x).bw) .val [z]:=by
     intro n ts hts hn hr hg;have s0:dz B n γ (lT mem) { tmps:=Array.replicate n undef,defers:=[] } w:=⟨λt=>⟨_,rfl⟩,aW,rfl,A⟩;have s1:dz B n j (aif R.1 O i) { tmps:=ts,defers:=[] } w':=⟨hr,hts,rfl,m1⟩;obtain⟨s2,x2⟩:=vT hk s0 s1 (X.trans x1) (λt r=>by
      have r:¬t<n:=λhlt=>by
       have Y:t∈List.range R.2.length:=Iz.2 ai;have:=P0.2 Y;rw[this] at r;cases r
      rw[X4<|by show ts.size<=t;omega,X4 dW]) (λb I hb hin=>⟨true,H b _ (by rw[F];simp only[xB,show mem b=aa I from hb,hin,zw]) rfl⟩) h5
     exact⟨d,j,rfl,s2.ok,x2,hg s2.bw⟩
    obtain⟨D0,L⟩:=R;cases D0 with
    | false =>
      refine fin 1 #[d] rfl (iN E).symm (λt=>?_) (λh=>h 0);cases t with
      | zero=>exact r1
      | succ t=>exact⟨_,rfl⟩
    | true =>
      cases O with
      | D0 m =>
        obtain⟨l,e1,r2⟩:=r1;obtain⟨q1,q2⟩:=aiR r2;obtain rfl:d=.tuple l:=D4 e1;have Z:l.size=L.length:=by rw[<-(iN E),q1];simp
        refine fin L.length l Z rfl (λt=>?_) (λ{o sl} h=>⟨l,rfl,?_⟩)
        .show cK j i w' (match nth m t with|some u=>u|none=>.undef) .val _
         cases r:nth m t with
         | none=>exact⟨_,rfl⟩
         | some u =>
           obtain⟨v,g1,g2⟩:=q2 t u r;rw[abo,<-ahC,g1];exact g2
        .have:=afE l.toList 0 λt v r=>by
          have:=h t;rw[abo,<-ahC,r] at this;rw[Gq];exact this
         rwa [show l.toList.length=L.length by rw[<-Z];simp] at this
      | _=>cases E
end
end Go.Ge
