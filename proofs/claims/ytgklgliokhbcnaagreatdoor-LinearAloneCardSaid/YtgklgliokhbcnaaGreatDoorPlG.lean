import Derived.Test.YtgklgliokhbcnaaGreatDoorPlF
set_option linter.unusedSectionVars false
set_option linter.unusedVariables false
set_option linter.unusedSimpArgs false
set_option linter.defProp false
noncomputable section
open Option renaming some->aa,none->af
namespace Go.Ge
variable [Lp]
def Yq p:(bU p).1=0\/(bU p).1=1\/(bU p).1=2:=by
 unfold bU
 grind
def pE(t:List Nd)(p:Pt):List Nd×Int:=if(bU p).1=0/\(bU p).2.1≠[] then tq (bU p).2.1 t (mi p<|aP (bU p).2.1) else(t,0)
def y8:List Pt->List Nd->List Nd×Int
 | [],t=>(t,0)
 | p::r,t=>if(pE t p).2=0 then y8 r (pE t p).1 else([],(pE t p).2)
def VY{a t n}(h:(tq a t n).2=0):Valid (tq a t n).1:=by
 unfold tq at h⊢;split at h
 .rename_i b;rw[aN b];exact xO h
 .grind
def yC{t p}(b:Valid t)(h:(pE t p).2=0):Valid (pE t p).1:=by
 unfold pE at h⊢;split at h
 .rename_i a;rw[aN a];exact VY h
 .grind
def A0:∀l t,Valid t->(((y8 l t).2=0/\Valid (y8 l t).1)\/((y8 l t).2≠0/\(y8 l t).1=[])):=by
 intro l;induction l with
 | nil=>intro t h;exact .inl ⟨rfl,h⟩
 | cons p r a =>
   intro t h;unfold y8;split
   .rename_i b;exact a _ (yC h b)
   .grind
def Z0{p}(a:SmP p){ns}(h:Js ns):Sm (mi p<|aP ns):=⟨h.2.2,a.2.1,a.2.2⟩
def VZ{t}(h:Valid t) p (d:SmP p):Aw (yB p,t,())=aa ((pE t p).1,(pE t p).2,()):=by
 have b:=xL p;unfold yB ZY pE;rcases Yq p with a|a|a
 .rw[aJ<|by rw[a];decide,aJ (by rw[a];decide)];by_cases c:(bU p).2.1=[]
  .rw[aN c,aJ λq=>q.2 c];rfl
  .rw[aJ c,aN ⟨a,c⟩];exact S0 b rfl (Z0 d b) h
 .rw[aN a,aJ λq=>by rw[a] at q;exact absurd q.1 aD];rfl
 .rw[aJ<|by rw[a];decide,aN a,aJ λq=>by rw[a] at q;exact absurd q.1 aD];rfl
def runs{S R f}(l:List Pt)(h:List Nd->Nat->S)(b:List Nd->R)(c:Int->List Nd->Nat->R)
  (a:∀i x t,l[i]?=aa x->Valid t->f (h t i)=aa (if(pE t x).2=0 then .inl (h (pE t x).1<|i+1) else .inr (c (pE t x).2 t i)))
  (e:∀t,f (h t l.length)=aa (.inr<|b t)) :
  ∀d i t,i+d=l.length->Valid t->∃z,Loop f (h t i)=aa z /\
   (((y8 (l.drop i) t).2=0/\z=b (y8 (l.drop i) t).1)\/((y8 (l.drop i) t).2≠0/\∃k m,z=c (y8 (l.drop i) t).2 k m)):=by
 intro d;induction d with
 | zero =>
   intro i t n j;obtain rfl:i=l.length:=ag;refine⟨_,by rw[aO,e];rfl,.inl ?_⟩;rw[Tw];exact⟨rfl,rfl⟩
 | succ d o =>
   intro i t n j;have hs:=a i l[i] t (fX ag) j;rw[BK ag];unfold y8;split
   .rename_i g;rw[aN g] at hs;obtain⟨z,p,q⟩:=o (i+1) _ ag (yC j g);exact⟨z,by rw[aO,hs];exact p,q⟩
   .rename_i g;rw[aJ g] at hs;exact⟨_,by rw[aO,hs];rfl,.inr ⟨g,t,i,rfl⟩⟩
open Classical in
def oC(l:List Nd)(a:List Pt):List Nd×Int:=if Valid l then(if jf a=true then y8 a (a.foldl xM l) else([],10)) else([],1)
def yD(a:List Pt):∀l,Valid l->Valid (a.foldl xM l):=by
 induction a with
 | nil=>intro l h;exact h
 | cons p r b=>intro l h;exact b _ (xN h p)
def ahq l ps (h:vI l) (c:SY ps):uu (l,ps,())=aa ((oC l ps).1,(oC l ps).2,()):=by
 obtain⟨e,o,j⟩:=mh l h;have v:=h.1;have w:=c.1;unfold uu oC;rw[o,ab];by_cases hv:Valid l
 .rw[j.2 hv,aN hv,QF ps c,ab];by_cases a:jf ps=true
  .rw[aN a,aN a];rw[ aH cJ,show app ([]) l=l from rfl];obtain⟨p,k⟩:=Yp ps true l hv ag;rw[p,ab];obtain⟨z,r,m⟩:=runs (f:=lg (ps.map yB,true,())) ps (λt i=>(([],0,t,i,()),())) _ (λe t i=>(1,([],e,t,i,()),())) (λi x t d s=>by
    have hi:=av d;unfold lg;rw[al<|by rw[yJ];exact hi,ao (by rw[Em,d];rfl),ab,az ag];rw[show Aw _=_ from VZ s x (c.2 x<|dW d),ab];by_cases b:(pE t x).2=0
    .rw[au b,aN b];rfl
    .rw[ar b,aJ b];rfl) (λt=>by
    unfold lg;rw[show aU ps.length _=false by rw[<-yJ];exact aq,ah]) ps.length 0 _ ag k
   rw[DG] at m;rw[show Loop (lg _) (([],0,ps.foldl xM l,0,()),())=_ from r];rcases m with ⟨n,g⟩|⟨n,y,A,g⟩
   .rw[g,n];rfl
   .rw[g];rcases A0 ps _ k with ⟨B,_⟩|⟨_,u⟩
    .grind
    .rw[u];rfl
  .rw[aJ a,aJ a];rfl
 .have:=λq=>hv (j.1 q);rw[ar this,aI,ai,aJ hv]
def Yr l ps (v:vI l) (h:SY ps):yn (l,ps,())=aa ((oC l ps).1,(oC l ps).2,()):=by
 obtain⟨e,w,y⟩:=oB l v;have C:=h.1;unfold yn oC;rw[w,ab];by_cases hv:Valid l
 .rw[y.2 hv,aN hv,CE ps h,ab];by_cases k:jf ps=true
  .rw[aN k,k];have o:=yD ps l hv;rw[(Pn l ps h hv),ab];obtain⟨z,A,p⟩:=runs (f:=oq (l,ps,())) ps (λt i=>((t,[],0,i,()),())) _ (λe t i=>(1,(t,[],e,i,()),())) (λi x t m r=>by
    have hi:=av m;have d:=h.2 x (dW m);have b:=xL x;unfold oq;rw[al hi,ao m,ab,CB x d,ab,az ag];rw[VX b r,ab,ab];unfold sv;rw[ab];by_cases g:(bU x).1=0
    .have s:=tS b.1;by_cases hn:(bU x).2.1=[]
     .have a:pE t x=(t,0):=by unfold pE;rw[aJ λq=>q.2 hn]
      rw[a,au g,ck (s.2 hn)];rfl
     .have a:pE t x=tq (bU x).2.1 t (mi x<|aP (bU x).2.1):=by unfold pE;rw[aN ⟨g,hn⟩]
      rw[a,au g,aY λq=>hn (s.1 q)];by_cases hd:(jg (bU x).2.1.dropLast [] t).2=0
      .have c:tq (bU x).2.1 t (mi x<|aP (bU x).2.1)=bG (jg (bU x).2.1.dropLast [] t).1 (mi x<|aP (bU x).2.1):=by unfold tq;rw[aN hd]
       rw[c,au hd,aN hd];rw[show oj ((jg (bU x).2.1.dropLast [] t).1,(aP (bU x).2.1,_),())=_ from(Cy (jg (bU x).2.1.dropLast [] t).1 (mi x<|aP (bU x).2.1) (fE<|CG _ _ _ r hd)<|Z0 d b),ab];by_cases j:(bG (jg (bU x).2.1.dropLast [] t).1<|mi x<|aP (bU x).2.1).2=0
       .rw[au j,aN j];rfl
       .rw[ar j,aJ j];rfl
      .have c:tq (bU x).2.1 t (mi x<|aP (bU x).2.1)=([],(jg (bU x).2.1.dropLast [] t).2):=by unfold tq;rw[aJ hd]
       rw[c,ar hd,aJ hd,aJ hd];rfl
    .have a:pE t x=(t,0):=by unfold pE;rw[aJ λq=>g q.1]
     rw[a,ar g];rfl) (λt=>by
    unfold oq;rw[aq,ah]) ps.length 0 _ ag o
   rw[DG] at p;rw[show Loop (oq _) ((ps.foldl xM l,[],0,0,()),())=_ from A];rcases p with ⟨u,n⟩|⟨u,D,E,n⟩
   .rw[n,u];rfl
   .rw[n];rcases A0 ps _ o with ⟨F,_⟩|⟨_,B⟩
    .grind
    .rw[B];rfl
  .rw[ show jf ps=false by simpa using k];rfl
 .have:e=false:=by
   grind
  rw[this,aJ hv];rfl
def Has(t:List Nd)(p:bg):Prop:=p=[]\/∃x∈t,x.1=p/\x.2.1=2
def V0{t n}(c:Valid t)(d:fW n=true)(h:Has t (bh n.1).1):((bG t n).2=0/\n∈(bG t n).1)\/(bG t n).2=5:=by
 unfold bG;rw[aJ λq=>q.elim (λq=>q c) λq=>by rw[d] at q;cases q];have f:¬((bh n.1).1≠[]/\∀x∈t,x.1≠(bh n.1).1):=λq=>by
  rcases h with h|⟨x,a,e,_⟩
  .exact q.1 h
  .exact q.2 x a e
 have b:¬((bh n.1).1≠[]/\∀x∈t,x.1=(bh n.1).1->x.2.1≠2):=λq=>by
  rcases h with h|⟨x,a,e,k⟩
  .exact q.1 h
  .exact q.2 x a e k
 rw[aJ f,aJ b];have key:∀r,((if 64<=r.length then(([]),(5:Int)) else(vf r n,0)).2=0/\n∈(if 64<=r.length then(([]),(5:Int)) else(vf r n,0)).1)\/(if 64<=r.length then(([]),(5:Int)) else(vf r n,0)).2=5:=λr=>by
  split
  .exact .inr rfl
  .exact .inl ⟨rfl,vg.2 (.inl rfl)⟩
 apply key
def abM{t p}(h:(findF t p).2.1=true):(findF t p).1∈t/\(findF t p).1.1=p:=by
 unfold findF at h⊢;cases a:t.find? λx=>decide (x.1=p) with
 | none=>rw[a] at h;cases h
 | some x=>exact⟨TA a,by have:=Y8 a;simpa using this⟩
def afe{p}(h:fW (gC 0 p)=true):fW (gC 493 p)=true:=by
 unfold fW at h⊢;simp at h⊢;exact⟨⟨⟨h.1.1.1,by simp[gC]⟩,by simp[gC]⟩,by simp[Qz,gC]⟩
def abN{ns}(h:Js ns) n (hn:n<=ns.length) (j:preB ns n=true):∀d i t,i+d=n->Valid t->Has t (aP<|ns.take i) ->
  ((jg ((ns.take n).drop i) (aP<|ns.take i) t).2=0/\Has (jg ((ns.take n).drop i) (aP<|ns.take i) t).1 (aP<|ns.take n))\/(jg ((ns.take n).drop i) (aP<|ns.take i) t).2=5:=by
 intro d;induction d with
 | zero =>
   intro i t q k l;obtain rfl:i=n:=ag;rw[Fj<|by rw[dk];omega];exact .inl ⟨rfl,l⟩
 | succ d o =>
   intro i t q k l;have b:(ns.take n).drop i=ns[i]::(ns.take n).drop (i+1):=by
    rw[BK<|by rw[dk];omega,ac4]
   have c:eM ns i=aP _:=rfl;rw[b];unfold jg;rw[(rl h.1<|fX ag)];split
   .rename_i p;obtain⟨m1,r⟩:=abM p.1;exact o _ t ag k (.inr ⟨_,m1,by rw[r,c],p.2⟩)
   .have e:fW (gC 493<|eM ns i)=true:=by
     unfold preB at j;rw[vN] at j;exact afe (j i<|Lk.2 ag)
    have a:=V0 k e (by
     show Has t (bh<|eM ns i).1
     rw[Np h.1 ag];exact l)
    split
    .rename_i f;rcases a with ⟨_,g⟩|m
     .rw[c];exact o _ _ ag (xO f) (.inr ⟨_,g,rfl,rfl⟩)
     .rw[m] at f;cases f
    .rename_i f;rcases a with ⟨s,_⟩|m
     .exact absurd s f
     .exact .inr m
def abO{ns}(h:Js ns){n}(g:n.1=aP ns)(i:fW n=true)(a:vh ns=true){t}(d:Valid t):(tq ns t n).2=0\/(tq ns t n).2=5:=by
 have b:preB ns (ns.length-1)=true:=by
  unfold vh at a;simp at a;rw[SX a.2] at a;simp at a;exact a.1.1
 have hd:=abN h _ ag b (ns.length-1) 0 t ag d (.inl<|by simp[aP]);have c:aP (ns.take 0)=[]:=by simp[aP]
 rw[DG,List.dropLast_eq_take.symm,c] at hd;unfold tq;rcases hd with ⟨e,j⟩|f
 .rw[aN e];rcases V0 (CG _ _ _ d e) i (by rw[g,yA h.1];exact j) with ⟨k,_⟩|l
  .exact .inl k
  .exact .inr l
 .rw[aJ<|by rw[f];decide];exact .inr f
def Ys{p}(a:(bU p).2.2=true)(c:(bU p).1=0)(b:(bU p).2.1≠[]):fW (mi p<|aP (bU p).2.1)=true/\vh (bU p).2.1=true:=by
 have key:∀d q,d≠[]->((decide _&&q)||(fW (mi p<|aP d)&&vh d))=true->fW _=true/\vh d=true:=λd q e h=>by
  rw[cm e,Bool.false_and,adj,gz] at h;exact h
 unfold bU at a c b⊢;split at c
 .rename_i f;rw[aN f] at a b⊢;dsimp only at a c b⊢;split at c
  .cases c
  .rename_i i;rw[aJ i] at a b⊢;split at c
   .cases c
   .rename_i j;rw[aJ j] at a b⊢;split at c
    .rename_i g;rw[aN g] at a b⊢;exact key _ _ b a
    .rename_i g;rw[aJ g] at b;exact absurd rfl b
 .rename_i f;rw[aJ f] at b;exact absurd rfl b
def V1:∀b t,jf b=true->Valid t->(y8 b t).2=0\/(y8 b t).2=5:=by
 intro b;induction b with
 | nil=>intro t _ _;exact .inl rfl
 | cons p r f =>
   intro t d e;unfold jf at d;simp only[adk,gz] at d;unfold y8;split
   .rename_i a;exact f _ d.2 (yC e a)
   .rename_i a;right;unfold pE at a⊢;split
    .rename_i c;rw[aN c] at a;obtain⟨m1,g⟩:=Ys d.1 c.1 c.2;rcases abO (xL p) rfl m1 g e with h|i
     .exact absurd h a
     .exact i
    .rename_i c;rw[aJ c] at a;exact absurd rfl a
def ahr{l}(c:l.length<=64)(a:∀q∈l,RdP q):SY l:=⟨ag,λp b=>a p b⟩
def abP{s}{l:List Pt}{e}(h:gd (s,())=aa (l,e,()))(c:SY l):gS (s,())=aa (if e=0/\jf l=true then 0 else 10,()):=by
 unfold gS;rw[h,ab];rw[QF l c];by_cases a:e=0
 .by_cases b:jf l=true
  .rw[au a,aN b,aN ⟨a,b⟩];rfl
  .rw[au a,aJ b,aJ λq=>b q.2];rfl
 .rw[ar a,aJ (show ¬(e=0/\jf l=true) from λq=>a q.1)];by_cases b:jf l=true
  .rfl
  .rfl
def abQ{s}{a:List Pt}{e}(h:gd (s,())=aa (a,e,()))(f:SY a){l}(d:Valid l):jJ (l,s,())=aa (if e=0 then((oC l a).1,(oC l a).2,()) else([],10,())):=by
 obtain⟨c,g,i⟩:=mh l (fE d);unfold jJ;rw[h,ab,g];rw[ahq l a (fE d) f,i.2 d];by_cases b:e=0
 .rw[au b,aN b];rfl
 .rw[ar b,aJ b];rfl
def K5(t:List Nd)(q:bg):Option Nd:=t.find? λx=>decide (x.1=q)
def Z1 t q:findF t q=match K5 t q with
 | some x=>(x,true,())
 | none=>(ZW,false,()):=rfl
def at_mem{t q x}(h:K5 t q=aa x):x∈t/\x.1=q:=by
 unfold K5 at h
 grind
def A1{t}(a:Ord t){q x}:K5 t q=aa x↔x∈t/\x.1=q:=by
 refine⟨at_mem,?_⟩
 .rintro⟨b,c⟩;have:=AX a b c;rw[Z1] at this
  grind
def Z2{a b:Option Nd}(h:∀x,a=aa x↔b=aa x):a=b:=by
 cases a with
 | none =>
   cases b with
   | none=>rfl
   | some y=>exact absurd ((h y).2 rfl) aS
 | some x=>exact((h x).1 rfl).symm
def abR:∀{l m:List Nd},(l.Pairwise λx y=>cmpL (key x) (key y)<0)->(m.Pairwise λx y=>cmpL (key x) (key y)<0)->(∀c,c∈l↔c∈m)->l=m:=by
 intro l;induction l with
 | nil =>
   intro m _ _ h;cases m with
   | nil=>rfl
   | cons d m=>exact absurd ((h d).2 aS) aS
 | cons c l k =>
   intro m g i h;cases m with
   | nil=>exact absurd ((h c).1 aS) aS
   | cons d m =>
     rw[Fl] at g i;have a:∀x,¬cmpL _ (key x)<0:=λx=>by rw[jP];omega
     have j:c=d:=by
      have b:c=d\/c∈m:=by simpa using(h c).1 aS
      have f:d=c\/d∈l:=by simpa using(h d).2 aS
      rcases b with e|b
      .exact e
      .rcases f with e|f
       .grind
       .exact absurd (mg (g.1 d f)<|i.1 c b) (a c)
     grind
def ajo{s t}(d:Ord s)(e:Ord t)(h:∀q,K5 s q=K5 t q):s=t :=
 abR (zU.1 d) (zU.1 e) λc=>by
  have a:=A1 d (q:=c.1) (x:=c);have b:=A1 e (q:=c.1) (x:=c)
  grind
def abS{l}(j:Valid l){p}(v:p≠[]):∀m x,x∈l->(parts x.1).length<=m->dZ (parts x.1) (parts p)=true->∃y∈l,y.1=p/\y.2.1=2:=by
 intro m;induction m with
 | zero =>
   intro x d k f;unfold dZ at f
   grind
 | succ m z =>
   intro x d k f;by_cases n:∃y∈l,y.1=p
   .by_cases o:(bh x.1).1=[]
    .exfalso;have q:=(fU f).1;have c:=j.may x d;unfold fW xG at c;simp only[gz] at c;have w:(parts x.1).length<=1:=by
      rcases rG x.1 with ⟨a,_⟩|⟨a,b,A,C,e⟩
      .unfold parts;split
       .simp
       .rw[pt _ a];simp
      .rw[e] at o;subst o;have:=vN.1 c.1.1.1.1.1.1.1.2 [] (by
        unfold parts;rw[A];rw[EY [] aS];simp)
       exact absurd this aD
     have r:parts p=[]:=yG.1 ag;have:=dP p;rw[r] at this;exact v this.symm
    .rcases j.up x d with e|⟨y,h,s,t⟩
     .grind
     .have u:=xH o;rw[<-s] at u;obtain⟨q,i⟩:=fU f;rw[u] at q i;rw[acQ<|by simp at q;omega] at i;rcases rR (parts p).length (parts y.1).length with g|g
      .exact z y h (by rw[u] at k;simp at k;omega) (dn ⟨g,i⟩)
      .have B:parts p=parts y.1:=by rw[<-i,JG ag]
       exact⟨y,h,by rw[<-dP y.1,<-B,dP],t⟩
   .have:=Ni j v (λy h e=>n ⟨y,h,e⟩) _ x d (bX _)
    grind
def Z3{t n}(h:(bG t n).2=0) q :
  K5 (bG t n).1 q=if q=n.1 then aa n else if dZ (parts q) (parts n.1)=true/\n.2.1≠2 then af else K5 t q:=by
 rcases Nl t n with ⟨_,f⟩|⟨e,f,o,r,g,p,s⟩
 .exact absurd h f
 rw[s];refine Z2 λx=>?_;rw[A1 (QD e f o g p).ord,vg];obtain⟨l,_⟩:=g.sub;by_cases u:q=n.1
 .grind
 .rw[aJ u];have i:(x=n\/x∈r)/\x.1=q↔x∈r/\x.1=q:=by
   grind
  rw[i];rcases g with ⟨⟨⟨d,A,v,w⟩,j⟩,rfl⟩|⟨y,rfl⟩
  .rw[aJ<|λz=>z.2 j,A1 e.ord]
   grind
  .unfold qe;rw[zg];by_cases k:dZ (parts q) (parts n.1)=true
   .by_cases m:n.2.1=2
    .rw[aJ<|λz=>z.2 m,A1 e.ord];constructor
     .grind
     .rintro⟨a,c⟩;have:=abS e (ZV f) _ x a (bX _) (by rw[c];exact k)
      grind
    .rw[aN ⟨k,m⟩];constructor
     .rintro⟨⟨a,b⟩,c⟩;unfold gone at b
      grind
     .grind
   .rw[aJ<|λz=>k z.1,A1 e.ord];constructor
    .grind
    .rintro⟨a,c⟩;unfold gone
     grind
def Po(q:bg)(s:Option Nd):Option Nd:=match s with
 | some x=>if x.2.1=2 then aa x else aa (gC 493 q)
 | none=>aa (gC 493 q)
def V2{t} p:((findF t p).2.1=true/\(findF t p).1.2.1=2)↔∃x,K5 t p=aa x/\x.2.1=2:=by
 rw[Z1]
 grind
def aff{ns}(h:Nn ns){i j}(a:i<ns.length)(b:j<ns.length)(e:eM ns i=eM ns j):i=j:=by
 have:=congrArg (λp=>(parts p).length) e;simp only[xJ h,dk] at this;omega
def ahs{ns}(h:Nn ns) n (hn:n<=ns.length) q:∀d i t,i+d=n->Valid t ->
  (jg ((ns.take n).drop i) (aP<|ns.take i) t).2=0 ->
  ((∃j,i<=j/\j<n/\q=eM ns j)->K5 (jg ((ns.take n).drop i) (aP<|ns.take i) t).1 q=Po q (K5 t q)) /\
  ((¬∃j,i<=j/\j<n/\q=eM ns j)->K5 (jg ((ns.take n).drop i) (aP<|ns.take i) t).1 q=K5 t q):=by
 intro d;induction d with
 | zero =>
   intro i t v r _;obtain rfl:i=n:=ag;rw[Fj<|by rw[dk];omega];exact⟨λ⟨j,a,b,_⟩=>absurd a ag,λ_=>rfl⟩
 | succ d s =>
   intro i t v r k;have l:(ns.take n).drop i=ns[i]::(ns.take n).drop (i+1):=by
    rw[BK<|by rw[dk];omega,ac4]
   have o:eM ns i=aP _:=rfl;rw[l] at k⊢;unfold jg at k⊢;rw[(rl h<|fX ag)] at k⊢;have f:(∃j,i<=j/\j<n/\q=eM ns j)↔(q=eM ns i\/∃j,i+1<=j/\j<n/\q=eM ns j):=by
    grind
   have apart:q=eM ns i->¬∃j,i+1<=j/\j<n/\q=eM ns j:=by
    rintro e ⟨j,a,b,c⟩;have:=aff h ag ag (e.symm.trans c);omega
   by_cases m:(findF t<|eM ns i).2.1=true/\(findF t<|eM ns i).1.2.1=2
   .rw[aN m] at k⊢;rw[o] at k⊢;obtain⟨w,u⟩:=s _ t ag r k;rw[f];obtain⟨x,A,B⟩:=(V2 _).1 m;constructor
    .rintro(e|e)
     .rw[u<|apart e];unfold Po
      grind
     .grind
    .grind
   .rw[aJ m] at k⊢;by_cases p:(bG t<|gC 493<|eM ns i).2=0
    .rw[aN p] at k⊢;obtain⟨w,u⟩:=s _ _ ag (xO p) k;have g:=Z3 p q;rw[f];have y:¬(gC 493<|eM ns i).2.1≠2:=λz=>z rfl;constructor
     .rintro(e|e)
      .rw[aN<|show q=(gC 493<|eM ns i).1 from e] at g;unfold Po;rw[V2] at m
       grind
      .rw[aJ λz:q=(gC 493<|eM ns i).1=>apart z e] at g
       grind
     .intro e;rw[aJ λz:q=(gC 493<|eM ns i).1=>e (.inl z)] at g
      grind
    .grind
def aht(a:List bg)(n:Nd)(q:bg)(s:Option Nd):Option Nd :=
 if q=n.1 then aa n else if dZ (parts q) a=true/\n.2.1≠2 then af else if dZ a (parts q)=true/\q≠[] then Po q s else s
def abT{ns}(h:Nn ns) q:(∃j,0<=j/\j<ns.length-1/\q=eM ns j)↔(dZ ns (parts q)=true/\q≠[]):=by
 constructor
 .rintro⟨j,_,f,rfl⟩;rw[xJ h];constructor
  .unfold dZ
   grind
  .intro e;have:=congrArg (λp=>(parts p).length) e;simp only[xJ h,dk,show(parts []).length=0 from rfl] at this;omega
 .rintro⟨b,c⟩;obtain⟨g,d⟩:=fU b;have a:0<(parts q).length:=by
   apply Nat.pos_of_ne_zero;intro e;have:=dP q;rw[yG.1 e] at this;exact c this.symm
  refine⟨(parts q).length-1,pF _,ag,?_⟩;unfold eM;rw[show(parts q).length-1+1=(parts q).length by omega,d,dP]
def ahu{ns}(h:Nn ns){t}(d:Valid t){n}(e:n.1=aP ns)(a:(tq ns t n).2=0) q:K5 (tq ns t n).1 q=aht ns n q (K5 t q):=by
 have b:ns.take _=ns.dropLast:=List.dropLast_eq_take.symm;have f:aP (ns.take 0)=[]:=by simp[aP]
 unfold tq at a⊢;by_cases hd:(jg ns.dropLast [] t).2=0
 .rw[aN hd] at a⊢;have c:=ahs h (ns.length-1) ag q (ns.length-1) 0 t ag d (by rw[ b];exact hd);rw[ abT h] at c;rw[Z3 a q,e,kg ns h];unfold aht
  grind
 .grind
def abU(q:bg)(s:Option Nd)(p:Pt):Option Nd:=if(bU p).1=0/\(bU p).2.1≠[] then aht (bU p).2.1 (mi p<|aP (bU p).2.1) q s else s
def Pp(q:bg)(p:Pt):Bool:=(decide ((bU p).1=1)&&(decide (q=aP (bU p).2.1)||dZ (parts q) (bU p).2.1))||(decide ((bU p).1=2)&&dZ (parts q) (bU p).2.1)
def afg(q:bg)(a:List Pt)(s:Option Nd):Option Nd:=if a.any (Pp q)=true then af else s
def ajp:∀a t,Valid t->(y8 a t).2=0->∀q,K5 (y8 a t).1 q=a.foldl (abU q) (K5 t q):=by
 intro a;induction a with
 | nil=>intro t _ _ q;rfl
 | cons p r f =>
   intro t d c q;unfold y8 at c⊢;by_cases b:(pE t p).2=0
   .rw[aN b] at c⊢;rw[f _ (yC d b) c q,ac9]
    congr 1
    unfold pE abU at *;by_cases e:(bU p).1=0/\(bU p).2.1≠[]
    .rw[aN e] at b⊢;rw[aN e];exact ahu (xL p).1 d rfl b q
    .grind
   .grind
def ajq{t}(a:Valid t) p q:K5 (xM t p) q=if Pp q p=true then af else K5 t q:=by
 have e:=kg _ (xL p).1;refine Z2 λx=>?_;rw[A1 (xN a p).ord];have key:∀P,(∀x,x.1=q->P x=!Pp q p)->((x∈t.filter P/\x.1=q)↔(if Pp q p=true then af else K5 t q)=aa x):=by
  by_cases b:Pp q p=true
  .grind
  .rw[aJ b,A1 a.ord]
   grind
 unfold xM;by_cases c:(bU p).1=1
 .rw[aN c];refine key _ λy f=>?_;unfold gone Pp
  grind
 .rw[aJ c];by_cases d:(bU p).1=2
  .rw[aN d];refine key _ λy f=>?_;unfold Pp
   grind
  .rw[aJ d];have b:Pp q p=false:=by unfold Pp;rw[cm c,cm d];rfl
   rw[aJ<|by rw[b];decide,A1 a.ord]
def abV:∀a t,Valid t->∀q,K5 (a.foldl xM t) q=afg q a (K5 t q):=by
 intro a;induction a with
 | nil=>intro t _ q;rfl
 | cons p r c =>
   intro t b q;rw[ac9,c _ (xN b p) q,ajq b p q];unfold afg
   grind
def Yt{l}(a:Valid l){ps}(d:jf ps=true)(b:(oC l ps).2=0):Valid (oC l ps).1/\∀q,K5 (oC l ps).1 q=ps.foldl (abU q) (afg q ps<|K5 l q):=by
 have e:oC l ps=y8 ps (ps.foldl xM l):=by unfold oC;rw[aN a,aN d]
 rw[e] at b⊢;have c:=yD ps l a;refine⟨?_,λq=>?_⟩
 .rcases A0 ps _ c with ⟨_,h⟩|⟨h,_⟩
  .exact h
  .grind
 .rw[ajp ps _ c b q,abV ps l a q]
def afh{l:List Nd}(e:Valid l)(a:List Pt):((oC l a).2=0/\jf a=true)\/((oC l a).2≠0/\(oC l a).1=[]/\((oC l a).2=10\/(oC l a).2=5)):=by
 by_cases c:jf a=true
 .have f:oC l a=y8 a (a.foldl xM l):=by unfold oC;rw[aN e,aN c]
  rw[f];have g:=yD a l e;rcases A0 a _ g with ⟨d,h⟩|⟨d,h⟩
  .exact .inl ⟨d,c⟩
  .rcases V1 a _ c g with b|b
   .exact absurd b d
   .exact .inr ⟨d,h,.inr b⟩
 .have f:oC l a=([],10):=by unfold oC;rw[aN e,aJ c]
  rw[f];exact .inr ⟨aD,rfl,.inl rfl⟩
def A2(q:bg)(f:Option Nd->Option Nd):Prop:=(∃c,∀s,f s=c)\/(∀s,f s=Po q s)\/(∀s,f s=s)
def QI q s:Po q (Po q s)=Po q s:=by
 cases s with
 | none=>rfl
 | some x =>
   show Po q (if x.2.1=2 then aa x else aa (gC 493 q))=if x.2.1=2 then aa x else aa (gC 493 q)
   by_cases h:x.2.1=2
   .rw[aN h];show(if x.2.1=2 then aa x else aa _)=_
    rw[aN h]
   .rw[aJ h];rfl
def A2.comp{q f g}(b:A2 q f)(a:A2 q g):A2 q (λs=>f (g s)):=by
 rcases b with ⟨c,d⟩|b|b
 .exact .inl ⟨c,λs=>d _⟩
 .rcases a with ⟨c,d⟩|a|a
  .exact .inl ⟨Po q c,λs=>by show f _=_;rw[b,d]⟩
  .exact .inr (.inl λs=>by show f (g s)=_;rw[b,a,QI])
  .exact .inr (.inl λs=>by show f (g s)=_;rw[b,a])
 .rcases a with ⟨c,d⟩|a|a
  .exact .inl ⟨c,λs=>by show f _=_;rw[b,d]⟩
  .exact .inr (.inl λs=>by show f _=_;rw[b,a])
  .exact .inr (.inr λs=>by show f _=_;rw[b,a])
def A2.ak1{q f}(a:A2 q f) s:f (f s)=f s:=by
 rcases a with ⟨c,b⟩|a|a
 .rw[b,b]
 .rw[a,a,QI]
 .rw[a]
def Yu q p:A2 q (λs=>abU q s p):=by
 unfold abU;by_cases a:(bU p).1=0/\(bU p).2.1≠[]
 .simp only[aN a];unfold aht;by_cases b:q=(mi p<|aP (bU p).2.1).1
  .simp only[aN b];exact .inl ⟨_,λ_=>rfl⟩
  .simp only[aJ b];by_cases c:dZ (parts q) (bU p).2.1=true/\(mi p<|aP (bU p).2.1).2.1≠2
   .simp only[aN c];exact .inl ⟨_,λ_=>rfl⟩
   .simp only[aJ c];by_cases d:dZ (bU p).2.1 (parts q)=true/\q≠[]
    .simp only[aN d];exact .inr (.inl λ_=>rfl)
    .simp only[aJ d];exact .inr (.inr λ_=>rfl)
 .simp only[aJ a];exact .inr (.inr λ_=>rfl)
def V3 q:∀(ps:List Pt),A2 q (λs=>ps.foldl (abU q) s):=by
 intro ps;induction ps with
 | nil=>exact .inr (.inr λ_=>rfl)
 | cons p r a=>exact a.comp (Yu q p)
def V4 q ps:A2 q (afg q ps):=by
 unfold afg;by_cases h:ps.any (Pp q)=true
 .simp only[aN h];exact .inl ⟨_,λ_=>rfl⟩
 .simp only[aJ h];exact .inr (.inr λ_=>rfl)
def afi{l}(a:Valid l){ps}(b:jf ps=true):(oC l ps).2=0\/(oC l ps).2=5:=by
 have c:oC l ps=y8 ps (ps.foldl xM l):=by unfold oC;rw[aN a,aN b]
 rw[c];exact V1 ps _ b (yD ps l a)
def abW{l}(c:Valid l){ps}(a:jf ps=true)(d:(oC l ps).2=0):oC (oC l ps).1 ps=((oC l ps).1,0)\/(oC (oC l ps).1 ps).2=5:=by
 obtain⟨b,e⟩:=Yt c a d;rcases afi b a with h|h
 .left;obtain⟨f,g⟩:=Yt b a h;have:=ajo f.ord b.ord λq=>by
   rw[g,e];exact((V3 q ps).comp<|V4 q ps).ak1 _
  exact Prod.ext this h
 .exact .inr h
def Ju(s:bg):List Pt×Int:=match gd (s,()) with
 | some (l,e,_)=>(l,e)
 | none=>([],10)
def K6 s:gd (s,())=aa ((Ju s).1,(Ju s).2,())/\SY (Ju s).1:=by
 obtain⟨d,e,a,b,c,_⟩:=ae3 s;unfold Ju;rw[a];exact⟨rfl,ahr b c⟩
def mj(l:List Nd)(s:bg):List Nd×Int:=if(Ju s).2=0 then oC l (Ju s).1 else([],10)
def QJ{l}(a:Valid l) s:jJ (l,s,())=aa ((mj l s).1,(mj l s).2,()):=by
 obtain⟨b,c⟩:=K6 s;rw[abQ b c a];unfold mj;by_cases h:(Ju s).2=0
 .rw[aN h,aN h]
 .rw[aJ h,aJ h]
def Ii{l}(c:Valid l) s:((mj l s).2=0/\Valid (mj l s).1/\(mj (mj l s).1 s=((mj l s).1,0)\/(mj (mj l s).1 s).2=5))\/((mj l s).2≠0/\(mj l s).1=[]):=by
 unfold mj;by_cases h:(Ju s).2=0
 .rw[aN h];simp only[aN h];rcases afh c (Ju s).1 with ⟨a,b⟩|⟨a,b,_⟩
  .exact .inl ⟨a,(Yt c b a).1,abW c b a⟩
  .exact .inr ⟨a,b⟩
 .rw[aJ h];exact .inr ⟨aD,rfl⟩
def y9:List bg->List Nd->List Nd×Int
 | [],t=>(t,0)
 | s::r,t=>if(mj t s).2=0 then y9 r (mj t s).1 else([],(mj t s).2)
def ahv r (p:r.length<=1000):pX (r,())=aa ((y9 r []).1,(y9 r []).2,()):=by
 have key:∀d i t,i+d=r.length->Valid t->∃z,Loop (gf (r,())) ((([]:List Nd),(0:Int),t,(i:Int),()),())=aa z /\
   (((y9 (r.drop i) t).2=0/\z.1=0/\z.2.1.2.2.1=(y9 (r.drop i) t).1)\/((y9 (r.drop i) t).2≠0/\z.1=1/\z.2.1.1=(y9 (r.drop i) t).1/\z.2.1.2.1=(y9 (r.drop i) t).2)):=by
  intro d;induction d with
  | zero =>
    intro i t m j;obtain rfl:i=r.length:=ag;rw[Tw];have n:gf (r,()) ((([]:List Nd),(0:Int),t,(r.length:Int),()),())=aa (.inr (0,(([]),0,t,r.length,()),())):=by
     unfold gf;dsimp only;rw[aq,ah]
    exact⟨(0,_),by rw[aO,n];rfl,.inl ⟨rfl,rfl,rfl⟩⟩
  | succ d o =>
    intro i t m j;rw[BK ag];unfold y9;have hs:gf (r,()) ((([]),0,t,i,()),())=aa (if(mj t r[i]).2=0 then .inl ((([]),0,(mj t r[i]).1,((i+1):Int),()),()) else .inr (1,(([]),(mj t r[i]).2,t,i,()),())):=by
     unfold gf;dsimp only;rw[al ag,ao (fX ag),ab,QJ j,ab,az ag];by_cases f:(mj t r[i]).2=0
     .rw[au f,aN f];rfl
     .rw[ar f,aJ f];rfl
    by_cases f:(mj t r[i]).2=0
    .rw[aN f] at hs⊢;have k:Valid (mj t r[i]).1:=by
      rcases Ii j r[i] with ⟨_,h,_⟩|⟨h,_⟩
      .exact h
      .exact absurd f h
     obtain⟨z,l,g⟩:=o (i+1) _ ag k;exact⟨z,by rw[aO,hs];exact l,g⟩
    .rw[aJ f] at hs⊢;exact⟨(1,_),by rw[aO,hs];rfl,.inr ⟨f,rfl,rfl,rfl⟩⟩
 obtain⟨z,l,g⟩:=key r.length 0 [] ag (AY Yk.1);rw[DG] at g;unfold pX;rw[show Loop (gf _) ((([]),0,([]),0,()),())=_ from l,ab];rcases g with ⟨a,b,c⟩|⟨a,b,c,e⟩
 .rw[b,c,a];rfl
 .rw[b,c,e];rfl
def QK b (l:b.length<=100000):vZ (b,())=aa (decide (b.length=512/\∀x∈b,x=0),()):=by
 have g:∀y:UInt8,aG _ 0=decide (y=0):=λy=>D7 (n:=0);have h:=ae8 (f:=qo (b,())) b (λi=>((false,i,()),())) (λx=>!decide _) _ _ (λi x a=>by
  have hi:=av a;unfold qo;rw[al hi,ao a,ab,g,az ag];cases decide (x=0)<;>rfl) (by
  unfold qo;rw[aq,ah]) b.length 0 ag
 unfold vZ;rcases h with ⟨j,x,_,a,k,_,c⟩|⟨m,c⟩
 .rw[show Loop _ ((false,(0:Int),()),())=_ from c,ab,gM,ah];have d:x≠0:=by simpa using k
  rw[cm λq:b.length=512/\∀x∈b,x=0=>d (q.2 x<|dW a)]
 .rw[show Loop _ ((false,(0:Int),()),())=_ from c,ab,cV,ai];have e:∀x∈b,x=0:=λx a=>by
   obtain⟨i,hi⟩:=bq.1 a
   grind
  have:aG (len b) 512=decide (b.length=512/\∀x∈b,x=0):=by
   unfold aG len
   grind
  grind
def abX b (o:b.length<=100000):v7 (b,())=aa (decide (1024<=b.length/\b.length % 512=0/\∀x∈b,x=0),()):=by
 have g:∀y:UInt8,aG _ 0=decide (y=0):=λy=>D7 (n:=0);have h:=ae8 (f:=qp (b,())) b (λi=>((false,i,()),())) (λx=>!decide _) _ _ (λi x a=>by
  have hi:=av a;unfold qp;rw[al hi,ao a,ab,g,az ag];cases decide (x=0)<;>rfl) (by
  unfold qp;rw[aq,ah]) b.length 0 ag
 unfold v7;dsimp only;by_cases k:1024<=b.length
 case neg =>
  rw[aT<|by rw[bw];omega,aV,ah,ab,ai,cm λq:1024<=b.length/\b.length % 512=0/\∀x∈b,x=0=>k q.1]
 rw[aC<|by rw[bw];omega,aI,ai,show aG 512 0=false from rfl,ah,show eU _ 512=((b.length % 512):Int) from rfl];by_cases l:b.length % 512=0
 case neg =>
  rw[ar ag,aI,ab,ai,cm λq:1024<=b.length/\b.length % 512=0/\∀x∈b,x=0=>l q.2.1]
 rw[au ag,aV,ab,ah];rcases h with ⟨j,x,_,a,m,_,c⟩|⟨p,c⟩
 .rw[show Loop _ ((false,(0:Int),()),())=_ from c,ab,gM,ah];have d:x≠0:=by simpa using m
  rw[cm λq:1024<=b.length/\b.length % 512=0/\∀x∈b,x=0=>d (q.2.2 x<|dW a)]
 .rw[show Loop _ ((false,(0:Int),()),())=_ from c,ab,cV,ai];have e:∀x∈b,x=0:=λx a=>by
   obtain⟨i,hi⟩:=bq.1 a
   grind
  grind
abbrev PS:=(bg×(List Pt×(Bool×(aj×aj))))×(List Pt×aj)
def ps0(r:bg)(a:List Pt):PS:=((r,([]:List Pt),false,(),()),a,())
def QL r out (v:r.length<=8192):∃p f g,bZ ((),rd r (out.length:Int),())=aa ((p,f,()),g,()) /\
  ((f=false/\∃b z,g=GR (out.length:Int) b/\er (ps0 r out)=aa (.inr z)/\((z.1=0/\b=true)\/(z.1=1/\z.2.1.2.1=out/\z.2.1.2.2.1=!b))) \/
   (f=true/\∃h,g=rd h ((out.length+1:Nat):Int)/\h.length+512<=r.length/\out.length<64/\er (ps0 r out)=aa (.inl<|ps0 h<|out++[p]))):=by
 by_cases c:r.length<512
 .refine⟨_,_,_,M8 r out.length c,.inl ⟨rfl,true,(0,ps0 r out),rfl,?_,.inl ⟨rfl,rfl⟩⟩⟩;unfold er ps0;dsimp only;rw[cR<|by rw[bw];omega,ah]
 have i:(r.take 512).length=512:=by rw[dk];omega
 have d:inside 0 512 (len r)=true:=aL aD aD (by rw[bw];omega);by_cases j:∀x∈r.take 512,x=0
 .refine⟨_,_,_,Qw r out.length ag ag j,.inl ⟨rfl,_,(1,(r,out,decide (1024<=r.length/\r.length % 512=0/\∀x∈r,x=0),(),()),out,()),rfl,?_,.inr ⟨rfl,rfl,aS⟩⟩⟩;unfold er ps0;dsimp only;rw[bA<|by rw[bw];omega,ai,d,ai,show sub r 0 (minus 512 0)=r.take 512 from fV r 512,QK _ ag,ab,dn ⟨i,j⟩,ai,abX r ag,ab]
 have e:=λb=>GS r out.length b;obtain⟨x,n,m,o⟩:=ZS _ i;have s:(r.drop 512).length=r.length-512:=qU;unfold bZ er ps0;dsimp only[rd] at e⊢;rw[aV,aI,ai,ah,aC (by rw[bw];omega),ah,d,show sub r 0 (minus 512 0)=r.take 512 from fV r 512];rw[MZ _ ag,ab,bA (a:=512) (by rw[bw];omega),QK _ ag,ab];rw[cm (λq:(r.take 512).length=512/\∀x∈r.take 512,x=0=>j q.2),m,((take_same _ i).trans m),ab,ab,aL aD (by rw[bw];omega) (tc _),ai,show sub r 512 (minus _ 512)=r.drop 512 from jc r 512 ag];by_cases l:n=0
 case neg =>
  rw[ar l];exact⟨_,_,_,rfl,.inl ⟨rfl,_,_,rfl,rfl,.inr ⟨rfl,rfl,rfl⟩⟩⟩
 rw[au l];obtain⟨t,w⟩:=(o l).2.2.2.1;obtain⟨k,u⟩:=YT t;rw[u];by_cases y:8192<k
 .rw[aT<|by rw[bw];omega,ai,e,ab,aT ag];exact⟨_,_,_,rfl,.inl ⟨rfl,_,_,rfl,rfl,.inr ⟨rfl,rfl,rfl⟩⟩⟩
 have A:=VF k;rw[aC (a:=8192) ag,show mV _=_ from VJ k ag,ab];rw[show aw .i64 512 _=_ from zL (a:=512) ag];by_cases B:(r.drop 512).length<k
 .rw[aT<|by rw[bw];omega,ai,e,ab,aT (by rw[bw];omega)];exact⟨_,_,_,rfl,.inl ⟨rfl,_,_,rfl,rfl,.inr ⟨rfl,rfl,rfl⟩⟩⟩
 .rw[aC<|by rw[bw];omega,ah,VG k ag,ab,eA ag ag];by_cases C:(r.drop 512).length<k+Bl k
  .rw[aT<|by rw[bw];omega,aT (by rw[bw];omega)];exact⟨_,_,_,rfl,.inl ⟨rfl,_,_,rfl,rfl,.inr ⟨rfl,rfl,rfl⟩⟩⟩
  .rw[aC<|by rw[bw];omega,aC (by rw[bw];omega)];by_cases D:64<=out.length
   .rw[bA ag,bA (by rw[bw];omega)];exact⟨_,_,_,rfl,.inl ⟨rfl,_,_,rfl,rfl,.inr ⟨rfl,rfl,rfl⟩⟩⟩
   .rw[cR ag,ab,eA ag ag,aL ag (by rw[bw];omega) (tc _),ai,aL ag ag (by rw[bw];omega),ai];rw[ show _+_=((k+Bl k:Nat):Int) by omega,jc _ _ ag,az ag];rw[cR<|by rw[bw];omega];have es:sub r 512 (minus ((512+k:Nat):Int) 512)=(r.drop 512).take k:=by
     unfold sub minus
     grind
    refine⟨_,_,_,rfl,.inr ⟨rfl,_,rfl,?_,ag,?_⟩⟩
    .grind
    .rw[show aw .i64 512 _=_ from zL (a:=512) ag,es];rw[show ak _ _ _=aa false from rfl];rw[ab,aL aD ag (by rw[bw];omega),aH cJ,ab];rw[show aw .i64 512 _=_ from zL (a:=512) ag,aL ag (by rw[bw];omega) (tc _),jc r _ ag,Af];rfl
def abY:∀m r (out:List Pt) (p:Pt),r.length<=m->r.length<=8192->out.length<=63 ->
  ∃(c:List Pt) (d:Pt) (b:Int×Bool) (z:Nat×PS),Loop kr (((),(),true,()),p,out,rd r ((out.length+1:Nat):Int),())=aa (((),(),false,()),d,c,GR b.1 b.2,()) /\
   Loop er (ps0 r<|out++[p])=aa z/\((z.1=0/\b.2=true)\/(z.1=1/\z.2.1.2.1=c/\z.2.1.2.2.1=!b.2)):=by
 intro m;induction m using Nat.strongRecOn with
 | _ m h =>
   intro r out p x i j;obtain⟨e,k,l,f,n⟩:=QL r _ i;have hlen:((out++[p]).length:Int)=((out.length+1:Nat):Int):=aS;rw[hlen] at f;have a:=Qx p out _ ag f;rcases n with ⟨rfl,b,z,rfl,q,s⟩|⟨rfl,g,rfl,y,A,t⟩
   .refine⟨out++[p],e,(((out++[p]).length:Int),b),z,?_,by rw[aO,q];rfl,s⟩;rw[aO,a];show Loop _ _=_
    rw[aO];rfl
   .obtain⟨o,d,b,z,u,v,w⟩:=h g.length ag g (out++[p]) e (bX _) ag ag;exact⟨o,d,b,z,by rw[aO,a];exact u,by rw[aO,t];exact v,w⟩
def QM s:l4 (s,())=gd (s,()):=by
 by_cases f:8192<s.length
 .rw[Qy s f];unfold l4 uv;dsimp only;rw[aT<|by rw[bw];omega];rfl
 obtain⟨p,v,w,g,h⟩:=QL s [] ag;have fin:∀(b:Int×Bool) (o:List Pt),(ae (iB ((),GR b.1 b.2,())) λa=>ak a.1.1 (aa _) (aa (o,_)))=aa (if b.2=true then(([]),(10:Int),()) else(o,0,())):=λb o=>by
  obtain⟨x,i⟩:=b;cases i<;>rfl
 have parts:∀o b z,Loop er (ps0 s [])=aa z->((z.1=0/\b=true)\/(z.1=1/\z.2.1.2.1=o/\z.2.1.2.2.1=!b))->l4 (s,())=aa (if b=true then _ else _):=λo b z j k=>by
  unfold l4 uv;dsimp only;rw[aC<|by rw[bw];omega,show Loop er ((s,_),_)=_ from j,ab];rcases k with ⟨c,d⟩|⟨c,d,l⟩
  .rw[c,d];rfl
  .rw[c,d,l];cases b<;>rfl
 unfold gd;dsimp only;rw[aC<|by rw[bw];omega,show bZ ((),(true,s,0,_),())=_ from g,ab];rcases h with ⟨rfl,b,z,rfl,m,n⟩|⟨rfl,e,rfl,y,A,q⟩
 .rw[aO];show _=(ae (iB _) λa=>ak a.1.1 _ _)
  rw[fin (_,b),parts [] b z (by rw[aO,m];rfl) n]
 .obtain⟨o,B,b,z,r,t,u⟩:=abY e.length e [] p (bX _) ag aS;rw[show Loop kr _=_ from r,ab];rw[fin b o];exact parts o b.2 z (by rw[aO,q];exact t) u
def CH s:mW (s,())=aa (if(Ju s).2=0/\jf (Ju s).1=true then 0 else 10,()):=by
 obtain⟨d,e⟩:=K6 s;unfold mW;rw[QM s,d,ab];rw[CE _ e];by_cases a:(Ju s).2=0
 .rw[au a];by_cases c:jf (Ju s).1=true
  .rw[c,aN ⟨a,rfl⟩];rfl
  .have b:jf (Ju s).1=false:=by simpa using c
   rw[b,aJ λq=>Bool.noConfusion q.2];rfl
 .rw[ar a,aJ λq=>a q.1];rfl
def V5{l}(a:Valid l){ps}(b:¬jf ps=true):oC l ps=([],10):=by unfold oC;rw[aN a,aJ b]
def E6(a:List cO)(id:Tx):Option Nat:=a.findIdx? λx=>decide (x.1=id)
def DO(a:List cO)(id:Tx):Int:=match E6 a id with|some i=>(i:Int)|none=>-1
def CI{ls id i x}(a:ls[i]?=aa x)(b:x.1=id)(c:∀j y,j<i->ls[j]?=aa y->decide (y.1=id)=false):E6 ls id=aa i:=by
 unfold E6;rw[WK]
 grind
def NA{ls id}(b:∀(i:Nat) x,ls[i]?=aa x->decide (x.1=id)=false):E6 ls id=none:=by
 unfold E6;rw[YS];intro x a;obtain⟨i,c⟩:=bq.1 a
 grind
def A3{ls id i}(h:E6 ls id=aa i):∃x,ls[i]?=aa x/\x.1=id:=by
 unfold E6 at h;rw[WK] at h
 grind
def ahx{ls id}:(∃i,E6 ls id=aa i)↔∃x∈ls,x.1=id:=by
 constructor
 .rintro⟨i,h⟩;obtain⟨x,a,b⟩:=A3 h
  grind
 .rintro⟨x,a,b⟩;cases h:E6 ls id with
  | some i=>exact⟨i,rfl⟩
  | none =>
    unfold E6 at h
    grind
def QN{f} ls (id:Tx) (l:ls.length<=1000000)
  (b:∀c i,f ((c,i,()),())=ak (aU i<|len ls) (ae (idx ls i) λy=>ak (br y.1 id) (aa<|.inr (1,(i,i,()),())) (aa<|.inl ((c,aw .i64 i 1,()),()))) (aa<|.inr (0,(c,i,()),()))) :
  ae (Loop f ((0,0,()),())) (λd=>ak (cK d.1 0) (aa ((-1:Int),())) (aa (d.2.1.1,())))=aa (DO ls id,()):=by
 rcases eL (f:=f) ls (λi=>((0,i,()),())) (λ_ x=>decide (x.1=id)) (λi x=>(1,(i,i,()),())) _ ag (λi x a e g=>by
  rw[b,al e,ai,ao a,ab,dw,g];by_cases h:x.1=id<;>simp[br,h]) (by rw[b,aq];rfl) with ⟨i,x,a,j,k,h⟩|⟨hn,h⟩
 .rw[h];unfold DO;rw[CI a (fU j) k];rfl
 .rw[h];unfold DO;rw[NA hn];rfl
def NB(a:List cO)(id:Tx)(b:a.length<=1000000):Ax (a,id,())=aa (DO a id,()):=QN a id b λc i=>rfl
def E7(s:aW)(id:Tx)(a:s.2.2.1.length<=1000000):sz (s,id,())=aa (DO s.2.2.1 id,()):=QN s.2.2.1 id a λc i=>rfl
def Kl(a:List cO):Nat->Tx->List cO->List cO×Int
 | n,id,acc=>match E6 a id with
   | none=>([],3)
   | some i=>match n,a[i]? with
     | 0,_=>([],5)
     | n+1,aa x=>if x.2.1=[] then(acc++[x],0) else Kl a n x.2.1 (acc++[x])
     | _,af=>([],3)
def dB(a:List cO)(id:Tx):List cO×Int:=Kl a 16 id []
def Yv(a:List cO)(c:Tx)(d:a.length<=1000000):∀n (id:Tx) (acc:List cO) k,n+k=16->acc.length<=k ->
  ∃f g j,Loop (lu (a,c,())) ((id,([]:List cO),0,(),k,()),acc,())=aa (1,(f,(Kl a n id acc).1,(Kl a n id acc).2,g),j):=by
 intro n;induction n with
 | zero =>
   intro id acc k l m;rw[aO];unfold lu;dsimp only;rw[bA ag,ai,NB a id d,ab];unfold Kl DO;cases h:E6 a id with
   | none=>exact⟨_,_,_,rfl⟩
   | some i =>
     dsimp only;rw[aC ag,ah,au ag,ai];simp_all
 | succ n o =>
   intro id acc k l m;rw[aO];unfold lu;dsimp only;rw[bA ag,NB a id d,ab];unfold Kl DO;cases h:E6 a id with
   | none=>exact⟨_,_,_,rfl⟩
   | some i =>
     obtain⟨x,e,p⟩:=A3 h;dsimp only;rw[ ar ag,ao e,ab,show fits _=true from aH (by show _+1<=_;omega),ab,e];dsimp only;rw[dt];by_cases b:x.2.1=[]
     .rw[dn b,aN b];exact⟨_,_,_,rfl⟩
     .rw[cm b,aJ b,az ag];have:=o x.2.1 (acc++[x]) (k+1) ag (by rw[jt];show _+1<=_;omega);exact this
def Dn(a:List cO)(id:Tx)(b:a.length<=1000000):mY (a,id,())=aa ((dB a id).1,(dB a id).2,()):=by
 unfold mY;obtain⟨d,e,f,h⟩:=Yv a id b 16 id [] 0 rfl (bX _);have c:Loop (lu _) ((id,([]),0,(),0,()),_)=_:=h;rw[c];rfl
def ahy{ls}:∀{n id acc},(∀x∈acc,x∈ls)->(∀x∈(Kl ls n id acc).1,x∈ls)/\(Kl ls n id acc).1.length<=n+acc.length:=by
 intro n;induction n with
 | zero =>
   unfold Kl
   grind
 | succ n a =>
   intro id acc h;unfold Kl;cases b:E6 ls id with
   | none=>simp
   | some i =>
     grind
def QO{ls id}:(∀x∈(dB ls id).1,x∈ls)/\(dB ls id).1.length<=16:=by
 obtain⟨a,b⟩:=ahy (acc:=[]) Bz;exact⟨a,by unfold dB;simpa using b⟩
def NC{l}(a:Valid l) s:pW (l,s,())=aa ((mj l s).1,(mj l s).2,()):=by
 obtain⟨d,e⟩:=K6 s;obtain⟨v,f,g⟩:=oB l (fE a);unfold pW;rw[f,ab,g.2 a];rw[aV,ah,CH s,ab,QM s,d];unfold mj;by_cases b:(Ju s).2=0
 .rw[aN b];by_cases c:jf (Ju s).1=true
  .rw[aN ⟨b,c⟩,show nt _=false from rfl,ah,ab,Yr l _ (fE a) e,ab]
  .rw[aJ<|λq=>c q.2,V5 a c];rfl
 .rw[aJ b,aJ λq=>b q.1];rfl
def abZ(b:List Tx)(p:b.length<=1000000):yu (b,())=aa ((y9 b []).1,(y9 b []).2,()):=by
 unfold yu;have key:∀r t k,b=b.take k++r->k+r.length=b.length->Valid t->∃q,(Loop (iS (b,())) ((([]:List Nd),(0:Int),t,(k:Int),()),())=aa (1,(([]),(y9 r t).2,q),())/\(y9 r t).1=[]) \/
   ∃j l m,Loop (iS (b,())) ((([]:List Nd),(0:Int),t,(k:Int),()),())=aa (0,(j,l,(y9 r t).1,m),())/\(y9 r t).2=0:=by
  intro r;induction r with
  | nil =>
    intro t k n a e;rw[pM,Fm] at a;refine⟨((t,k,()):List Nd×Int×aj),.inr ⟨[],0,(k,()),?_,rfl⟩⟩;rw[aO];unfold iS;rw[a,aq];rfl
  | cons d r o =>
    intro t k n a e;rw[iE] at a;have hx:b[k]?=aa d:=by
     grind
    have step:iS (b,()) ((([]),0,t,k,()),())=aa (if(mj t d).2=0 then .inl ((([]),0,(mj t d).1,((k+1:Nat):Int),()),()) else .inr (1,(([]),(mj t d).2,t,k,()),())):=by
     unfold iS;dsimp only;rw[al ag,ai,ao hx,ab,NC e d,ab,az ag];by_cases c:(mj t d).2=0
     .rw[au c,aV,ah,aN c]
     .rw[ar c,aI,ai,aJ c]
    rw[aO,step];unfold y9;by_cases c:(mj t d).2=0
    .rw[aN c,aN c];have f:Valid (mj t d).1:=by
      rcases Ii e d with ⟨_,h,_⟩|⟨h,_⟩
      .exact h
      .grind
     exact o (mj t d).1 _ (by rw[wN,hx];simpa using n) ag f
    .grind
 obtain⟨q,⟨h,g⟩|⟨j,l,m,h,g⟩⟩:=key b [] 0 aS aS (AY Yk.1)
 .have i:Loop _ ((([]),(0:Int),([]),(0:Int),()),())=_:=h;rw[i,ab,g];rfl
 .have i:Loop (iS _) ((([]),0,([]),0,()),())=_:=h;rw[i,g];rfl
def ND(a:List cO)(b:List Tx)(id:Tx):Tx:=match E6 a id with|some i=>(b[i]?).getD []|none=>[]
def mN(a:List cO)(b:List Tx)(id:Tx):List Nd×Int :=
 if(dB a id).2=0 then y9 ((dB a id).1.reverse.map λx=>ND a b x.1) [] else([],(dB a id).2)
def A4(s:aW)(i:Nat):j7 (s,i,())=aa ((s.2.2.2.1[i]?).getD [],()):=by
 unfold j7;dsimp only;by_cases h:i<s.2.2.2.1.length
 .have hx:=fX h;rw[al h,ao hx,hx];rfl
 .have hx:s.2.2.2.1[i]?=none:=yH ag;rw[aC ef,hx];rfl
def A5(s:aW)(id:Tx)(g:s.2.2.1.length<=1000000):l9 (s,id,())=aa ((mN s.2.2.1 s.2.2.2.1 id).1,(mN s.2.2.1 s.2.2.2.1 id).2,()):=by
 obtain⟨h,Hb⟩:=QO;unfold l9 mN;rw[Dn _ id g,ab];by_cases b:(dB s.2.2.1 id).2=0
 .rw[au b,aV,ah,aN b];generalize (dB s.2.2.1 id).1=c at h Hb;generalize k:(c,_)=q;have d:q.1=c:=by rw[<-k]
  have key:∀n a,n<=c.length->a.length+n<=1000->∃z,Loop (mF (s,id,()) q) (((),n-1,()),a,())=aa (z,(a++(c.take n).reverse.map λx=>ND s.2.2.1 s.2.2.2.1 x.1,())):=by
   intro n;induction n with
   | zero =>
     intro a _ _;rw[aO];unfold mF;dsimp only;rw[cR ag,ah];simp[cl]
   | succ n l =>
     intro a hn m;obtain⟨x,e⟩:∃x,c[n]?=aa x:=⟨_,fX ag⟩;obtain⟨i,j⟩:=ahx.2 ⟨x,h x (dW e),rfl⟩;have hd:ND s.2.2.1 s.2.2.2.1 x.1=(s.2.2.2.1[i]?).getD []:=by unfold ND;rw[j]
     obtain⟨z,f⟩:=l (a++[ND s.2.2.1 s.2.2.2.1 x.1]) ag (by rw[jt];show _+1+n<=_;omega);refine⟨z,?_⟩;have step:mF (s,id,()) q (((),n,()),a,())=aa (.inl (((),n-1,()),a++[ND s.2.2.1 s.2.2.2.1 x.1],())):=by
      unfold mF;dsimp only;rw[ d,ao e,ab,E7 s x.1 g,ab];rw[show DO s.2.2.1 x.1=i by unfold DO;rw[j],A4 s i,ab,<-hd];rw[show fits _=true from aH (by show _+1<=_;omega),dv ag ag];rfl
     rw[show((n+1:Nat):Int)-1=n by omega,aO,step];refine TV f ?_;rw[wN,e];simp
  obtain⟨z,f⟩:=key c.length [] (bX _) cJ;have hlen:cH .i64 (len c) 1=c.length-1:=dv ef ef;rw[hlen,f,ab];rw[yI,JJ,abZ _ (by rw[yJ,PI];omega),ab]
 .rw[ar b,aI,ai,aJ b]
def CJ(s:Tx):Prop:=(Ju s).2=0/\jf (Ju s).1=true
section
variable {α:Type} (key:α->Tx)
def pL(l:List α)(x:α):List α:=l.takeWhile (λy=>fM (key y) (key x))++[x]++l.dropWhile (λy=>fM (key y) (key x))
def di(l:List α)(p:Tx):Nat:=(l.takeWhile λy=>fM (key y) p).length
def lF l p:di key l p<=l.length:=by
 unfold di;have:=congrArg List.length (BA (p:=λy=>fM (key y) p) (l:=l));rw[jt] at this;omega
def A6(l:List α) x:l.take (di key l<|key x)=l.takeWhile (λy=>fM (key y) (key x))/\l.drop (di key l<|key x)=l.dropWhile (λy=>fM (key y) (key x)):=by
 have e:=BA (p:=λy=>fM (key y) (key x)) (l:=l);refine⟨?_,?_⟩
 .unfold di
  conv=>lhs;rw[<-e]
  rw[List.take_left'];rw[e]
 .unfold di
  conv=>lhs;rw[<-e]
  rw[List.drop_left'];rw[e]
def tT l x (a:l.length<=1000000):tE l ((di key l (key x):Nat):Int) [x]=aa (pL key l x):=by
 have b:=lF key l (key x);unfold tE pL;rw[show inside 0 _ _=true from aL aD ag ef,aH cJ];rw[vM,(A6 key l x).1,(A6 key l x).2];rfl
def mm{S R f} l (p:Tx) (u:l.length<=1000000) (mk:Int->S) (c:Nat->R) fin
  (hs:∀(i:Nat) y,l[i]?=aa y->f (mk i)=aa (if fM (key y) p=true then .inl (mk ((i+1:Nat):Int)) else .inr (c i))) (o:f (mk (l.length:Int))=aa (.inr fin)) :
  Loop f (mk 0)=aa (if di key l p<l.length then c (di key l p) else fin):=by
 have d:∀k,k<=l.length->(∀j y,j<k->l[j]?=aa y->fM (key y) p=true)->(∀y,l[k]?=aa y->fM (key y) p=false)->di key l p=k:=by
  intro k q g m;have e:l.takeWhile (λy=>fM (key y) p)=l.take k:=by
   clear hs o
   revert k
   induction l with
   | nil=>simp
   | cons a r v =>
     intro k q g m;cases k with
     | zero=>rw[Y1,m a rfl];rfl
     | succ k =>
       rw[Y1,g 0 a ag rfl,aN rfl,Y2,v (by simp at u;omega) k (by simp at q;omega) (λj y s b=>g (j+1) y ag b) λy b=>m y b]
  unfold di;rw[e,dk];omega
 rcases eL l mk (λ_ y=>!fM _ p) _ fin ag (λi y b t z=>by
  rw[hs i y b];cases fM _ p<;>rfl) o with ⟨i,x,hx,w,s,h⟩|⟨hn,h⟩
 .have t:=av hx;have:=d i ag (λj y n b=>by simpa using s j y n b) (λy b=>by
   rw[hx] at b;obtain rfl:=aF b;simpa using w)
  rw[h,this,aN t]
 .have:=d l.length (bX _) (λj y _ b=>by simpa using hn j y b) (λy b=>by rw[yH<|bX _] at b;cases b);rw[h,aJ ag]
def QP l x:(pL key l x).Perm (x::l):=by
 have h:(l.takeWhile (λy=>fM (key y) (key x))++[x]++l.dropWhile λy=>fM (key y) (key x)).Perm (x::(l.takeWhile (λy=>fM (key y) (key x))++l.dropWhile λy=>fM (key y) (key x))):=by
  rw[vL];exact List.perm_middle
 rw[(BA (p:=λy=>fM (key y) (key x)) (l:=l))] at h;exact h
def xP{l x y}:y∈pL key l x↔y=x\/y∈l:=by rw[(QP key l x).mem_iff,fI]
def vi l x:(pL key l x).length=l.length+1:=by rw[(QP key l x).length_eq,iE]
def Yw(l:List α)(p:Tx):List α:=l.filter λx=>decide (key x≠p)
def ahz{l p x}:x∈Yw key l p↔x∈l/\key x≠p:=by unfold Yw;rw[zg,TI]
def K7 l p:(Yw key l p).Sublist l:=List.filter_sublist
def afj{l p}(h:∀x∈l,key x≠p):Yw key l p=l:=by
 unfold Yw;rw[Ld];intro x a;exact dn (h x a)
end
abbrev nR:=Int×Tx×Int×Tx×aj
def js(e:Int):nR:=(e,[],0,[],())
def Ed(id:Tx):nR:=(0,id,0,[],())
def x7(s:aW):List Nm:=s.2.1.flatMap ofI
def iA(s:aW):List Nm:=s.2.2.1.flatMap ofL
def Dp(s:aW):List Nm:=s.1.flatMap ofB
structure qf (s:aW):Prop where
 ll:s.2.2.1.length<=60
 il:s.2.1.length<=60
 bl:s.1.length<=60
 ln:∀x∈s.2.2.1,pK x.2.2.1
 rQ:∀x∈s.2.1,pK x.2.1
 bn:∀x∈s.1,pK x.2.1
 it:∀x∈s.2.1,xF x.2.2.2.2.1
def qf.ab0{s}(h:qf s):X0 (0,s.2.2.1,[],[],()):=⟨h.ll,h.ln,aS,λx a=>(by cases a),aS,λx a=>(by cases a)⟩
def qf.ajr{s}(h:qf s):X0 (0,[],s.2.1,[],()):=⟨aS,λx a=>(by cases a),h.il,h.rQ,aS,λx a=>(by cases a)⟩
def qf.ajs{s}(h:qf s):X0 (0,[],[],s.1,()):=⟨aS,λx a=>(by cases a),aS,λx a=>(by cases a),h.bl,h.bn⟩
def Dq{s}(h:qf s):Small (iA s):=Dj 3 _ h.ab0
def Dr{s}(h:qf s):Small (x7 s):=Dj 2 _ h.ajr
def K8{s}(h:qf s):(iA s).length<=60:=gi (lM KX _) h.ll
def S1{s}(h:qf s):(x7 s).length<=60:=gi (lM GH _) h.il
def zV s (h:qf s):lr (s,())=aa (iA s,()):=by
 unfold lr;rw[wu 3 _ h.ab0];rfl
def zW s (h:qf s):gv (s,())=aa (x7 s,()):=by
 unfold gv;rw[wu 2 _ h.ajr];rfl
def jQ s (ref:Tx) (h:qf s):eG (s,ref,())=aa (aR (iA s) ref):=by
 unfold eG;rw[zV s h,ab,mM _ _ (Dq h) (by have:=K8 h;omega),ab]
def Bm s (ref:Tx) (h:qf s):mX (s,ref,())=aa (aR (x7 s) ref):=by
 unfold mX;rw[zW s h,ab,mM _ _ (Dr h) (by have:=S1 h;omega),ab]
def rL(l:List Tx)(h:l.length<=4294967296):aX (l,())=aa (l,()):=xw l h
def rM(l:List Item)(h:l.length<=4294967296):bN (l,())=aa (l,()):=by
 unfold bN;rw[cY h];rfl
def CK(s:aW)(x:lC)(l:s.2.1.length<=1000000)(v:x.2.1.length<=4294967296)(e:x.2.2.2.2.1.length<=4294967296)(g:∀y∈s.2.1,y.1≠x.1) :
  gp (s,x,())=aa ((s.1,(pL (·.1) s.2.1 x,s.2.2)),()):=by
 obtain⟨w,b,c⟩:=s;obtain⟨a,m,n,o,p,u⟩:=x;dsimp only at l v e g;unfold gp;dsimp only;rw[rL _ v,ab,rM _ e,ab];unfold dO;rw[ab,cY ag,ai];have r:Loop (eO ((w,b,c),(a,m,n,o,p,u),())) ((0,0,()),(),a,())=aa (0,(0,len b,()),(),a,()):=by
  rcases eL (f:=eO ((w,b,c),_)) b (λi=>((0,i,()),(),a,())) (λ_ y=>decide (y.1=a)) (λi _=>(1,(i,i,()),(),a,())) _ ag (λi y j e A=>by
   unfold eO dO;rw[al e,ai,ao j,ab,ab,dt,dw,A];by_cases q:y.1=a<;>simp[q]) (by unfold eO;rw[aq];rfl) with ⟨i,y,j,B,_,_⟩|⟨_,h⟩
  .grind
  .exact h
 rw[r,ab];rw[cV,ai,show cw 0 (-1)=false from rfl,ah,ab];have k:=mm (f:=qv (((),()),b,())) _ b a l (λi=>((0,i,()),(),(a,m,n,o,p,u),())) _
  _ (λi y j=>by
   have e:=av j;unfold qv dO;dsimp only;rw[al e,aE ag ef,ao j,ab,ab,ab,az ag];cases fM y.1 a<;>rfl) (by unfold qv;rw[aq,ah])
 rw[k,ab];have d:=tT (·.1) b ((a,m,n,o,p,u):lC) l;unfold bQ;by_cases z:di (λy=>y.1) b a<b.length
 .rw[aN z];dsimp only;rw[show cK 1 0=false from rfl,ah,aC ag,ah];rw[show tE b _ [((a,_):lC)]=_ from d,ab]
 .rw[aJ z];have t:di (λy=>y.1) b a=b.length:=by have:=lF (λy=>y.1) b a;omega
  rw[cV,ai,aT aD,ai];rw[bw,<-t,show tE b _ [((a,_):lC)]=_ from d,ab]
def crI(s:aW)(b:Tx)(a:List Tx)(c:Tx)(d:Int):aW×nR×aj :=
 if eT a≠0\/64<c.length then(s,js 1,()) else
 if b≠[]/\(aR (iA s) b).2.1≠0 then(s,js (aR (iA s) b).2.1,()) else
 if pD (x7 s) [] a≠0 then(s,js<|pD (x7 s) [] a,()) else
 if(dE (x7 s) d).2.1≠0 then(s,js (dE (x7 s) d).2.1,()) else
 ((s.1,(pL (·.1) s.2.1 ((dE (x7 s) d).1,a,(if b=[] then [] else(aR (iA s) b).1),c,[],()),s.2.2)),Ed (dE (x7 s) d).1,())
def Z4{s x}(a:x∈s.2.1):((x.1,x.2.1,()):Nm)∈x7 s:=by
 unfold x7;rw[Rf];exact⟨x,a,by exact DD.2 rfl⟩
def GX s (top:Tx) (given:List Tx) (a:Tx) d (h:qf s) (l:given.length<=4294967296) (o:s.2.1.length<=1000000) :
  qx (s,top,given,a,d,())=aa (crI s top given a d):=by
 unfold qx crI;have m:aU 64 (@len UInt8 a)=decide (64<a.length):=by unfold len;apply gO.2;omega
 rw[vb given l,ab,m];by_cases e:eT given=0
 rotate_left
 .rw[aN<|.inl e,ar e];rfl
 by_cases i:64<a.length
 .rw[aN<|.inr i,au e,dn i];rfl
 rw[aJ<|by rintro(q|q);exact q e;exact i q,au e,cm i,aV,aI,ai,ah,dt];have rest:∀t,(ae (ak (aG 0 0) (ae (gv (s,())) λj=>ae (hY (j.1,([]),given,())) λb=>aa ((b.1,()),()))<|some ((0,()),())) λj=>ae (ak (aG j.1.1 0)
   (ae (gv (s,())) λb=>ae (iO (b.1,d,())) λc=>aa ((c.2.1,()),(c.1,((given,t,a,([]),()):List Tx×Tx×Tx×List Item×aj)),()))
   (aa ((j.1.1,()),(([]),given,t,a,([]),()),()))) λb=>ak (nt<|aG b.1.1 0)
   (ae (iN (b.1.1,())) λc=>aa (s,c.1,()))
   (ae (gp (s,b.2.1,())) λc=>aa (c.1,(0,b.2.1.1,0,([]),()),()))) =
   aa (if pD (x7 s) [] given≠0 then(s,js<|pD (x7 s) [] given,()) else
    if(dE (x7 s) d).2.1≠0 then(s,js (dE (x7 s) d).2.1,()) else
    ((s.1,(pL (·.1) s.2.1 ((dE (x7 s) d).1,given,t,a,[],()),s.2.2)),Ed (dE (x7 s) d).1,())):=by
  intro t;rw[show aG 0 0=true from rfl,ai,zW s h,ab];rw[(sW _ [] given (Dr h) l),ab,ab];by_cases f:pD (x7 s) [] given=0
  rotate_left
  .rw[aN f,ar f,ah,ab];rw[ar f];rfl
  rw[aJ<|λq=>q f,au f,ai,ab];rw[(H8 _ d),ab,ab];by_cases g:(dE (x7 s) d).2.1=0
  rotate_left
  .rw[aN g,ar g];rfl
  rw[aJ<|λq=>q g,au g];obtain⟨_,_,n⟩:=Cr g;rw[CK s _ o l aS λy p=>n _ (Z4 p)];rfl
 by_cases c3:top=[]
 .rw[dn c3,aV,ah,ab];simp_all
 .rw[cm c3,aI,ai,jQ s top h,ab,ab];by_cases k:(aR (iA s) top).2.1=0
  .simp_all
  .rw[aN ⟨c3,k⟩,ar k,ah,ab];rw[ar k,ah,ab];rw[ar k];rfl
def S2(s p:Tx):xn (s,p,())=aa (decide<|s.take p.length=p,()):=EZ s p
def V6(f:List Tx):Tx:=(f.getLast?).getD []
def Yx f a:V6 (f++[a])=a:=by simp[V6]
def Pq(c:Tx) f (d:¬c=[]) (e:¬6<=c.length) :
  ak (aU 1 (f.length:Int)) (aa (([]:Tx),9,())) (ak (aG (f.length:Int) 0) (aa (([]:Tx),3,()))<|some (V6 f,0,()))=aa (pv c f):=by
 unfold pv;rw[aJ<|by rintro(h|h);exact d h;exact e h]
 match f with
 | []=>rfl
 | [a]=>rfl
 | a::b::r =>
   have:aU 1 ((a::b::r).length:Int)=true:=aT cJ;rw[this];rfl
def oD l (ref:Tx) (q:Small l) (A:l.length<=1000000):j8 (l,ref,())=aa (aR l ref):=by
 unfold j8;have inner:∀(i:Nat) x,l[i]?=aa x ->
   (ref∈x.2.1/\∃k,Loop (jO (l,ref,()) ((([]:Tx),(0:Int),(i:Int),()),())) ((([]:Tx),(0:Int),(0:Int),()),())=aa (1,(x.1,0,k,()),())) \/
   (¬ref∈x.2.1/\Loop (jO (l,ref,()) ((([]:Tx),(0:Int),(i:Int),()),())) ((([]),0,0,()),())=aa (0,([],0,(x.2.1.length:Int),()),())):=by
  intro i x b;have ye:=q.2 x (dW b);rcases eL (f:=jO (l,ref,()) ((([]),0,i,()),())) x.2.1 (λk=>((([]),0,k,()),())) (λ_ n=>decide (n=ref)) (λk n=>(1,(x.1,0,k,()),())) _ ag (λk n hn d m=>by
   unfold jO;rw[ao b,ab,al d,ai,ab,ao hn,ab,ab,dw,m];by_cases h:n=ref<;>simp[br,h]) (by unfold jO;rw[ao b,ab,aq,ah]) with ⟨k,n,hn,o,t,h⟩|⟨hn,h⟩
  .exact .inl ⟨by rw[<-fU o];exact dW hn,_,h⟩
  .refine .inr ⟨λB=>?_,h⟩;obtain⟨k,d⟩:=bq.1 B;have:=hn k ref d;simp at this
 rcases eL (f:=qG (l,ref,())) l (λi=>((([]:Tx),(0:Int),i,()),())) (λ_ x=>decide (x.1=ref)) (λi x=>(1,(ref,0,i,()),())) _ q.1 (λi x b c m=>by
  unfold qG;rw[al c,ai,ao b,ab,dw,m];by_cases h:x.1=ref<;>simp[br,h]) (by unfold qG;rw[aq,ah]) with ⟨i,x,b,o,t,h⟩|⟨hn,h⟩
 .rw[h,ab];rw[show cK 1 0=false from rfl,ah];unfold aR;rw[aN ⟨x,dW b,fU o⟩]
 .rw[h,ab];rw[show cK 0 0=true from rfl,ai];have u:¬∃x∈l,x.1=ref:=by
   rintro⟨x,b,C⟩;obtain⟨i,c⟩:=bq.1 b;have:=hn i x c;simp[C] at this
  unfold aR;rw[aJ u];rcases eL (f:=qH (l,_)) l (λi=>((([]),0,i,()),())) (λ_ x=>decide _) (λi x=>(1,(x.1,0,_),())) _ q.1 (λi x b c m=>by
   unfold qH;rw[al c,m];rcases inner i x b with ⟨h,k,d⟩|⟨h,d⟩
   .rw[d,dn h];rfl
   .rw[d,cm h];rfl) (by unfold qH;rw[aq,ah]) with ⟨i,x,b,o,t,h⟩|⟨hn,h⟩
  .rw[h,ab];rw[show cK 1 0=false from rfl,ah];have:l.find? (λx=>decide (ref∈x.2.1))=aa x:=by
    rw[aau];refine⟨o,i,av b,?_,λj v=>?_⟩
    .have:=fX (av b);rw[b] at this;exact(aF this).symm
    .have D:=av b;have:=t j l[j] v (fX ag);simpa using this
   rw[this]
  .rw[h,ab];have:l.find? (λx=>decide (ref∈x.2.1))=none:=by
    rw[Tu];intro x b;obtain⟨i,c⟩:=bq.1 b;have:=hn i x c;simpa using this
   rw[this];by_cases s:ref=[]\/6<=ref.length
   .have w:Loop (gU (l,ref,())) (((0:Int),([]:Tx),(0:Int),()),())=aa ((0,([]),0,()),()):=by
     rw[aO];unfold gU;have e:ak (ak (aU 0<|len l) (cw 1<|len ref) false) (cw (len ref) 5) false=false:=by
      rcases s with h|h
      .subst h;cases aU 0 _<;>rfl
      .rw[cR (a:=len ref) ef];cases ak (aU 0 _) _ false<;>rfl
     rw[e];rfl
    rw[w];unfold pv;rw[aN s];rfl
   .have y:=λh=>s (.inl h);have z:1<=ref.length:=by
     cases ref with
     | nil=>exact absurd rfl y
     | cons a r=>simp
    have w:Loop (gU (l,ref,())) ((0,([]),0,()),())=aa ((((M4 l ref).length:Int),V6<|M4 l ref,(l.length:Int),()),()):=by
     have key:=hM (f:=gU (l,ref,())) l (λp i=>((p.length,V6 p,i,()),())) (GO ref) _ q.1 (λi x b c m=>by
      have E:((l.take i).flatMap<|GO ref).length<=l.length:=by
       have:=eY (g:=GO ref) (λx=>by unfold GO;split<;>simp) l i;omega
      unfold gU;dsimp only;rw[al c,bA ef,bA ef,ao b,ab,S2,m,az ag];unfold GO;by_cases h:x.1.take ref.length=ref
      .rw[dn h,aN h,Yx,jt];rfl
      .rw[cm h,aJ h,vl];rfl) (by
      unfold gU;rw[aq];rfl)
     exact key
    rw[w];exact Pq ref _ y (λh=>s (.inr h))
def ab1{b:Type}{f:(Bool×Int×aj)×aj->Option (((Bool×Int×aj)×aj)⊕(Nat×(Bool×Int×aj)×aj))}(l:List b)(e:l.length<=1000000)
  (c:∀i x,l[i]?=aa x->x∈l->i<l.length->f ((false,i,()),())=aa (.inl ((false,aw .i64 i 1,()),()))) (d:f ((false,(l.length:Int),()),())=aa (.inr (0,(false,(l.length:Int),()),()))) :
  Loop f ((false,0,()),())=aa (0,(false,(l.length:Int),()),()) :=
 cB l.length (λj=>((false,(j:Int),()),())) (λj a=>by
  rw[c j l[j] (fX a) (ac7 a) a,az ag]) d
def Pr{ref f}(h:(pv ref f).2.1=0):(pv ref f).1∈f:=by
 unfold pv at h⊢;split at h
 .cases h
 .rename_i b;rw[aJ b]
  match f,h with
  | [a],_=>simp
def QQ{l ref}(h:(aR l ref).2.1=0):∃x∈l,x.1=(aR l ref).1:=by
 unfold aR at h⊢;by_cases b:∃x∈l,x.1=ref
 .rw[aN b];exact b
 .rw[aJ b] at h⊢;cases c:l.find? _ with
  | some x=>exact⟨x,TA c,rfl⟩
  | none =>
    rw[c] at h;have:=Pr h;unfold M4 at this⊢;rw[Rf] at this;obtain⟨x,d,a⟩:=this;refine⟨x,d,?_⟩;unfold GO at a;split at a
    .rw[DD] at a;exact a.symm
    .cases a
def Z5{s y}(h:y∈x7 s):∃x∈s.2.1,y=(x.1,x.2.1,()):=by
 unfold x7 at h;rw[Rf] at h;obtain⟨x,b,a⟩:=h;unfold ofI at a;rw[DD] at a;exact⟨x,b,a⟩
def Z6{s y}(h:y∈iA s):∃x∈s.2.2.1,y=(x.1,x.2.2.1,()):=by
 unfold iA at h;rw[Rf] at h;obtain⟨x,b,a⟩:=h;unfold ofL at a;split at a
 .rw[DD] at a;exact⟨x,b,a⟩
 .cases a
def afk{l it x}:x∈Ia l it↔x=it\/x∈l:=by
 unfold Ia;have e:=BA (p:=λy=>fM y.1 it.1) (l:=l);rw[Oi,Oi,DD];constructor
 .rintro((hx|hx)|hx)
  .exact .inr (by rw[<-e];exact zd _ hx)
  .exact .inl hx
  .exact .inr (by rw[<-e];exact Ad _ hx)
 .rintro(hx|hx)
  .exact .inl (.inr hx)
  .rw[<-e,Oi] at hx;rcases hx with hx|hx
   .exact .inl (.inl hx)
   .exact .inr hx
def afl l it:(Ia l it).length=l.length+1:=by
 unfold Ia;have:=congrArg List.length (BA (p:=λy=>fM y.1 it.1) (l:=l));rw[jt] at this;rw[jt,jt,Ra];omega
end Go.Ge
namespace Go.Ge
variable [Lp]
def Yy:∀(r:List Tx) t,Valid t->(y9 r t).2=0->Valid (y9 r t).1:=by
 intro r;induction r with
 | nil=>intro t h _;exact h
 | cons s r b =>
   intro t h a;unfold y9 at a⊢;by_cases c:(mj t s).2=0
   .rw[aN c] at a⊢;rcases Ii h s with ⟨_,v,_⟩|⟨v,_⟩
    .exact b _ v a
    .exact absurd c v
   .rw[aJ c] at a⊢;exact absurd a c
def afm{ls ds id}(h:(mN ls ds id).2=0):(dB ls id).2=0/\mN ls ds id=y9 ((dB ls id).1.reverse.map λx=>ND ls ds x.1) []:=by
 unfold mN at h⊢;by_cases c:(dB ls id).2=0
 .rw[aN c];exact⟨c,rfl⟩
 .rw[aJ c] at h;exact absurd h c
def QR:Valid []:=AY Yk.1
def tr{a:Type}(l:List a)(k:Nat)(x:a):List a:=l.take k++[x]++l.drop k
def ahA{α}(l:List α) k x (a:k<=l.length) (b:l.length<=1000000):tE l k [x]=aa (tr l k x):=by
 unfold tE tr;rw[show inside 0 k _=true from aL aD ag ef,aH cJ];rfl
def GY{b S:Type}{f}(l:List b)(p:b->Bool)(a:Int×Int×aj->S)(j:l.length<=1000000)
  (c:∀i y,l[i]?=aa y->i<l.length->f (a (0,i,()))=aa (if p y=true then .inr (1,a (i,i,())) else .inl (a (0,aw .i64 i 1,()))))
  (d:f (a (0,(l.length:Int),()))=aa (.inr (0,a (0,(l.length:Int),())))) :
  (∃(i:Nat) (y:b),l[i]?=aa y/\p y=true/\Loop f (a (0,0,()))=aa (1,a (i,i,())))\/((∀y∈l,p y=false)/\Loop f (a (0,0,()))=aa (0,a (0,(l.length:Int),()))):=by
 rcases eL l (λi=>a (0,i,())) _ _ _ ag (λi y hy hi e=>by rw[c i y hy hi,e]) d with ⟨i,y,hy,g,_,h⟩|⟨hn,h⟩
 .exact .inl ⟨i,y,hy,g,h⟩
 .refine .inr ⟨λy hy=>?_,h⟩;obtain⟨i,hi⟩:=bq.1 hy;exact hn i y hi
def Ee(s:aW)(id:Tx):Bool:=s.2.2.1.any (λx=>decide (x.2.1=id))||s.2.1.any (λx=>decide (x.2.2.1=id))||s.1.any (λx=>decide (x.2.2.2.1=id))
def V7{a:Type}{l:List a}{p}{i:Nat}{y}(b:l[i]?=aa y)(c:p y=true):l.any p=true:=Tv.2 ⟨y,dW b,c⟩
def V8{b:Type}{l:List b}{p}(h:∀y∈l,p y=false):l.any p=false:=by
 cases q:l.any p with
 | false=>rfl
 | true=>obtain⟨y,c,a⟩:=Tv.1 q;rw[h y c] at a;cases a
def cutAt{a:Type}(l:List a)(i:Nat):List a:=l.take i++l.drop (i+1)
def E8{ls ds id}(h:(mN ls ds id).2=0):Valid (mN ls ds id).1:=by
 obtain⟨_,t⟩:=afm h;rw[t] at h⊢;exact Yy _ _ QR h
def QS{α}(l:List α) i:∀x∈cutAt l i,x∈l:=λx a=>by
 unfold cutAt at a;rw[Oi] at a;exact a.elim DC PH
def zX{α}(l:List α) i:(cutAt l i).length<=l.length:=by
 unfold cutAt;rw[jt,dk,qU];omega
def Ds{α}(l:List α) i (hi:i<l.length) (a:l.length<=1000000):J5 l i (aw .i64 i 1)=aa (cutAt l i):=by
 unfold J5 cutAt;rw[az ag,aL ag ag ef,wP,vM,vM]
def xQ(n:Nat)(a:List Tx):List Tx:=a.take n++List.replicate (n-a.length) []
def qg n ds:(xQ n ds).length=n:=by
 unfold xQ
 grind
def S3{n i ds}(h:i<n):(xQ n ds)[i]?=aa ((ds[i]?).getD []):=by
 unfold xQ
 grind
def Ij(s:aW)(a:s.2.2.1.length<=1000000):mZ (s,())=aa (xQ s.2.2.1.length s.2.2.2.1,()):=by
 unfold mZ;dsimp only;rw[aL aD ef<|tc _,ai,cY ag,ai];unfold over lP len mo xQ
 grind
def Jv(s:aW)(x:cO)(d:Tx):aW:=(s.1,(s.2.1,(pL (·.1) s.2.2.1 x,tr (xQ s.2.2.1.length s.2.2.2.1) (di (λy:cO=>y.1) s.2.2.1 x.1) d,s.2.2.2.2)))
def afn(s:aW)(x:cO)(d:Tx)(r:s.2.2.1.length<=100000):sA (s,x,d,())=aa (Jv s x d,()):=by
 obtain⟨n,o,a,j,p⟩:=s;dsimp only at r;have l:=lF (λy=>y.1) a x.1;unfold sA;have b:=mm (f:=qD ((n,o,a,j,p),x,d,())) _ a x.1 ag (λi=>((0,i,()),x,())) _
  _ (λi y q=>by
   have hi:=av q;unfold qD;rw[al hi,ao q,ab,az ag];cases fM y.1 x.1<;>rfl) (by unfold qD;rw[aq,ah])
 rw[b,ab];have c:=Ij (n,o,a,j,p) xZ;have e:∀k,k<=a.length->kO (xQ a.length j,k,d,())=aa _:=λk l=>by
  unfold kO;rw[ cY (by rw[qg];omega),ai];unfold gw;rw[ahA _ k d (by rw[qg];omega)<|by rw[qg];omega,ab]
 have g:ib (a,((di (λy=>y.1) a x.1:Nat):Int),x,())=aa (pL (λy=>y.1) a x,()):=by
  unfold ib;dsimp only;rw[cY ag,ai];unfold eH;rw[show tE a _ [x]=_ from tT _ a x ag,ab]
 by_cases h:di (λy=>y.1) a x.1<a.length
 .rw[aN h];rw[show cK 1 0=false from rfl,ah,ab];dsimp only;rw[c,ab,aC ag,ah];rw[e _ l,g];rfl
 .rw[aJ h];have m:di (λy=>y.1) a x.1=a.length:=ag;rw[cV,ai,ab];dsimp only;rw[c,ab,aT aD,ai];rw[show @len _ a=((di _ a x.1):Int) from by rw[m];rfl,e _ l,g];rfl
def afo:yW ()=aa (WI 1024,()):=VI 1024 aD
def NF(a:List cO)(d:Tx)(p:a.length<=1000000)(m:∀x∈a,x.2.2.1.length<=4294967296)(b:List cO) r2 (id:Tx) (acc:List cO) (r:acc.length<=16) :
  ∃i,Loop (lv (a,d,())) ((b,r2,(),id,0,()),acc,())=aa (match E6 a id with
   | none=>(0,(b,r2,(),id,i,()),acc,())
   | some k=>match a[k]? with
     | none=>(0,(b,r2,(),id,i,()),acc,())
     | some x=>if acc.length=16 then(1,([],5,(),id,i,()),acc,()) else if x.2.1=[] then(2,(b,r2,(),id,i,()),acc++[x],()) else(3,(b,r2,(),x.2.1,i,()),acc++[x],())):=by
 rcases eL (f:=lv (a,d,())) a (λi=>((b,r2,(),id,i,()),acc,())) (λ_ x=>decide _)
  (λi x=>if acc.length=16 then _ else if x.2.1=[] then(2,(b,_),acc++[x],()) else(3,(b,_),acc++[x],()))
  _ ag (λi x e n g=>by
   unfold lv;rw[al n,ai,ao e,ab,dt,g];by_cases q:x.1=id
   .rw[dn q,aV,ah,aN rfl,rL _ (m x<|dW e),ab];have j:aG (@len cO acc) 16=decide (acc.length=16):=by unfold len;apply gO.2;omega
    rw[j];by_cases Hb:acc.length=16
    .rw[dn Hb,ai,aN Hb]
    .rw[cm Hb,aJ Hb];rw[show fits (plus (@len cO acc) _)=true from aH (by show _+1<=_;omega),dt];by_cases c:x.2.1=[]
     .rw[dn c,aN c];rfl
     .rw[cm c,aJ c];rfl
   .rw[cm q];rfl) (by unfold lv;rw[aq,ah]) with ⟨i,x,e,c,o,h⟩|⟨l,h⟩
 .refine⟨i,?_⟩;rw[CI e (fU c) o]
  grind
 .refine⟨a.length,?_⟩;rw[NA l];exact h
def V9{ls id}(h:E6 ls id=af) n acc:Kl ls n id acc=([],3):=by
 unfold Kl;rw[h]
def ahB{ls id k}(h:E6 ls id=aa k) acc:Kl ls 0 id acc=([],5):=by
 unfold Kl;rw[h]
def ajt{ls id k x}(h:E6 ls id=aa k)(a:ls[k]?=aa x) n acc :
  Kl ls (n+1) id acc=if x.2.1=[] then(acc++[x],0) else Kl ls n x.2.1 (acc++[x]):=by
 conv=>lhs;unfold Kl
 grind
def Jw(a:List cO)(b:Tx)(l:a.length<=1000000)(m:∀x∈a,x.2.2.1.length<=4294967296):∀n (id:Tx) (acc:List cO),n+acc.length=16 ->
  ∃f g h,Loop (pe (a,b,())) ((([]:List cO),0,(),id,()),acc,()) =
   aa (if(Kl a n id acc).2=0 then(1,f,(Kl a n id acc).1,()) else(0,((Kl a n id acc).1,(Kl a n id acc).2,g),h)):=by
 intro n;induction n with
 | zero =>
   intro id acc o;rw[aO];unfold pe;obtain⟨i,j⟩:=NF a b l m [] 0 id acc ag;rw[j,ab];cases c:E6 a id with
   | none =>
     rw[V9 c];exact⟨(([]:List cO),(0:Int),(),id,()),_,_,rfl⟩
   | some k =>
     obtain⟨x,d,_⟩:=A3 c;rw[ahB c];dsimp only;rw[d];dsimp only;rw[aN ag];exact⟨(([]),0,(),id,()),_,_,rfl⟩
 | succ n p =>
   intro id acc o;rw[aO];unfold pe;obtain⟨i,j⟩:=NF a b l m [] 0 id acc ag;rw[j];cases c:E6 a id with
   | none =>
     rw[V9 c];exact⟨(([]),0,(),id,()),_,_,rfl⟩
   | some k =>
     obtain⟨x,d,_⟩:=A3 c;rw[ajt c d];dsimp only;rw[d];dsimp only;rw[aJ ag];by_cases e:x.2.1=[]
     .rw[aN e,aN e];exact⟨_,((),([]),()),(acc,()),rfl⟩
     .rw[aJ e,aJ e];obtain⟨f,g,h,q⟩:=p x.2.1 (acc++[x]) (by rw[jt];show n+(_+1)=16;omega);exact⟨f,g,h,q⟩
def Yz(a:List cO)(id:Tx)(b:a.length<=1000000)(d:∀x∈a,x.2.2.1.length<=4294967296):uD (a,id,())=aa ((dB a id).1,(dB a id).2,()):=by
 unfold uD;obtain⟨e,f,g,h⟩:=Jw a id b d 16 id [] rfl;rw[h];unfold dB;by_cases c:(Kl a 16 id []).2=0
 .rw[ c];rfl
 .rw[aJ c];rfl
def ab2{α}(b:α->Tx) l p:(∀j y,j<di b l p->l[j]?=aa y->fM (b y) p=true)/\(∀y,l[di b l p]?=aa y->fM (b y) p=false):=by
 induction l with
 | nil=>exact⟨λj y _ h=>by simp at h,λy h=>by simp at h⟩
 | cons a r d =>
   unfold di at d⊢;rw[Y1];cases h:fM _ p with
   | true =>
     rw[aN rfl,iE];refine⟨λj y e c=>?_,λy c=>d.2 y c⟩;cases j with
     | zero=>obtain rfl:=aF c;exact h
     | succ j=>exact d.1 j y ag c
   | false =>
     refine⟨λj y e c=>absurd e aS,λy c=>?_⟩;simp at c;rw[<-c];exact h
def lN{a:Type}(l:List a)(k:Nat)(x:a)(i:Nat):List a:=if i<=k then l.take i else tr (l.take i) k x
def GZ{α}{l:List α}{k x i y}(h:i<k)(a:l[i]?=aa y):lN l k x i++[y]=lN l k x (i+1):=by
 unfold lN;rw[aN ag,aN ag,wN,a];rfl
def Wa{α}{l:List α}{k x y}(a:l[k]?=aa y):lN l k x k++[x]++[y]=lN l k x (k+1):=by
 have b:=av a;unfold lN tr;rw[aN<|bX _,aJ ag,Oj,wO ag,wN,a,aav (by rw[dk];omega),Fj (by rw[dk];omega)];rfl
def Jx{α}{l:List α}{k x i y}(h:k<i)(a:l[i]?=aa y):lN l k x i++[y]=lN l k x (i+1):=by
 have b:=av a;unfold lN tr;rw[aJ ag,aJ ag,Oj,Oj,wO ag,wO ag,wN,a,aav (by rw[dk];omega)];simp
def QU{α}{l:List α}{k x}(h:k<l.length):lN l k x l.length=tr l k x:=by
 unfold lN;rw[aJ ag,yI]
def NG{α}{l:List α}{x}:lN l l.length x l.length++[x]=tr l l.length x:=by
 unfold lN tr;rw[aN<|bX _,Tw,vl]
def Dt{α}{l:List α}{k x i}:(lN l k x i).length<=l.length+1:=by
 unfold lN tr;split
 .rw[dk];omega
 .simp;omega
def NH{α}{l:List α}{k x}:lN l k x 0=[]:=by unfold lN;rw[aN ag,ade]
def K9{α}(key:α->Tx) l x:pL key l x=tr l (di key l<|key x) x:=by
 unfold pL tr;rw[(A6 key l x).1,(A6 key l x).2]
set_option maxRecDepth 20000 in
def S4(s:aW)(x:cO)(d:Tx)(r:s.2.2.1.length<=100000):sB (s,x,d,())=aa (Jv s x d,()):=by
 obtain⟨t,u,a,b,v⟩:=s;dsimp only at r;have w:=lF (λy=>y.1) a x.1;have c:=ab2 (λy=>y.1) a x.1;unfold Jv;rw[K9];generalize A:di _ a x.1=k at w c;have o:=qg a.length b;have key:=cB (f:=qI ((t,u,a,b,v),x,d,())) a.length
  (λi=>(((),(),decide<|k<i,i,()),lN _ k d i,lN a k x i,())) (λi g=>by
   have hx:=fX g;have e:=S3 (ds:=b) g;have p:∀j,(lN a k x j).length<=100001:=λj=>gi Dt ag;have q:∀j,(lN (xQ a.length b) k d j).length<=100001:=λj=>gi Dt ag;have m:∀y,fits (plus (@len cO<|lN a k x i)<|@len cO [y])=true:=λy=>aH (by have:=p i;simp;omega);have n:∀y,fits (plus (@len Tx<|lN (xQ a.length b) k d i)<|@len Tx [y])=true:=λy=>aH (by have:=q i;simp;omega);have B:∀y z,fits (plus (@len cO<|lN a k x i++[y])<|@len cO [z])=true:=λy z=>aH (by have:=p i;simp;omega);have C:∀y z,fits (plus (@len Tx<|lN (xQ a.length b) k d i++[y])<|@len Tx [z])=true:=λy z=>aH (by have:=q i;simp;omega);unfold qI;rw[al g,ai,az ag,A4,ao hx];rcases Ll i k with h|h|h
   .rw[cm ag,cm ag,ab,c.1 i _ h hx,aV,ah,ab,ab];rw[m,ab,n,<-GZ h hx,<-GZ h e];rfl
   .subst h;rw[cm ag,dn ag,aI,ai,ab,c.2 _ hx,aI,ai,m,ai,n,ai,ab,ab];rw[show fits (plus (@len cO<|app _ [x]) _)=true from B _ _,ab,show fits (plus (@len Tx<|app _ [d]) _)=true from C _ _,<-Wa hx,<-Wa e];rfl
   .rw[dn h,dn ag,aV,ah,ab,m,ab,n,<-Jx h hx,<-Jx h e];rfl) (by
   unfold qI;rw[aq];rfl)
 unfold sB;rw[show decide _=false from cm ag,NH,NH] at key;rw[show((((),(),false,0,()),_):_×List Tx×List cO×aj)=(((),(),false,((0:Nat):Int),()),_) from rfl,key,ab];by_cases h:k<a.length
 .rw[dn h,aV,ah,ab,QU h];rw[show lN _ k d a.length=tr _ k d from by
   have:=QU (l:=xQ a.length b) (k:=k) (x:=d) ag;rw[o] at this;exact this]
 .obtain rfl:k=a.length:=ag;rw[cm h,aI,ai,show fits _=true from aH (by have:=Dt (l:=a) (k:=a.length) (x:=x) (i:=a.length);simp;omega),ai,
   show fits _=true from aH (by have:=Dt (l:=xQ a.length b) (k:=a.length) (x:=d) (i:=a.length);simp;omega),ai,ab]
  rw[show app _ [x]=tr a a.length x from NG,show app _ [d]=tr _ a.length d from by
   have:=NG (l:=xQ a.length b) (x:=d);rw[o] at this;exact this]
def aju(id a:Tx)(b:List Tx):cO:=(id,a,b,SJ<|WI 1024,1024,0,true,())
def jB(s:aW)(a:Tx):Tx:=if a=[] then [] else(aR (iA s) a).1
def crG(s:aW)(b:Tx)(a:List Tx)(d:Int):aW×nR×aj :=
 if eT a≠0 then(s,js<|eT a,()) else
 if b≠[]/\(aR (iA s) b).2.1≠0 then(s,js (aR (iA s) b).2.1,()) else
 if pD (iA s) [] a≠0 then(s,js<|pD (iA s) [] a,()) else
 if(dE (iA s) d).2.1≠0 then(s,js (dE (iA s) d).2.1,()) else
 if jB s b≠[]/\(dB s.2.2.1<|jB s b).2=0/\16<=(dB s.2.2.1<|jB s b).1.length then(s,js 5,()) else
 (Jv s (aju (dE (iA s) d).1 (jB s b) a)<|WI 1024,Ed (dE (iA s) d).1,())
set_option maxRecDepth 100000
def Km s (h:qf s):ku (s,())=aa (iA s,()):=by
 unfold ku;rw[xy 3 _ h.ab0];rfl
def NI:wb ()=aa (WI 1024,()):=by
 unfold wb;kernel_rfl
structure ak2 (s:aW):Prop where
 bl:s.1.length<=1000000
 il:s.2.1.length<=1000000
 ll:s.2.2.1.length<=1000000
 dl:s.2.2.2.1.length<=1000000
 ml:s.2.2.2.2.1.length<=1000000
 xb:∀x∈s.1,pK x.2.1/\xF x.2.2.2.2.2.1
 xi:∀x∈s.2.1,pK x.2.1/\xF x.2.2.2.2.1
 xl:∀x∈s.2.2.1,pK x.2.2.1
end Go.Ge
namespace Go.Ge
variable [Lp]
def YA(s:aW)(id:Tx)(c:s.2.2.2.2.1.length<=1000000):∃n,dh (s,id,())=aa (n,())/\((∃x∈s.2.2.2.2.1,x.1=id/\x.2.1=n)\/(n=0/\∀x∈s.2.2.2.2.1,x.1≠id)):=by
 unfold dh;rcases GY (f:=fu (s,_)) s.2.2.2.2.1 (λy=>decide (y.1=id)) (λq=>(q,(),id,())) c (λi y a d=>by
  unfold fu qF;rw[al d,ai,ao a,ab,ab,dt,dw];by_cases q:y.1=id<;>simp[q]) (by unfold fu;rw[aq,ah]) with ⟨i,y,a,e,b⟩|⟨hn,b⟩
 .rw[b,ab];dsimp only;rw[show cK 1 0=false from rfl,ah,aC ag,ah,ao a,ab]
  grind
 .rw[b,ab];rw[cV,ai]
  grind
def YB{f:(Int×Int×aj)×Tx×aj->Option (((Int×Int×aj)×Tx×aj)⊕(Nat×(Int×Int×aj)×Tx×aj))}(l:List AL) id (g:l.length<=1000000)
  (d:∀c i,f ((c,i,()),id,())=ak (aU i<|len l) (ae (idx l i) λy=>ak (br y.2.2.2.1 id) (aa<|.inr (1,(i,i,()),id,())) (aa<|.inl ((c,aw .i64 i 1,()),id,()))) (aa<|.inr (0,(c,i,()),id,()))) :
  ae (Loop f ((0,0,()),id,())) (λe=>ak (cK e.1 0) (aa (false,())) (aa (cw 0 e.2.1.1,())))=aa (l.any<|λx=>decide (x.2.2.2.1=id),()):=by
 rcases GY (f:=f) l (λy=>decide (y.2.2.2.1=id)) (λq=>(q,_)) g (λi y a h=>by
  rw[d,al h,ai,ao a,ab,dt,dw];by_cases q:y.2.2.2.1=id<;>simp[q]) (by rw[d,aq,ah]) with ⟨i,y,a,j,b⟩|⟨hn,b⟩
 .rw[b,ab,V7 a j];dsimp only;rw[show cK 1 0=false from rfl,ah,bA ag]
 .rw[b,V8 hn];rfl
def Wb(s:aW)(id:Tx)(l:s.1.length<=1000000)(m:s.2.1.length<=1000000)(n:s.2.2.1.length<=1000000):pf (s,id,())=aa (Ee s id,()):=by
 unfold pf Ee;have li:∀{f:_×Tx×aj->Option _},
   (∀c i,f ((c,i,()),_)=ak (aU i _) (ae (idx s.2.1 i) λy=>ak (br y.2.2.1 id) (aa<|.inr (1,(i,i,()),id,())) (aa<|.inl ((c,aw .i64 i 1,()),id,()))) (aa<|.inr (0,(c,i,()),id,()))) ->
   (∃(i:Nat),s.2.1.any (λx=>decide (x.2.2.1=id))=true/\Loop f ((0,0,()),id,())=aa (1,((i:Int),(i:Int),()),id,()))\/(s.2.1.any (λx=>decide (x.2.2.1=id))=false/\Loop f ((0,0,()),id,())=aa (0,(0,(s.2.1.length:Int),()),id,())):=λ{f} h=>by
  rcases GY (f:=f) s.2.1 (λy=>decide (y.2.2.1=id)) (λq=>(q,id,())) m (λi y b g=>by
   rw[h,al g,ai,ao b,ab,dt,dw];by_cases q:y.2.2.1=id<;>simp[q]) (by rw[h,aq,ah]) with ⟨i,y,b,j,d⟩|⟨hn,d⟩
  .grind
  .grind
 rcases GY (f:=qE (s,_)) s.2.2.1 (λy=>decide (y.2.1=id)) (λq=>(q,id,())) n (λi y b g=>by
  unfold qE;rw[al g,ai,ao b,ab,dt,dw];by_cases q:y.2.1=id<;>simp[q]) (by unfold qE;rw[aq,ah]) with ⟨i,y,b,j,d⟩|⟨hn,d⟩
 .rw[d,ab,V7 b j];rw[show cK 1 0=false from rfl,ah,ab];rcases li (f:=vp (s,_)) (λc i=>rfl) with ⟨k,e,a⟩|⟨e,a⟩
  .rw[a,ab];rfl
  .rw[a];rfl
 .rw[d,ab,V8 hn];rw[cV,ai,ab];rcases li (f:=vp (s,_)) (λc i=>rfl) with ⟨k,e,a⟩|⟨e,a⟩
  .rw[a,e];rfl
  .rw[a,e];exact YB s.1 id l (λc i=>rfl)
def tU(s:aW)(id:Tx):cO×Tx×Bool×aj:=match E6 s.2.2.1 id with
 | none=>(([],[],[],[],(0:Int),(0:Int),false,()),[],false,())
 | some i=>match s.2.2.1[i]? with
   | none=>(([],[],[],[],(0:Int),(0:Int),false,()),[],false,())
   | some x=>(x,(s.2.2.2.1[i]?).getD [],true,())
def ixL{f:(Int×Int×aj)×aj×Tx×aj->Option (((Int×Int×aj)×aj×Tx×aj)⊕(Nat×(Int×Int×aj)×aj×Tx×aj))} ls id (m:ls.length<=1000000)
  (d:∀c i,f ((c,i,()),(),id,())=ak (aU i<|len ls) (ae (idx ls i) λy=>ak (br y.1 id) (aa<|.inr (1,(i,i,()),(),id,())) (aa<|.inl ((c,aw .i64 i 1,()),(),id,()))) (aa<|.inr (0,(c,i,()),(),id,()))) :
  ae (Loop f ((0,0,()),(),id,())) (λa=>ak (cK a.1 0) (aa (((-1:Int),()),(),a.2.2.2.1,())) (aa ((a.2.1.1,()),(),a.2.2.2.1,())))=aa ((DO ls id,()),(),id,()):=by
 rcases eL (f:=f) ls (λj=>((0,j,()),_)) (λ_ y=>decide (y.1=id)) (λi _=>(1,(i,i,()),(),id,())) _ ag (λi y b e g=>by
  rw[d,al e,ai,ao b,ab,dt,dw,g];by_cases q:y.1=id<;>simp[q]) (by rw[d,aq,ah]) with ⟨i,y,b,k,l,h⟩|⟨hn,h⟩
 .rw[h];unfold DO;rw[CI b (fU k) l];rfl
 .rw[h];unfold DO;rw[NA hn];rfl
def CL(s:aW)(id:Tx)(b:s.2.2.1.length<=100000)(hn:∀x∈s.2.2.1,x.2.2.1.length<=4294967296):kt (s,id,())=aa (tU s id):=by
 unfold kt tU;rw[ixL s.2.2.1 id ag<|λc i=>rfl,ab];unfold DO;cases h:E6 s.2.2.1 id with
 | none=>rfl
 | some i =>
   obtain⟨x,a,_⟩:=A3 h;dsimp only;rw[aC ag,ah,ao a,ab,a];rw[xw x.2.2.1<|hn x<|dW a,ab,Ij s ag,ab];rw[ao<|S3<|av a,ab]
def S5(s:aW)(id:Tx)(n:Int):aW:=(s.1,(s.2.1,(s.2.2.1,(s.2.2.2.1,((if 0<n then pL (·.1) (Yw (·.1) s.2.2.2.2.1 id) (id,n,()) else Yw (·.1) s.2.2.2.2.1 id),s.2.2.2.2.2)))))
def amP(l:List xE) id n (o:l.length<=100000) (k:∀x∈l,x.1≠id) {f}
  (d:∀c i,f ((c,i,()),id,())=ak (aU i<|len l) (ae (idx l i) λy=>ak (nt<|oor (fM y.1 id)<|br y.1 id) (aa<|.inr (1,(i,i,()),id,())) (aa<|.inl ((c,aw .i64 i 1,()),id,()))) (aa<|.inr (0,(c,i,()),id,()))) :
  ae (Loop f ((0,0,()),id,())) (λa=>ak (cK a.1 0) (ae (bI (l,(((@len xE l,()),()).1).1,(a.2.2.1,n,()),())) λb=>aa ((b.1,()),a.2.2.1,()))
   (ae (bI (l,((ak (aU a.2.1.1 0) ((@len xE l,()),()) ((a.2.1.1,()),())).1).1,(a.2.2.1,n,()),())) λb=>aa ((b.1,()),a.2.2.1,())))=aa ((pL (·.1) l (id,n,()),()),id,()):=by
 have g:∀x,x.1=id->bI (l,((di (λy=>y.1) l id:Nat):Int),x,())=aa (pL (·.1) l x,()):=by
  intro x m;unfold bI;dsimp only;rw[cY ag];have:=tT (λy=>y.1) l x ag;rw[m] at this;exact ob this rfl
 have h:=mm (f:=f) _ l id ag (λi=>((0,i,()),_)) _ _ (λi y j=>by
  have hi:=av j;rw[d,al hi,ao j,ab,XW,az ag];rcases GD y.1 id with q|q|q
  .rw[q,rD q];rfl
  .grind
  .rw[q,rD q];rfl) (by rw[d,aq,ah])
 have p:=lF (λy=>y.1) l id;rw[h,ab];by_cases q:di (λy=>y.1) l id<l.length
 .rw[aN q];refine ob (g _ rfl) rfl
 .rw[aJ q];have e:(@len xE l)=((di (λy=>y.1) l id:Nat):Int):=ef;rw[e];refine ob (g _ rfl) rfl
def CM(s:aW)(id:Tx) n (g:s.2.2.2.2.1.length<=50000):pY (s,id,n,())=aa (S5 s id n,()):=by
 obtain⟨D,E,F,G,a,u⟩:=s;dsimp only at g;have go:∀l:List xE,l.length<=100000->(∀x∈l,x.1≠id)->∀{f},
   (∀c i,f ((c,i,()),id,())=ak (aU i<|len l) (ae (idx l i) λy=>ak (nt<|oor (fM y.1 id)<|br y.1 id) (aa<|.inr (1,(i,i,()),id,())) (aa<|.inl ((c,aw .i64 i 1,()),id,()))) (aa<|.inr (0,(c,i,()),id,()))) ->
   ak (aU 0 n) (ae (Loop f ((0,0,()),id,())) λd=>ak (cK d.1 0) (ae (bI (l,(((@len xE l,()),()).1).1,(d.2.2.1,n,()),())) λk=>aa ((k.1,()),d.2.2.1,()))
    (ae (bI (l,((ak (aU d.2.1.1 0) ((@len xE l,()),()) ((d.2.1.1,()),())).1).1,(d.2.2.1,n,()),())) λk=>aa ((k.1,()),d.2.2.1,()))) (aa ((l,()),id,())) =
    aa (((if 0<n then pL (·.1) l (id,n,()) else l),()),id,()):=by
  intro l g b f H;by_cases q:0<n
  .rw[aT q,aN q];exact amP l id n g b H
  .rw[aC ag,ah,aJ q]
 unfold pY S5;dsimp only;rw[cY ag];rcases eL (f:=pg ((D,E,F,G,a,u),_)) a (λj=>((0,j,()),id,())) (λ_ y=>decide (y.1=id)) (λi _=>(1,(i,i,()),id,())) _ ag (λi y m o p=>by
  unfold pg;dsimp only;rw[al o,ai,aE ag ef,ai,ao m,ab,dt,dw,p];by_cases q:y.1=id<;>simp[q]) (by unfold pg;rw[aq,ah]) with ⟨i,y,m,M,A,h⟩|⟨hn,h⟩
 rotate_left
 .have b:∀x∈a,x.1≠id:=λx e=>by
   obtain⟨i,o⟩:=bq.1 e
   grind
  rw[afj _ b];refine ob h ?_;exact ob (go a ag b λc i=>rfl) rfl
 have o:=av m;refine ob h ?_;have r:a.take i=(a.take<|i+1).filter (λx=>!decide (x.1=id)):=by
  rw[wN];have B:(a.take i).filter (λx=>!decide (x.1=id))=a.take i:=Ld.2 λz t=>by
   obtain⟨j,I⟩:=bq.1 t
   grind
  grind
 obtain⟨w,L,B,N,O,P⟩:=GV (f:=ph) a _ (λw j L=>((w,j,_),id,L,())) (λw L=>((w,L.length,_),id,L,())) ag (λw j L x e v Q A p J=>by
  unfold ph;dsimp only;obtain⟨z,t⟩:∃z,L[w]?=aa z:=⟨_,fX ag⟩;rw[al A,aE ag ef,ai,ao v,ab,dt,J];cases decide (x.1=id) with
  | true=>rfl
  | false =>
    rw[ aE ag ef,ao t,p];rfl) (λw L=>by
  unfold ph;rw[aq];rfl) a.length i _ a ag ag ag rfl r rfl
 rw[az ag];refine ob B ?_;dsimp only;have C:L.take w=Yw (λx=>x.1) a id:=by
  unfold Yw
  grind
 have K:(Yw (λx=>x.1) a id).length<=a.length:=(K7 _ a id).length_le;rw[aL ag ef<|tc _,GW L w ag,aL (tc _) ag ag,Cv L w ag,C];exact ob (go (Yw (λx=>x.1) a id) ag (λx e=>((ahz _).1 e).2)
  (λc i=>by
   unfold zC;rw[Cv L w ag,C])) rfl
abbrev jh:=Int×Int×Tx×Tx×List Tx×Tx×Tx×Int×aj
def ab4 l v (g:l.length<=1000000):∃i,ij (l,v,())=aa (i,())/\cw 0 i=decide (v∈l):=by
 unfold ij;rcases eL (f:=fQ (l,v,())) l (λi=>((0,i,()),())) (λ_ x=>decide (v=x)) (λi x=>(1,(i,i,()),())) _ ag (λi x a b c=>by
  unfold fQ;rw[al b,ai,ao a,ab,dw,c];by_cases h:v=x<;>simp[aG,h]) (by unfold fQ;rw[aq,ah]) with ⟨i,x,a,d,j,h⟩|⟨hn,h⟩
 .refine⟨i,by rw[h];rfl,?_⟩;rw[bA ag,dn];rw[fU d];exact dW a
 .refine⟨-1,by rw[h];rfl,?_⟩;rw[cR ag,cm];intro e;obtain⟨i,b⟩:=bq.1 e;have:=hn i v b;simp at this
def A7 l v (a:l.length<=1000000):dG (l,v,())=aa (decide<|v∈l,()):=by
 obtain⟨i,b,c⟩:=ab4 l v a;unfold dG;rw[b,ab,c]
def Ps(a:Int)(l:List Int):List Int:=if a∈l then [a] else []
def lG(c:jh):List Int :=
 if c.1=2\/c.1=11\/c.1=12 then [1,2,3] else if c.1=7 then [2,3] else if c.1=8 then [1,2] else
 if c.1=1\/c.1=3\/c.1=4\/c.1=5\/c.1=6 then [3] else if c.1=9\/c.1=10 then Ps c.2.1 [1,2] else
 if c.1=13\/c.1=14\/c.1=15 then Ps c.2.1 [1,2,3] else []
def ahC a b:((ak a ((a,()),()) ((b,()),())).1).1=(a||b):=by cases a<;>rfl
def Wc(c:jh) l (a:l.length<=1000000):xo (c,l,())=aa (Ps c.2.1 l,()):=by
 unfold xo Ps;rw[A7 l _ a];by_cases h:c.2.1∈l
 .rw[aN h,dn h];rfl
 .rw[aJ h,cm h];rfl
def QV(c:jh):p9 (c,())=aa (lG c,()):=by
 unfold p9 lG;simp only[ahC];rw[Wc c [1,2] aS,Wc c [1,2,3] aS];simp only[dw,aG,Li,Ae];repeat' (first|rfl|split)
def NJ c:(lG c).length<=3:=by
 unfold lG Ps;repeat' (first|(simp;done)|split)
def fF(s:aW)(a:Tx)(h:qf s):eP (s,a,())=aa (aR (iA s) a):=by
 unfold eP ku;dsimp only;rw[xy 3 _ h.ab0,ab,ab];exact ob (oD (iA s) a (Dq h) (by have:=K8 h;omega)) rfl
set_option maxRecDepth 100000
end Go.Ge
namespace Go.Ge
variable [Lp]
set_option maxRecDepth 100000
end Go.Ge
namespace Go.Ge
variable [Lp]
instance (s:Tx):Decidable (CJ s):=by unfold CJ;infer_instance
def YC(s:Tx):gS (s,())=aa ((if CJ s then 0 else 10),()):=by
 obtain⟨a,b⟩:=K6 s;rw[abP a b];rfl
def Bn(s:aW)(p:Tx):List Nd×Int:=if p=[] then([],0) else mN s.2.2.1 s.2.2.2.1 p
def Du{s p}(h:(Bn s p).2=0):Valid (Bn s p).1:=by
 unfold Bn at h⊢;by_cases q:p=[]
 .rw[aN q];exact QR
 .rw[aJ q] at h⊢;exact E8 h
def NK(d:Tx):Tx:=if d=[] then WI 1024 else d
def Wd(id a:Tx)(b:List Tx)(d:Tx):cO:=(id,a,b,SJ<|NK d,((NK d).length:Int),0,true,())
def crS(s:aW)(b:Tx)(a:List Tx)(c:Tx)(d:Int):aW×nR×aj :=
 if eT a≠0 then(s,js<|eT a,()) else
 if c≠[]/\¬CJ c then(s,js 10,()) else
 if b≠[]/\(aR (iA s) b).2.1≠0 then(s,js (aR (iA s) b).2.1,()) else
 if pD (iA s) [] a≠0 then(s,js<|pD (iA s) [] a,()) else
 if(dE (iA s) d).2.1≠0 then(s,js (dE (iA s) d).2.1,()) else
 if jB s b≠[]/\(dB s.2.2.1<|jB s b).2=0/\16<=(dB s.2.2.1<|jB s b).1.length then(s,js 5,()) else
 if c≠[]/\(Bn s<|jB s b).2≠0 then(s,js (Bn s<|jB s b).2,()) else
 if c≠[]/\(mj (Bn s<|jB s b).1 c).2≠0 then(s,js (mj (Bn s<|jB s b).1 c).2,()) else
 (Jv s (Wd (dE (iA s) d).1 (jB s b) a c)<|NK c,Ed (dE (iA s) d).1,())
def Bo s (on:Tx) (given:List Tx) (a:Tx) d (h:qf s) (G:given.length<=4294967296) (y:a.length<=100000)
  (H:∀p,ma (s,p,())=aa ((mN s.2.2.1 s.2.2.2.1 p).1,(mN s.2.2.1 s.2.2.2.1 p).2,())) :
  jM (s,on,given,a,d,())=aa (crS s on given a d):=by
 have I:=h.ll;have z:aG 0 0=true:=rfl;have es:br ([]) ([])=true:=rfl;unfold jM;rw[vb given G,ab];unfold crS;by_cases m:eT given=0
 rotate_left
 .rw[aN m];simp only[aI,ai,ab,ar m];rfl
 rw[aJ<|λq=>q m,au m];rw[dt a []];have A:(ak (decide<|a=[]) (aa (((0:Int),()),a,()))<|ae (gS (a,())) λB=>aa ((B.1,()),a,()))=aa (((if a≠[]/\¬CJ a then 10 else 0),()),a,()):=by
  by_cases q:a=[]
  .rw[dn q,ai,aJ λk=>k.1 q]
  .rw[cm q,ah,YC,ab]
   grind
 rw[show(ak _ (aa _)<|ae (gS _) λB=>aa ((B.1,()),_))=_ from A,ab];by_cases n:a≠[]/\¬CJ a
 .rw[aN n,aN n];simp only[aI];rfl
 rw[aJ n,aJ n];simp only[aV,ah,z,dt on];have C:(ak (nt<|decide<|on=[]) (ae (eG (s,on,())) λe=>aa ((e.2.1,()),e.1,()))<|some (((0:Int),()),([]),())) =
   aa (((if on=[] then 0 else(aR (iA s) on).2.1),()),jB s on,()):=by
  unfold jB;by_cases q:on=[]
  .rw[dn q,aV,ah,aN q,aN q]
  .rw[cm q,aI,ai,jQ s on h,ab,aJ q,aJ q]
 rw[show(ak (nt _) (ae (eG _) λe=>aa ((e.2.1,()),_))<|some ((0,()),_))=_ from C,ab];have c:(on≠[]/\(aR (iA s) on).2.1≠0)↔¬((if on=[] then 0 else(aR (iA s) on).2.1)=0):=by
  by_cases q:on=[]
  .simp
  .simp
 have j:(on≠[]/\(aR (iA s) on).2.1≠0)->(if on=[] then 0 else(aR (iA s) on).2.1)=(aR _ on).2.1:=λq=>aJ q.1;by_cases l:(if on=[] then 0 else(aR (iA s) on).2.1)=0
 rotate_left
 .rw[aN<|c.2 l];simp only[aI,ai,ab,ar l];rw[j<|c.2 l];rfl
 rw[aJ<|λq=>c.1 q l,au l];simp only[aV,ah];rw[zV s h,ab,sW _ [] given (Dq h) G,ab];by_cases c3:pD (iA s) [] given=0
 rotate_left
 .rw[aN c3];simp only[aI,ai,ab,ar c3];rfl
 rw[aJ<|show ¬_ from λq=>q c3,au c3];simp only[aV,ah,ab];rw[H8,ab];by_cases o:(dE (iA s) d).2.1=0
 rotate_left
 .rw[aN o];simp only[aI,ai,ab,ar o];rfl
 rw[aJ<|show ¬_ from λq=>q o,au o];rw[Yz _ _ ag<|λx J=>(h.ln x J).small,ab];rw[dt _ []];have K:(ak (ak (ak (nt<|decide<|jB s on=[]) (aG (dB s.2.2.1<|jB s on).2 0) false) (cw 16<|len (dB s.2.2.1<|jB s on).1) false) (aa (((5:Int),()),jB s on,s,()))<|some (((0:Int),()),jB s on,s,())) =
   aa (((if jB s on≠[]/\(dB s.2.2.1<|jB s on).2=0/\16<=(dB s.2.2.1<|jB s on).1.length then 5 else 0),()),jB s on,s,()):=by
  have E:cw 16 (len (dB s.2.2.1<|jB s on).1)=decide (16<=(dB s.2.2.1<|jB s on).1.length):=by unfold len;apply gO.2;omega
  rw[E,ahj];by_cases r:jB s on=[]
  .rw[dn r,aV,ah,ah,ah,aJ λq=>q.1 r]
  .rw[cm r,aI,ai];by_cases t:(dB s.2.2.1<|jB s on).2=0
   .rw[dn t,ai];by_cases u:16<=(dB s.2.2.1<|jB s on).1.length
    .rw[dn u,ai,aN ⟨r,t,u⟩]
    .rw[cm u,ah,aJ λq=>u q.2.2]
   .rw[cm t,ah,ah,aJ λq=>t q.2.1]
 rw[show(ak (ak (ak (nt _) _ false) (cw 16 _) false) (aa (((5:Int),()),_))<|some ((0,()),_))=_ from K,ab];by_cases v:jB s on≠[]/\(dB s.2.2.1<|jB s on).2=0/\16<=(dB s.2.2.1<|jB s on).1.length
 .rw[aN v,aN v];rfl
 rw[aJ v,aJ v];simp only[z,aV,ah];have F:iT (s,jB s on,())=aa ((Bn s<|jB s on).1,(Bn s<|jB s on).2,()):=by
  unfold iT Bn;by_cases q:jB s on=[]
  .rw[ck q,ai,aN q]
  .rw[aY q,ah,aJ q,H,ab]
 have fin:∀D,D.length<=100000->∀(f:_->Option (aW×nR×aj)),
   ae (oa (D,())) (λe=>ae (sA (s,((dE (iA s) d).1,jB s on,@app Tx [] given,e.1,@len UInt8 D,0,true,()),D,())) f) =
    f (Jv s ((dE (iA s) d).1,jB s on,given,SJ D,(D.length:Int),(0:Int),true,()) D,()):=by
  intro D L f;refine ob (aeQ D ag) ?_;refine ob (afn s ((dE _ d).1,jB s on,given,SJ D,D.length,_) D ag) rfl
 have b:fits (plus (@len Tx []) _)=true:=aH cJ;by_cases g:a=[]
 .subst g;rw[es,ai];simp only[z,aV,ah,ab];rw[es,ai,afo,ab,ab];rw[b,fin _ (by rw[E1];decide)];rfl
 rw[aY g,ah,F,ab];by_cases i:(Bn s<|jB s on).2=0
 rotate_left
 .rw[aN ⟨g,i⟩,ar i,ah];simp only[ar i,aI,ai,ab];rfl
 rw[aJ<|λq=>q.2 i,au i,ai,QJ (Du i)];by_cases w:(mj (Bn s<|jB s on).1 a).2=0
 rotate_left
 .rw[aN ⟨g,w⟩];simp only[ar w,aI,ai,ab];rfl
 rw[aJ λq=>q.2 w];simp only[au w,aV,ah,ab];rw[aY g,ah,ab];rw[b,fin a y];unfold Wd NK;rw[aJ g];rfl
end Go.Ge
