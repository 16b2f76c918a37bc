import Derived.Test.YtgklgliokhbcnaaGreatDoorPlF
set_option linter.unusedSectionVars false
set_option linter.unusedVariables false
set_option linter.unusedSimpArgs false
set_option linter.defProp false
noncomputable section
open Option renaming some->aa,none->af
namespace Go.Ge
variable [Lp]
def yb{t n}(h:(bG t n).2=0):Valid (bG t n).1:=by
 rcases Nt t n with ⟨_,a⟩|⟨b,a,c,r,d,e,f⟩
 .grind
 .rw[f];exact QN b a c d e
def jh:List bb->bb->List Nd->List Nd×Int
 | [],_,t=>(t,0)
 | nm::r,at',t =>
   if(findF t<|rT at' nm).2.1=true/\(findF t<|rT at' nm).1.2.1=2 then jh r (rT at' nm) t
   else if(bG t<|gA 493<|rT at' nm).2=0 then jh r (rT at' nm) (bG t<|gA 493<|rT at' nm).1
   else([],(bG t<|gA 493<|rT at' nm).2)
def CS:∀r a t,Valid t->(jh r a t).2=0->Valid (jh r a t).1:=by
 intro r;induction r with
 | nil=>intro a t h _;exact h
 | cons nm r d =>
   intro a t h b;unfold jh at b⊢;split at b
   .grind
   .rename_i e;rw[aK e];split at b
    .rename_i c;rw[aQ c];exact d _ _ (yb c) b
    .grind
abbrev DS:=((List Nd×(List Nd×(Int×(bb×(Int×aj)))))×aj)
def V6{f:DS->Option (DS⊕(Nat×DS))} b (h:Jw b) n (s:n<=b.length)
  (c:∀i x t,i<n->b[i]?=aa x->Valid t ->
   f ((t,[],0,aR<|b.take i,i,()),()) =
    aa (if(findF t<|eM b i).2.1=true/\(findF t<|eM b i).1.2.1=2 then .inl ((t,[],0,eM b i,((i+1:Nat):Int),()),())
     else if(bG t<|gA 493<|eM b i).2=0 then .inl (((bG t<|gA 493<|eM b i).1,[],0,eM b i,((i+1:Nat):Int),()),())
     else .inr (1,(t,[],(bG t<|gA 493<|eM b i).2,eM b i,i,()),())))
  (j:∀t a,f ((t,[],0,a,n,()),())=aa (.inr (0,(t,[],0,a,n,()),()))) :
  ∀d i t,i+d=n->Valid t->∃z,Loop f ((t,[],0,aR<|b.take i,i,()),())=aa z /\
   (((jh ((b.take n).drop i) (aR<|b.take i) t).2=0/\z.1=0/\z.2.1.1=(jh ((b.take n).drop i) (aR<|b.take i) t).1) \/
    ((jh ((b.take n).drop i) (aR<|b.take i) t).2≠0/\z.1=1/\z.2.1.2.1=[]/\z.2.1.2.2.1=(jh ((b.take n).drop i) (aR<|b.take i) t).2)):=by
 intro d;induction d with
 | zero =>
   intro i t r l;obtain rfl:i=n:=ah;refine⟨_,by rw[aN,j];rfl,.inl ?_⟩;rw[Fy<|by rw[dk];omega];exact⟨rfl,rfl,rfl⟩
 | succ d q =>
   intro i t r l;have hx:b[i]?=aa b[i]:=fH ah;have e:=c i b[i] t ah hx l;have g:(b.take n).drop i=b[i]::(b.take n).drop (i+1):=by
    rw[BT<|by rw[dk];omega,ada]
   rw[g];unfold jh;rw[(rC h.1 hx)];split
   .rename_i m;rw[aQ m] at e;obtain⟨z,o,p⟩:=q (i+1) t ah l;refine⟨z,?_,by exact p⟩;rw[aN,e];exact o
   .rename_i m;rw[aK m] at e;split
    .rename_i k;rw[aQ k] at e;obtain⟨z,o,p⟩:=q (i+1) _ ah (yb k);refine⟨z,?_,by exact p⟩;rw[aN,e];exact o
    .rename_i k;rw[aK k] at e;refine⟨_,by rw[aN,e];rfl,.inr ⟨k,rfl,rfl,rfl⟩⟩
def aff m {ns} (h:Jw ns) i:Sm (gA m<|eM ns i):=⟨h.tm _,by simp[gA],by simp[gA]⟩
def tI(a:List bb)(t:List Nd)(n:Nd):List Nd×Int:=if(jh a.dropLast [] t).2=0 then bG (jh a.dropLast [] t).1 n else([],(jh a.dropLast [] t).2)
def Td{ns}(h:Jw ns){n}(w:n.1=aR ns)(y:Sm n){t}(r:Valid t):kF ((n,()),t,())=aa ((tI ns t n).1,(tI ns t n).2,()):=by
 have hd:=Dw h;unfold kF;rw[w,rB _ (by have:=h.2.2;omega),ab,yT h.1];dsimp only;rw[rR _ (by have:=hd.2.2;omega),ab,kf _ hd.1];obtain⟨z,A,g⟩:=V6 (f:=fo (ns.dropLast,())) ns.dropLast hd ns.dropLast.length (bV _) (λi x u B j s=>by
  have c:=fD s;have C:=hd.K6 (eG j);have D:=hd.tm i;have v:=hd.tm (i+1);have E:=hd.2.1;unfold fo;dsimp only;rw[al B,ao j,ab,Ig _ _ ah ah,ab,rC hd.1 j];dsimp only;rw[abP u _ c (by unfold eM;omega) s,ab,aB ah];have F:=Jv u _ c (aff 493 hd i);rw[show tT (u,(eM ns.dropLast i,_),())=_ from F,ab];by_cases k:(findF u<|eM ns.dropLast i).2.1=true
  .by_cases d:(findF u<|eM ns.dropLast i).1.2.1=2
   .rw[k,au d,aQ ⟨rfl,d⟩];rfl
   .rw[k,ar d,aK λq=>d q.2];by_cases b:(bG u<|gA 493<|eM ns.dropLast i).2=0
    .rw[au b,aQ b];rfl
    .rw[ar b,aK b];rfl
  .rw[show(findF u _).2.1=false by simpa using k];by_cases b:(bG u<|gA 493<|eM ns.dropLast i).2=0
   .rw[au b,aQ b];rfl
   .rw[ar b,aK b];rfl) (λu a=>by
  unfold fo;rw[aq,ag]) ns.dropLast.length 0 t ah r
 rw[zw,DU] at g;rw[show Loop (fo _) ((t,([]),0,([]),0,()),())=_ from A,ab];have l:aR (ns.dropLast.take 0)=[]:=by simp[aR]
 rw[l] at g;unfold tI;rcases g with ⟨e,m,o⟩|⟨e,m,o,G⟩
 .have p:=CS _ _ _ r e;rw[m,show cl 0 0=true from rfl,ai,o,aQ e,Jv _ n (fD p) y,ab]
 .rw[m,show cl 1 0=false from rfl,ag,o,G,aK e]
def V7{ns}(h:Jw ns){t}(r:Valid t):wx (t,aR ns,())=aa ((if(jh ns.dropLast [] t).2=0 then(jh ns.dropLast [] t).1 else []),(jh ns.dropLast [] t).2,()):=by
 unfold wx;dsimp only;rw[ig _ (by have:=h.2.2;omega),ab,kf _ h.1];obtain⟨z,s,g⟩:=V6 (f:=mI (ns,())) ns h (ns.length-1) ah (λi x u B j p=>by
  have c:=fD p;have v:=h.K6 (eG j);have w:=h.tm i;have k:=h.2.1;unfold mI;dsimp only;rw[aB ah,al ah,ao j,ab,A4 _ _ ah ah,ab,rC h.1 j];rw[CR u _ c p,ab];have y:=CK u _ c (aff 493 h i);rw[show oy (u,(eM ns i,_),())=_ from y,ab];by_cases l:(findF u<|eM ns i).2.1=true
  .by_cases d:(findF u<|eM ns i).1.2.1=2
   .rw[l,au d,aQ ⟨rfl,d⟩];rfl
   .rw[l,ar d,aK λq=>d q.2];by_cases b:(bG u<|gA 493<|eM ns i).2=0
    .rw[au b,aQ b];rfl
    .rw[ar b,aK b];rfl
  .rw[show(findF u _).2.1=false by simpa using l];by_cases b:(bG u<|gA 493<|eM ns i).2=0
   .rw[au b,aQ b];rfl
   .rw[ar b,aK b];rfl) (λu a=>by
  unfold mI;have k:=h.2.1;rw[aB ah,show aL _ (len ns)=false from aC dR,ag]) (ns.length-1) 0 t ah r
 rw[DU,List.dropLast_eq_take.symm] at g;rw[show Loop (mI _) ((t,([]),0,([]),0,()),())=_ from s,ab];have m:aR (ns.take 0)=[]:=by simp[aR]
 rw[m] at g;rcases g with ⟨e,n,o⟩|⟨e,n,o,A⟩
 .rw[n,show cl 0 0=true from rfl,ai,o,aQ e,e]
 .rw[n,show cl 1 0=false from rfl,ag,o,A,aK e]
def Yw p:(bS p).1=0\/(bS p).1=1\/(bS p).1=2:=by
 unfold bS
 grind
def pV(t:List Nd)(p:Pt):List Nd×Int:=if(bS p).1=0/\(bS p).2.1≠[] then tI (bS p).2.1 t (mq p<|aR (bS p).2.1) else(t,0)
def zp:List Pt->List Nd->List Nd×Int
 | [],t=>(t,0)
 | p::r,t=>if(pV t p).2=0 then zp r (pV t p).1 else([],(pV t p).2)
def V8{a t n}(h:(tI a t n).2=0):Valid (tI a t n).1:=by
 unfold tI at h⊢;split at h
 .rename_i b;rw[aQ b];exact yb h
 .grind
def yV{t p}(b:Valid t)(h:(pV t p).2=0):Valid (pV t p).1:=by
 unfold pV at h⊢;split at h
 .rename_i a;rw[aQ a];exact V8 h
 .grind
def Ba:∀l t,Valid t->(((zp l t).2=0/\Valid (zp l t).1)\/((zp l t).2≠0/\(zp l t).1=[])):=by
 intro l;induction l with
 | nil=>intro t h;exact .inl ⟨rfl,h⟩
 | cons p r a =>
   intro t h;unfold zp;split
   .rename_i b;exact a _ (yV h b)
   .grind
def Z6{p}(a:SmP p){ns}(h:Jw ns):Sm (mq p<|aR ns):=⟨h.2.2,a.2.1,a.2.2⟩
def V9{t}(h:Valid t) p (d:SmP p):AJ (yU p,t,())=aa ((pV t p).1,(pV t p).2,()):=by
 have b:=x8 p;unfold yU Z4 pV;rcases Yw p with a|a|a
 .rw[aK<|by rw[a];decide,aK (by rw[a];decide)];by_cases c:(bS p).2.1=[]
  .rw[aQ c,aK λq=>q.2 c];rfl
  .rw[aK c,aQ ⟨a,c⟩];exact Td b rfl (Z6 d b) h
 .rw[aQ a,aK λq=>by rw[a] at q;exact absurd q.1 aD];rfl
 .rw[aK<|by rw[a];decide,aQ a,aK λq=>by rw[a] at q;exact absurd q.1 aD];rfl
def runs{S R f}(l:List Pt)(h:List Nd->Nat->S)(b:List Nd->R)(c:Int->List Nd->Nat->R)
  (a:∀i x t,l[i]?=aa x->Valid t->f (h t i)=aa (if(pV t x).2=0 then .inl (h (pV t x).1<|i+1) else .inr (c (pV t x).2 t i)))
  (e:∀t,f (h t l.length)=aa (.inr<|b t)) :
  ∀d i t,i+d=l.length->Valid t->∃z,Loop f (h t i)=aa z /\
   (((zp (l.drop i) t).2=0/\z=b (zp (l.drop i) t).1)\/((zp (l.drop i) t).2≠0/\∃m n,z=c (zp (l.drop i) t).2 m n)):=by
 intro d;induction d with
 | zero =>
   intro i t o k;obtain rfl:i=l.length:=ah;refine⟨_,by rw[aN,e];rfl,.inl ?_⟩;rw[IW];exact⟨rfl,rfl⟩
 | succ d p =>
   intro i t o k;have j:=a i l[i] t (fH ah) k;rw[BT ah];unfold zp;split
   .rename_i g;rw[aQ g] at j;obtain⟨z,q,r⟩:=p (i+1) _ ah (yV k g);exact⟨z,by rw[aN,j];exact q,r⟩
   .rename_i g;rw[aK g] at j;exact⟨_,by rw[aN,j];rfl,.inr ⟨g,t,i,rfl⟩⟩
open Classical in
def oM(l:List Nd)(a:List Pt):List Nd×Int:=if Valid l then(if jg a=true then zp a (a.foldl x9 l) else([],10)) else([],1)
def yW(a:List Pt):∀l,Valid l->Valid (a.foldl x9 l):=by
 induction a with
 | nil=>intro l h;exact h
 | cons p r b=>intro l h;exact b _ (ya h p)
def ahl l ps (h:vY l) (c:Tb ps):uG (l,ps,())=aa ((oM l ps).1,(oM l ps).2,()):=by
 obtain⟨e,o,j⟩:=mo l h;have v:=h.1;have w:=c.1;unfold uG oM;rw[o,ab];by_cases hv:Valid l
 .rw[j.2 hv,aQ hv,QP ps c,ab];by_cases a:jg ps=true
  .rw[aQ a,aQ a];rw[ aJ cT,show app ([]) l=l from rfl];obtain⟨p,k⟩:=Yv ps true l hv ah;rw[p,ab];obtain⟨z,r,m⟩:=runs (f:=lg (ps.map yU,true,())) ps (λt i=>(([],0,t,i,()),())) _ (λe t i=>(1,([],e,t,i,()),())) (λi x t d s=>by
    have hi:=av d;unfold lg;rw[al<|by rw[y4];exact hi,ao (by rw[JN,d];rfl),ab,aB ah];rw[show AJ _=_ from V9 s x (c.2 x<|eG d),ab];by_cases b:(pV t x).2=0
    .rw[au b,aQ b];rfl
    .rw[ar b,aK b];rfl) (λt=>by
    unfold lg;rw[show aL ps.length _=false by rw[<-y4];exact aq,ag]) ps.length 0 _ ah k
   rw[DU] at m;rw[show Loop (lg _) (([],0,ps.foldl x9 l,0,()),())=_ from r];rcases m with ⟨n,g⟩|⟨n,y,A,g⟩
   .rw[g,n];rfl
   .rw[g];rcases Ba ps _ k with ⟨B,_⟩|⟨_,u⟩
    .grind
    .rw[u];rfl
  .rw[aK a,aK a];rfl
 .have:=λq=>hv (j.1 q);rw[ar this,aE,ai,aK hv]
def Yx l ps (w:vY l) (h:Tb ps):yF (l,ps,())=aa ((oM l ps).1,(oM l ps).2,()):=by
 obtain⟨e,y,A⟩:=oL l w;have D:=h.1;unfold yF oM;rw[y,ab];by_cases hv:Valid l
 .rw[A.2 hv,aQ hv,CQ ps h,ab];by_cases m:jg ps=true
  .rw[aQ m,m];have p:=yW ps l hv;rw[(Py l ps h hv),ab];obtain⟨z,B,r⟩:=runs (f:=oB (l,ps,())) ps (λt i=>((t,[],0,i,()),())) _ (λe t i=>(1,(t,[],e,i,()),())) (λi x t n s=>by
    have hi:=av n;have d:=h.2 x (eG n);have b:=x8 x;unfold oB;rw[al hi,ao n,ab,CN x d,ab,aB ah];rw[V7 b s,ab,ab];unfold sG;rw[ab];by_cases g:(bS x).1=0
    .have u:=uf b.1;by_cases j:(bS x).2.1=[]
     .have a:pV t x=(t,0):=by unfold pV;rw[aK λq=>q.2 j]
      rw[a,au g,cc (u.2 j)];rfl
     .have a:pV t x=tI (bS x).2.1 t (mq x<|aR (bS x).2.1):=by unfold pV;rw[aQ ⟨g,j⟩]
      rw[a,au g,aY λq=>j (u.1 q)];by_cases hd:(jh (bS x).2.1.dropLast [] t).2=0
      .have c:tI (bS x).2.1 t (mq x<|aR (bS x).2.1)=bG (jh (bS x).2.1.dropLast [] t).1 (mq x<|aR (bS x).2.1):=by unfold tI;rw[aQ hd]
       rw[c,au hd,aQ hd];rw[show oy ((jh (bS x).2.1.dropLast [] t).1,(aR (bS x).2.1,_),())=_ from(CK (jh (bS x).2.1.dropLast [] t).1 (mq x<|aR (bS x).2.1) (fD<|CS _ _ _ s hd)<|Z6 d b),ab];by_cases k:(bG (jh (bS x).2.1.dropLast [] t).1<|mq x<|aR (bS x).2.1).2=0
       .rw[au k,aQ k];rfl
       .rw[ar k,aK k];rfl
      .have c:tI (bS x).2.1 t (mq x<|aR (bS x).2.1)=([],(jh (bS x).2.1.dropLast [] t).2):=by unfold tI;rw[aK hd]
       rw[c,ar hd,aK hd,aK hd];rfl
    .have a:pV t x=(t,0):=by unfold pV;rw[aK λq=>g q.1]
     rw[a,ar g];rfl) (λt=>by
    unfold oB;rw[aq,ag]) ps.length 0 _ ah p
   rw[DU] at r;rw[show Loop (oB _) ((ps.foldl x9 l,[],0,0,()),())=_ from B];rcases r with ⟨v,o⟩|⟨v,E,F,o⟩
   .rw[o,v];rfl
   .rw[o];rcases Ba ps _ p with ⟨G,_⟩|⟨_,C⟩
    .grind
    .rw[C];rfl
  .rw[ show jg ps=false by simpa using m];rfl
 .have:e=false:=by
   grind
  rw[this,aK hv];rfl
def Has(t:List Nd)(p:bb):Prop:=p=[]\/∃x∈t,x.1=p/\x.2.1=2
def Wa{t n}(c:Valid t)(d:fU n=true)(h:Has t (bd n.1).1):((bG t n).2=0/\n∈(bG t n).1)\/(bG t n).2=5:=by
 unfold bG;rw[aK λq=>q.elim (λq=>q c) λq=>by rw[d] at q;cases q];have f:¬((bd n.1).1≠[]/\∀x∈t,x.1≠(bd n.1).1):=λq=>by
  rcases h with h|⟨x,a,e,_⟩
  .exact q.1 h
  .exact q.2 x a e
 have b:¬((bd n.1).1≠[]/\∀x∈t,x.1=(bd n.1).1->x.2.1≠2):=λq=>by
  rcases h with h|⟨x,a,e,k⟩
  .exact q.1 h
  .exact q.2 x a e k
 rw[aK f,aK b];have key:∀r,((if 64<=r.length then(([]),(5:Int)) else(vA r n,0)).2=0/\n∈(if 64<=r.length then(([]),(5:Int)) else(vA r n,0)).1)\/(if 64<=r.length then(([]),(5:Int)) else(vA r n,0)).2=5:=λr=>by
  split
  .exact .inr rfl
  .exact .inl ⟨rfl,vB.2 (.inl rfl)⟩
 apply key
def abY{t p}(h:(findF t p).2.1=true):(findF t p).1∈t/\(findF t p).1.1=p:=by
 unfold findF at h⊢;cases a:t.find? λx=>decide (x.1=p) with
 | none=>rw[a] at h;cases h
 | some x=>exact⟨TL a,by have:=Ze a;simpa using this⟩
def afg{p}(h:fU (gA 0 p)=true):fU (gA 493 p)=true:=by
 unfold fU at h⊢;simp at h⊢;exact⟨⟨⟨h.1.1.1,by simp[gA]⟩,by simp[gA]⟩,by simp[QJ,gA]⟩
def abZ{ns}(h:Jw ns) n (u:n<=ns.length) (j:preB ns n=true):∀d i t,i+d=n->Valid t->Has t (aR<|ns.take i) ->
  ((jh ((ns.take n).drop i) (aR<|ns.take i) t).2=0/\Has (jh ((ns.take n).drop i) (aR<|ns.take i) t).1 (aR<|ns.take n))\/(jh ((ns.take n).drop i) (aR<|ns.take i) t).2=5:=by
 intro d;induction d with
 | zero =>
   intro i t q k l;obtain rfl:i=n:=ah;rw[Fy<|by rw[dk];omega];exact .inl ⟨rfl,l⟩
 | succ d o =>
   intro i t q k l;have b:(ns.take n).drop i=ns[i]::(ns.take n).drop (i+1):=by
    rw[BT<|by rw[dk];omega,ada]
   have c:eM ns i=aR _:=rfl;rw[b];unfold jh;rw[(rC h.1<|fH ah)];split
   .rename_i p;obtain⟨m1,r⟩:=abY p.1;exact o _ t ah k (.inr ⟨_,m1,by rw[r,c],p.2⟩)
   .have e:fU (gA 493<|eM ns i)=true:=by
     unfold preB at j;rw[wa] at j;exact afg (j i<|Ln.2 ah)
    have a:=Wa k e (by
     show Has t (bd<|eM ns i).1
     rw[Nv h.1 ah];exact l)
    split
    .rename_i f;rcases a with ⟨_,g⟩|m
     .rw[c];exact o _ _ ah (yb f) (.inr ⟨_,g,rfl,rfl⟩)
     .rw[m] at f;cases f
    .rename_i f;rcases a with ⟨s,_⟩|m
     .exact absurd s f
     .exact .inr m
def ab0{ns}(h:Jw ns){n}(g:n.1=aR ns)(i:fU n=true)(a:vC ns=true){t}(d:Valid t):(tI ns t n).2=0\/(tI ns t n).2=5:=by
 have b:preB ns (ns.length-1)=true:=by
  unfold vC at a;simp at a;rw[Ta a.2] at a;simp at a;exact a.1.1
 have hd:=abZ h _ ah b (ns.length-1) 0 t ah d (.inl<|by simp[aR]);have c:aR (ns.take 0)=[]:=by simp[aR]
 rw[DU,List.dropLast_eq_take.symm,c] at hd;unfold tI;rcases hd with ⟨e,j⟩|f
 .rw[aQ e];rcases Wa (CS _ _ _ d e) i (by rw[g,yT h.1];exact j) with ⟨k,_⟩|l
  .exact .inl k
  .exact .inr l
 .rw[aK<|by rw[f];decide];exact .inr f
def Yy{p}(a:(bS p).2.2=true)(c:(bS p).1=0)(b:(bS p).2.1≠[]):fU (mq p<|aR (bS p).2.1)=true/\vC (bS p).2.1=true:=by
 have key:∀d q,d≠[]->((decide _&&q)||(fU (mq p<|aR d)&&vC d))=true->fU _=true/\vC d=true:=λd q e h=>by
  rw[cd e,Bool.false_and,adn,gw] at h;exact h
 unfold bS at a c b⊢;split at c
 .rename_i f;rw[aQ f] at a b⊢;dsimp only at a c b⊢;split at c
  .cases c
  .rename_i i;rw[aK i] at a b⊢;split at c
   .cases c
   .rename_i j;rw[aK j] at a b⊢;split at c
    .rename_i g;rw[aQ g] at a b⊢;exact key _ _ b a
    .rename_i g;rw[aK g] at b;exact absurd rfl b
 .rename_i f;rw[aK f] at b;exact absurd rfl b
def Wb:∀b t,jg b=true->Valid t->(zp b t).2=0\/(zp b t).2=5:=by
 intro b;induction b with
 | nil=>intro t _ _;exact .inl rfl
 | cons p r f =>
   intro t d e;unfold jg at d;simp only[ado,gw] at d;unfold zp;split
   .rename_i a;exact f _ d.2 (yV e a)
   .rename_i a;right;unfold pV at a⊢;split
    .rename_i c;rw[aQ c] at a;obtain⟨m1,g⟩:=Yy d.1 c.1 c.2;rcases ab0 (x8 p) rfl m1 g e with h|i
     .exact absurd h a
     .exact i
    .rename_i c;rw[aK c] at a;exact absurd rfl a
def ahm{l}(c:l.length<=64)(a:∀q∈l,RdP q):Tb l:=⟨ah,λp b=>a p b⟩
def ab1{s}{l:List Pt}{e}(h:fY (s,())=aa (l,e,()))(c:Tb l):gP (s,())=aa (if e=0/\jg l=true then 0 else 10,()):=by
 unfold gP;rw[h,ab];rw[QP l c];by_cases a:e=0
 .by_cases b:jg l=true
  .rw[au a,aQ b,aQ ⟨a,b⟩];rfl
  .rw[au a,aK b,aK λq=>b q.2];rfl
 .rw[ar a,aK (show ¬(e=0/\jg l=true) from λq=>a q.1)];by_cases b:jg l=true
  .rfl
  .rfl
def ab2{s}{a:List Pt}{e}(h:fY (s,())=aa (a,e,()))(f:Tb a){l}(d:Valid l):jD (l,s,())=aa (if e=0 then((oM l a).1,(oM l a).2,()) else([],10,())):=by
 obtain⟨c,g,i⟩:=mo l (fD d);unfold jD;rw[h,ab,g];rw[ahl l a (fD d) f,i.2 d];by_cases b:e=0
 .rw[au b,aQ b];rfl
 .rw[ar b,aK b];rfl
def K7(t:List Nd)(q:bb):Option Nd:=t.find? λx=>decide (x.1=q)
def Z7 t q:findF t q=match K7 t q with
 | some x=>(x,true,())
 | none=>(Z2,false,()):=rfl
def at_mem{t q x}(h:K7 t q=aa x):x∈t/\x.1=q:=by
 unfold K7 at h
 grind
def Bb{t}(a:Ord t){q x}:K7 t q=aa x↔x∈t/\x.1=q:=by
 refine⟨at_mem,?_⟩
 .rintro⟨b,c⟩;have:=A7 a b c;rw[Z7] at this
  grind
def Z8{a b:Option Nd}(h:∀x,a=aa x↔b=aa x):a=b:=by
 cases a with
 | none =>
   cases b with
   | none=>rfl
   | some y=>exact absurd ((h y).2 rfl) aT
 | some x=>exact((h x).1 rfl).symm
def ab3:∀{l m:List Nd},(l.Pairwise λx y=>cmpL (key x) (key y)<0)->(m.Pairwise λx y=>cmpL (key x) (key y)<0)->(∀c,c∈l↔c∈m)->l=m:=by
 intro l;induction l with
 | nil =>
   intro m _ _ h;cases m with
   | nil=>rfl
   | cons d m=>exact absurd ((h d).2 aT) aT
 | cons c l k =>
   intro m g i h;cases m with
   | nil=>exact absurd ((h c).1 aT) aT
   | cons d m =>
     rw[FB] at g i;have a:∀x,¬cmpL _ (key x)<0:=λx=>by rw[jJ];omega
     have j:c=d:=by
      have b:c=d\/c∈m:=by simpa using(h c).1 aT
      have f:d=c\/d∈l:=by simpa using(h d).2 aT
      rcases b with e|b
      .exact e
      .rcases f with e|f
       .grind
       .exact absurd (mn (g.1 d f)<|i.1 c b) (a c)
     grind
def ajc{s t}(d:Ord s)(e:Ord t)(h:∀q,K7 s q=K7 t q):s=t :=
 ab3 (Ae.1 d) (Ae.1 e) λc=>by
  have a:=Bb d (q:=c.1) (x:=c);have b:=Bb e (q:=c.1) (x:=c)
  grind
def ab4{l}(j:Valid l){p}(v:p≠[]):∀m x,x∈l->(parts x.1).length<=m->ea (parts x.1) (parts p)=true->∃y∈l,y.1=p/\y.2.1=2:=by
 intro m;induction m with
 | zero =>
   intro x d k f;unfold ea at f
   grind
 | succ m z =>
   intro x d k f;by_cases n:∃y∈l,y.1=p
   .by_cases o:(bd x.1).1=[]
    .exfalso;have q:=(fb f).1;have c:=j.may x d;unfold fU xZ at c;simp only[gw] at c;have w:(parts x.1).length<=1:=by
      rcases rS x.1 with ⟨a,_⟩|⟨a,b,A,C,e⟩
      .unfold parts;split
       .simp
       .rw[pN _ a];simp
      .rw[e] at o;subst o;have:=wa.1 c.1.1.1.1.1.1.1.2 [] (by
        unfold parts;rw[A];rw[Fa [] aT];simp)
       exact absurd this aD
     have r:parts p=[]:=yZ.1 ah;have:=dO p;rw[r] at this;exact v this.symm
    .rcases j.up x d with e|⟨y,h,s,t⟩
     .grind
     .have u:=x4 o;rw[<-s] at u;obtain⟨q,i⟩:=fb f;rw[u] at q i;rw[acV<|by simp at q;omega] at i;rcases tL (parts p).length (parts y.1).length with g|g
      .exact z y h (by rw[u] at k;simp at k;omega) (cU ⟨g,i⟩)
      .have B:parts p=parts y.1:=by rw[<-i,JK ah]
       exact⟨y,h,by rw[<-dO y.1,<-B,dO],t⟩
   .have:=Nq j v (λy h e=>n ⟨y,h,e⟩) _ x d (bV _)
    grind
def Z9{t n}(h:(bG t n).2=0) q :
  K7 (bG t n).1 q=if q=n.1 then aa n else if ea (parts q) (parts n.1)=true/\n.2.1≠2 then af else K7 t q:=by
 rcases Nt t n with ⟨_,f⟩|⟨e,f,o,r,g,p,s⟩
 .exact absurd h f
 rw[s];refine Z8 λx=>?_;rw[Bb (QN e f o g p).ord,vB];obtain⟨l,_⟩:=g.sub;by_cases u:q=n.1
 .grind
 .rw[aK u];have i:(x=n\/x∈r)/\x.1=q↔x∈r/\x.1=q:=by
   grind
  rw[i];rcases g with ⟨⟨⟨d,A,v,w⟩,j⟩,rfl⟩|⟨y,rfl⟩
  .rw[aK<|λz=>z.2 j,Bb e.ord]
   grind
  .unfold qq;rw[zx];by_cases k:ea (parts q) (parts n.1)=true
   .by_cases m:n.2.1=2
    .rw[aK<|λz=>z.2 m,Bb e.ord];constructor
     .grind
     .rintro⟨a,c⟩;have:=ab4 e (Z1 f) _ x a (bV _) (by rw[c];exact k)
      grind
    .rw[aQ ⟨k,m⟩];constructor
     .rintro⟨⟨a,b⟩,c⟩;unfold gone at b
      grind
     .grind
   .rw[aK<|λz=>k z.1,Bb e.ord];constructor
    .grind
    .rintro⟨a,c⟩;unfold gone
     grind
def Pz(q:bb)(s:Option Nd):Option Nd:=match s with
 | some x=>if x.2.1=2 then aa x else aa (gA 493 q)
 | none=>aa (gA 493 q)
def Wc{t} p:((findF t p).2.1=true/\(findF t p).1.2.1=2)↔∃x,K7 t p=aa x/\x.2.1=2:=by
 rw[Z7]
 grind
def afh{ns}(h:Nu ns){i j}(a:i<ns.length)(b:j<ns.length)(e:eM ns i=eM ns j):i=j:=by
 have:=congrArg (λp=>(parts p).length) e;simp only[x6 h,dk] at this;omega
def ahn{ns}(h:Nu ns) n (A:n<=ns.length) q:∀d i t,i+d=n->Valid t ->
  (jh ((ns.take n).drop i) (aR<|ns.take i) t).2=0 ->
  ((∃j,i<=j/\j<n/\q=eM ns j)->K7 (jh ((ns.take n).drop i) (aR<|ns.take i) t).1 q=Pz q (K7 t q)) /\
  ((¬∃j,i<=j/\j<n/\q=eM ns j)->K7 (jh ((ns.take n).drop i) (aR<|ns.take i) t).1 q=K7 t q):=by
 intro d;induction d with
 | zero =>
   intro i t v r _;obtain rfl:i=n:=ah;rw[Fy<|by rw[dk];omega];exact⟨λ⟨j,a,b,_⟩=>absurd a ah,λ_=>rfl⟩
 | succ d s =>
   intro i t v r k;have l:(ns.take n).drop i=ns[i]::(ns.take n).drop (i+1):=by
    rw[BT<|by rw[dk];omega,ada]
   have o:eM ns i=aR _:=rfl;rw[l] at k⊢;unfold jh at k⊢;rw[(rC h<|fH ah)] at k⊢;have f:(∃j,i<=j/\j<n/\q=eM ns j)↔(q=eM ns i\/∃j,i+1<=j/\j<n/\q=eM ns j):=by
    grind
   have apart:q=eM ns i->¬∃j,i+1<=j/\j<n/\q=eM ns j:=by
    rintro e ⟨j,a,b,c⟩;have:=afh h ah ah (e.symm.trans c);omega
   by_cases m:(findF t<|eM ns i).2.1=true/\(findF t<|eM ns i).1.2.1=2
   .rw[aQ m] at k⊢;rw[o] at k⊢;obtain⟨w,u⟩:=s _ t ah r k;rw[f];obtain⟨x,B,C⟩:=(Wc _).1 m;constructor
    .rintro(e|e)
     .rw[u<|apart e];unfold Pz
      grind
     .grind
    .grind
   .rw[aK m] at k⊢;by_cases p:(bG t<|gA 493<|eM ns i).2=0
    .rw[aQ p] at k⊢;obtain⟨w,u⟩:=s _ _ ah (yb p) k;have g:=Z9 p q;rw[f];have y:¬(gA 493<|eM ns i).2.1≠2:=λz=>z rfl;constructor
     .rintro(e|e)
      .rw[aQ<|show q=(gA 493<|eM ns i).1 from e] at g;unfold Pz;rw[Wc] at m
       grind
      .rw[aK λz:q=(gA 493<|eM ns i).1=>apart z e] at g
       grind
     .intro e;rw[aK λz:q=(gA 493<|eM ns i).1=>e (.inl z)] at g
      grind
    .grind
def aho(a:List bb)(n:Nd)(q:bb)(s:Option Nd):Option Nd :=
 if q=n.1 then aa n else if ea (parts q) a=true/\n.2.1≠2 then af else if ea a (parts q)=true/\q≠[] then Pz q s else s
def ab5{ns}(h:Nu ns) q:(∃j,0<=j/\j<ns.length-1/\q=eM ns j)↔(ea ns (parts q)=true/\q≠[]):=by
 constructor
 .rintro⟨j,_,f,rfl⟩;rw[x6 h];constructor
  .unfold ea
   grind
  .intro e;have:=congrArg (λp=>(parts p).length) e;simp only[x6 h,dk,show(parts []).length=0 from rfl] at this;omega
 .rintro⟨b,c⟩;obtain⟨g,d⟩:=fb b;have a:0<(parts q).length:=by
   apply Nat.pos_of_ne_zero;intro e;have:=dO q;rw[yZ.1 e] at this;exact c this.symm
  refine⟨(parts q).length-1,pW _,ah,?_⟩;unfold eM;rw[show(parts q).length-1+1=(parts q).length by omega,d,dO]
def ahp{ns}(h:Nu ns){t}(d:Valid t){n}(e:n.1=aR ns)(a:(tI ns t n).2=0) q:K7 (tI ns t n).1 q=aho ns n q (K7 t q):=by
 have b:ns.take _=ns.dropLast:=List.dropLast_eq_take.symm;have f:aR (ns.take 0)=[]:=by simp[aR]
 unfold tI at a⊢;by_cases hd:(jh ns.dropLast [] t).2=0
 .rw[aQ hd] at a⊢;have c:=ahn h (ns.length-1) ah q (ns.length-1) 0 t ah d (by rw[ b];exact hd);rw[ ab5 h] at c;rw[Z9 a q,e,kf ns h];unfold aho
  grind
 .grind
def ab6(q:bb)(s:Option Nd)(p:Pt):Option Nd:=if(bS p).1=0/\(bS p).2.1≠[] then aho (bS p).2.1 (mq p<|aR (bS p).2.1) q s else s
def PA(q:bb)(p:Pt):Bool:=(decide ((bS p).1=1)&&(decide (q=aR (bS p).2.1)||ea (parts q) (bS p).2.1))||(decide ((bS p).1=2)&&ea (parts q) (bS p).2.1)
def afi(q:bb)(a:List Pt)(s:Option Nd):Option Nd:=if a.any (PA q)=true then af else s
def ajd:∀a t,Valid t->(zp a t).2=0->∀q,K7 (zp a t).1 q=a.foldl (ab6 q) (K7 t q):=by
 intro a;induction a with
 | nil=>intro t _ _ q;rfl
 | cons p r f =>
   intro t d c q;unfold zp at c⊢;by_cases b:(pV t p).2=0
   .rw[aQ b] at c⊢;rw[f _ (yV d b) c q,adh]
    congr 1
    unfold pV ab6 at *;by_cases e:(bS p).1=0/\(bS p).2.1≠[]
    .rw[aQ e] at b⊢;rw[aQ e];exact ahp (x8 p).1 d rfl b q
    .grind
   .grind
def aje{t}(a:Valid t) p q:K7 (x9 t p) q=if PA q p=true then af else K7 t q:=by
 have e:=kf _ (x8 p).1;refine Z8 λx=>?_;rw[Bb (ya a p).ord];have key:∀P,(∀x,x.1=q->P x=!PA q p)->((x∈t.filter P/\x.1=q)↔(if PA q p=true then af else K7 t q)=aa x):=by
  by_cases b:PA q p=true
  .grind
  .rw[aK b,Bb a.ord]
   grind
 unfold x9;by_cases c:(bS p).1=1
 .rw[aQ c];refine key _ λy f=>?_;unfold gone PA
  grind
 .rw[aK c];by_cases d:(bS p).1=2
  .rw[aQ d];refine key _ λy f=>?_;unfold PA
   grind
  .rw[aK d];have b:PA q p=false:=by unfold PA;rw[cd c,cd d];rfl
   rw[aK<|by rw[b];decide,Bb a.ord]
def ab7:∀a t,Valid t->∀q,K7 (a.foldl x9 t) q=afi q a (K7 t q):=by
 intro a;induction a with
 | nil=>intro t _ q;rfl
 | cons p r c =>
   intro t b q;rw[adh,c _ (ya b p) q,aje b p q];unfold afi
   grind
def Yz{l}(a:Valid l){ps}(d:jg ps=true)(b:(oM l ps).2=0):Valid (oM l ps).1/\∀q,K7 (oM l ps).1 q=ps.foldl (ab6 q) (afi q ps<|K7 l q):=by
 have e:oM l ps=zp ps (ps.foldl x9 l):=by unfold oM;rw[aQ a,aQ d]
 rw[e] at b⊢;have c:=yW ps l a;refine⟨?_,λq=>?_⟩
 .rcases Ba ps _ c with ⟨_,h⟩|⟨h,_⟩
  .exact h
  .grind
 .rw[ajd ps _ c b q,ab7 ps l a q]
def afj{l:List Nd}(e:Valid l)(a:List Pt):((oM l a).2=0/\jg a=true)\/((oM l a).2≠0/\(oM l a).1=[]/\((oM l a).2=10\/(oM l a).2=5)):=by
 by_cases c:jg a=true
 .have f:oM l a=zp a (a.foldl x9 l):=by unfold oM;rw[aQ e,aQ c]
  rw[f];have g:=yW a l e;rcases Ba a _ g with ⟨d,h⟩|⟨d,h⟩
  .exact .inl ⟨d,c⟩
  .rcases Wb a _ c g with b|b
   .exact absurd b d
   .exact .inr ⟨d,h,.inr b⟩
 .have f:oM l a=([],10):=by unfold oM;rw[aQ e,aK c]
  rw[f];exact .inr ⟨aD,rfl,.inl rfl⟩
def Bc(q:bb)(f:Option Nd->Option Nd):Prop:=(∃c,∀s,f s=c)\/(∀s,f s=Pz q s)\/(∀s,f s=s)
def QS q s:Pz q (Pz q s)=Pz q s:=by
 cases s with
 | none=>rfl
 | some x =>
   show Pz q (if x.2.1=2 then aa x else aa (gA 493 q))=if x.2.1=2 then aa x else aa (gA 493 q)
   by_cases h:x.2.1=2
   .rw[aQ h];show(if x.2.1=2 then aa x else aa _)=_
    rw[aQ h]
   .rw[aK h];rfl
def Bc.comp{q f g}(b:Bc q f)(a:Bc q g):Bc q (λs=>f (g s)):=by
 rcases b with ⟨c,d⟩|b|b
 .exact .inl ⟨c,λs=>d _⟩
 .rcases a with ⟨c,d⟩|a|a
  .exact .inl ⟨Pz q c,λs=>by show f _=_;rw[b,d]⟩
  .exact .inr (.inl λs=>by show f (g s)=_;rw[b,a,QS])
  .exact .inr (.inl λs=>by show f (g s)=_;rw[b,a])
 .rcases a with ⟨c,d⟩|a|a
  .exact .inl ⟨c,λs=>by show f _=_;rw[b,d]⟩
  .exact .inr (.inl λs=>by show f _=_;rw[b,a])
  .exact .inr (.inr λs=>by show f _=_;rw[b,a])
def Bc.akS{q f}(a:Bc q f) s:f (f s)=f s:=by
 rcases a with ⟨c,b⟩|a|a
 .rw[b,b]
 .rw[a,a,QS]
 .rw[a]
def YA q p:Bc q (λs=>ab6 q s p):=by
 unfold ab6;by_cases a:(bS p).1=0/\(bS p).2.1≠[]
 .simp only[aQ a];unfold aho;by_cases b:q=(mq p<|aR (bS p).2.1).1
  .simp only[aQ b];exact .inl ⟨_,λ_=>rfl⟩
  .simp only[aK b];by_cases c:ea (parts q) (bS p).2.1=true/\(mq p<|aR (bS p).2.1).2.1≠2
   .simp only[aQ c];exact .inl ⟨_,λ_=>rfl⟩
   .simp only[aK c];by_cases d:ea (bS p).2.1 (parts q)=true/\q≠[]
    .simp only[aQ d];exact .inr (.inl λ_=>rfl)
    .simp only[aK d];exact .inr (.inr λ_=>rfl)
 .simp only[aK a];exact .inr (.inr λ_=>rfl)
def Wd q:∀(ps:List Pt),Bc q (λs=>ps.foldl (ab6 q) s):=by
 intro ps;induction ps with
 | nil=>exact .inr (.inr λ_=>rfl)
 | cons p r a=>exact a.comp (YA q p)
def We q ps:Bc q (afi q ps):=by
 unfold afi;by_cases h:ps.any (PA q)=true
 .simp only[aQ h];exact .inl ⟨_,λ_=>rfl⟩
 .simp only[aK h];exact .inr (.inr λ_=>rfl)
def afk{l}(a:Valid l){ps}(b:jg ps=true):(oM l ps).2=0\/(oM l ps).2=5:=by
 have c:oM l ps=zp ps (ps.foldl x9 l):=by unfold oM;rw[aQ a,aQ b]
 rw[c];exact Wb ps _ b (yW ps l a)
def ab8{l}(c:Valid l){ps}(a:jg ps=true)(d:(oM l ps).2=0):oM (oM l ps).1 ps=((oM l ps).1,0)\/(oM (oM l ps).1 ps).2=5:=by
 obtain⟨b,e⟩:=Yz c a d;rcases afk b a with h|h
 .left;obtain⟨f,g⟩:=Yz b a h;have:=ajc f.ord b.ord λq=>by
   rw[g,e];exact((Wd q ps).comp<|We q ps).akS _
  exact Prod.ext this h
 .exact .inr h
def Jy(s:bb):List Pt×Int:=match fY (s,()) with
 | some (l,e,_)=>(l,e)
 | none=>([],10)
def K8 s:fY (s,())=aa ((Jy s).1,(Jy s).2,())/\Tb (Jy s).1:=by
 obtain⟨d,e,a,b,c,_⟩:=ae5 s;unfold Jy;rw[a];exact⟨rfl,ahm b c⟩
def mr(l:List Nd)(s:bb):List Nd×Int:=if(Jy s).2=0 then oM l (Jy s).1 else([],10)
def QU{l}(a:Valid l) s:jD (l,s,())=aa ((mr l s).1,(mr l s).2,()):=by
 obtain⟨b,c⟩:=K8 s;rw[ab2 b c a];unfold mr;by_cases h:(Jy s).2=0
 .rw[aQ h,aQ h]
 .rw[aK h,aK h]
def Iq{l}(c:Valid l) s:((mr l s).2=0/\Valid (mr l s).1/\(mr (mr l s).1 s=((mr l s).1,0)\/(mr (mr l s).1 s).2=5))\/((mr l s).2≠0/\(mr l s).1=[]):=by
 unfold mr;by_cases h:(Jy s).2=0
 .rw[aQ h];simp only[aQ h];rcases afj c (Jy s).1 with ⟨a,b⟩|⟨a,b,_⟩
  .exact .inl ⟨a,(Yz c b a).1,ab8 c b a⟩
  .exact .inr ⟨a,b⟩
 .rw[aK h];exact .inr ⟨aD,rfl⟩
def zq:List bb->List Nd->List Nd×Int
 | [],t=>(t,0)
 | s::r,t=>if(mr t s).2=0 then zq r (mr t s).1 else([],(mr t s).2)
def ahq r (q:r.length<=1000):qh (r,())=aa ((zq r []).1,(zq r []).2,()):=by
 have key:∀d i t,i+d=r.length->Valid t->∃z,Loop (fZ (r,())) ((([]:List Nd),(0:Int),t,(i:Int),()),())=aa z /\
   (((zq (r.drop i) t).2=0/\z.1=0/\z.2.1.2.2.1=(zq (r.drop i) t).1)\/((zq (r.drop i) t).2≠0/\z.1=1/\z.2.1.1=(zq (r.drop i) t).1/\z.2.1.2.1=(zq (r.drop i) t).2)):=by
  intro d;induction d with
  | zero =>
    intro i t n k;obtain rfl:i=r.length:=ah;rw[IW];have o:fZ (r,()) ((([]:List Nd),(0:Int),t,(r.length:Int),()),())=aa (.inr (0,(([]),0,t,r.length,()),())):=by
     unfold fZ;dsimp only;rw[aq,ag]
    exact⟨(0,_),by rw[aN,o];rfl,.inl ⟨rfl,rfl,rfl⟩⟩
  | succ d p =>
    intro i t n k;rw[BT ah];unfold zq;have g:fZ (r,()) ((([]),0,t,i,()),())=aa (if(mr t r[i]).2=0 then .inl ((([]),0,(mr t r[i]).1,((i+1):Int),()),()) else .inr (1,(([]),(mr t r[i]).2,t,i,()),())):=by
     unfold fZ;dsimp only;rw[al ah,ao (fH ah),ab,QU k,ab,aB ah];by_cases f:(mr t r[i]).2=0
     .rw[au f,aQ f];rfl
     .rw[ar f,aK f];rfl
    by_cases f:(mr t r[i]).2=0
    .rw[aQ f] at g⊢;have l:Valid (mr t r[i]).1:=by
      rcases Iq k r[i] with ⟨_,h,_⟩|⟨h,_⟩
      .exact h
      .exact absurd f h
     obtain⟨z,m,j⟩:=p (i+1) _ ah l;exact⟨z,by rw[aN,g];exact m,j⟩
    .rw[aK f] at g⊢;exact⟨(1,_),by rw[aN,g];rfl,.inr ⟨f,rfl,rfl,rfl⟩⟩
 obtain⟨z,m,j⟩:=key r.length 0 [] ah (A8 Yq.1);rw[DU] at j;unfold qh;rw[show Loop (fZ _) ((([]),0,([]),0,()),())=_ from m,ab];rcases j with ⟨a,b,c⟩|⟨a,b,c,e⟩
 .rw[b,c,a];rfl
 .rw[b,c,e];rfl
def QV b (l:b.length<=100000):wy (b,())=aa (decide (b.length=512/\∀x∈b,x=0),()):=by
 have g:∀y:UInt8,aG _ 0=decide (y=0):=λy=>Ek (n:=0);have h:=afa (f:=qB (b,())) b (λi=>((false,i,()),())) (λx=>!decide _) _ _ (λi x a=>by
  have hi:=av a;unfold qB;rw[al hi,ao a,ab,g,aB ah];cases decide (x=0)<;>rfl) (by
  unfold qB;rw[aq,ag]) b.length 0 ah
 unfold wy;rcases h with ⟨j,x,_,a,k,_,c⟩|⟨m,c⟩
 .rw[show Loop _ ((false,(0:Int),()),())=_ from c,ab,gL,ag];have d:x≠0:=by simpa using k
  rw[cd λq:b.length=512/\∀x∈b,x=0=>d (q.2 x<|eG a)]
 .rw[show Loop _ ((false,(0:Int),()),())=_ from c,ab,cO,ai];have e:∀x∈b,x=0:=λx a=>by
   obtain⟨i,hi⟩:=bc.1 a
   grind
  have:aG (len b) 512=decide (b.length=512/\∀x∈b,x=0):=by
   unfold aG len
   grind
  grind
def ab9 b (o:b.length<=100000):wz (b,())=aa (decide (1024<=b.length/\b.length % 512=0/\∀x∈b,x=0),()):=by
 have g:∀y:UInt8,aG _ 0=decide (y=0):=λy=>Ek (n:=0);have h:=afa (f:=qC (b,())) b (λi=>((false,i,()),())) (λx=>!decide _) _ _ (λi x a=>by
  have hi:=av a;unfold qC;rw[al hi,ao a,ab,g,aB ah];cases decide (x=0)<;>rfl) (by
  unfold qC;rw[aq,ag]) b.length 0 ah
 unfold wz;dsimp only;by_cases k:1024<=b.length
 case neg =>
  rw[aH<|by rw[bw];omega,aW,ag,ab,ai,cd λq:1024<=b.length/\b.length % 512=0/\∀x∈b,x=0=>k q.1]
 rw[aC<|by rw[bw];omega,aE,ai,show aG 512 0=false from rfl,ag,show gd _ 512=((b.length % 512):Int) from rfl];by_cases l:b.length % 512=0
 case neg =>
  rw[ar ah,aE,ab,ai,cd λq:1024<=b.length/\b.length % 512=0/\∀x∈b,x=0=>l q.2.1]
 rw[au ah,aW,ab,ag];rcases h with ⟨j,x,_,a,m,_,c⟩|⟨p,c⟩
 .rw[show Loop _ ((false,(0:Int),()),())=_ from c,ab,gL,ag];have d:x≠0:=by simpa using m
  rw[cd λq:1024<=b.length/\b.length % 512=0/\∀x∈b,x=0=>d (q.2.2 x<|eG a)]
 .rw[show Loop _ ((false,(0:Int),()),())=_ from c,ab,cO,ai];have e:∀x∈b,x=0:=λx a=>by
   obtain⟨i,hi⟩:=bc.1 a
   grind
  grind
abbrev PS:=(bb×(List Pt×(Bool×(aj×aj))))×(List Pt×aj)
def ps0(r:bb)(a:List Pt):PS:=((r,([]:List Pt),false,(),()),a,())
def QW r out (v:r.length<=8192):∃p f g,bX ((),rd r (out.length:Int),())=aa ((p,f,()),g,()) /\
  ((f=false/\∃b z,g=GZ (out.length:Int) b/\eo (ps0 r out)=aa (.inr z)/\((z.1=0/\b=true)\/(z.1=1/\z.2.1.2.1=out/\z.2.1.2.2.1=!b))) \/
   (f=true/\∃h,g=rd h ((out.length+1:Nat):Int)/\h.length+512<=r.length/\out.length<64/\eo (ps0 r out)=aa (.inl<|ps0 h<|out++[p]))):=by
 by_cases c:r.length<512
 .refine⟨_,_,_,Ng r out.length c,.inl ⟨rfl,true,(0,ps0 r out),rfl,?_,.inl ⟨rfl,rfl⟩⟩⟩;unfold eo ps0;dsimp only;rw[cG<|by rw[bw];omega,ag]
 have i:(r.take 512).length=512:=by rw[dk];omega
 have d:inside 0 512 (len r)=true:=aO aD aD (by rw[bw];omega);by_cases j:∀x∈r.take 512,x=0
 .refine⟨_,_,_,QG r out.length ah ah j,.inl ⟨rfl,_,(1,(r,out,decide (1024<=r.length/\r.length % 512=0/\∀x∈r,x=0),(),()),out,()),rfl,?_,.inr ⟨rfl,rfl,aT⟩⟩⟩;unfold eo ps0;dsimp only;rw[bz<|by rw[bw];omega,ai,d,ai,show sub r 0 (minus 512 0)=r.take 512 from fT r 512,QV _ ah,ab,cU ⟨i,j⟩,ai,ab9 r ah,ab]
 have e:=λb=>G0 r out.length b;obtain⟨x,n,m,o⟩:=ZY _ i;have s:(r.drop 512).length=r.length-512:=rj;unfold bX eo ps0;dsimp only[rd] at e⊢;rw[aW,aE,ai,ag,aC (by rw[bw];omega),ag,d,show sub r 0 (minus 512 0)=r.take 512 from fT r 512];rw[M5 _ ah,ab,bz (a:=512) (by rw[bw];omega),QV _ ah,ab];rw[cd (λq:(r.take 512).length=512/\∀x∈r.take 512,x=0=>j q.2),m,((take_same _ i).trans m),ab,ab,aO aD (by rw[bw];omega) (tr _),ai,show sub r 512 (minus _ 512)=r.drop 512 from jd r 512 ah];by_cases l:n=0
 case neg =>
  rw[ar l];exact⟨_,_,_,rfl,.inl ⟨rfl,_,_,rfl,rfl,.inr ⟨rfl,rfl,rfl⟩⟩⟩
 rw[au l];obtain⟨t,w⟩:=(o l).2.2.2.1;obtain⟨k,u⟩:=TM t;rw[u];by_cases y:8192<k
 .rw[aH<|by rw[bw];omega,ai,e,ab,aH ah];exact⟨_,_,_,rfl,.inl ⟨rfl,_,_,rfl,rfl,.inr ⟨rfl,rfl,rfl⟩⟩⟩
 have A:=VP k;rw[aC (a:=8192) ah,show nc _=_ from VT k ah,ab];rw[show aw .i64 512 _=_ from z6 (a:=512) ah];by_cases B:(r.drop 512).length<k
 .rw[aH<|by rw[bw];omega,ai,e,ab,aH (by rw[bw];omega)];exact⟨_,_,_,rfl,.inl ⟨rfl,_,_,rfl,rfl,.inr ⟨rfl,rfl,rfl⟩⟩⟩
 .rw[aC<|by rw[bw];omega,ag,VQ k ah,ab,fA ah ah];by_cases C:(r.drop 512).length<k+Bz k
  .rw[aH<|by rw[bw];omega,aH (by rw[bw];omega)];exact⟨_,_,_,rfl,.inl ⟨rfl,_,_,rfl,rfl,.inr ⟨rfl,rfl,rfl⟩⟩⟩
  .rw[aC<|by rw[bw];omega,aC (by rw[bw];omega)];by_cases D:64<=out.length
   .rw[bz ah,bz (by rw[bw];omega)];exact⟨_,_,_,rfl,.inl ⟨rfl,_,_,rfl,rfl,.inr ⟨rfl,rfl,rfl⟩⟩⟩
   .rw[cG ah,ab,fA ah ah,aO ah (by rw[bw];omega) (tr _),ai,aO ah ah (by rw[bw];omega),ai];rw[ show _+_=((k+Bz k:Nat):Int) by omega,jd _ _ ah,aB ah];rw[cG<|by rw[bw];omega];have es:sub r 512 (minus ((512+k:Nat):Int) 512)=(r.drop 512).take k:=by
     unfold sub minus
     grind
    refine⟨_,_,_,rfl,.inr ⟨rfl,_,rfl,?_,ah,?_⟩⟩
    .grind
    .rw[show aw .i64 512 _=_ from z6 (a:=512) ah,es];rw[show ak _ _ _=aa false from rfl];rw[ab,aO aD ah (by rw[bw];omega),aJ cT,ab];rw[show aw .i64 512 _=_ from z6 (a:=512) ah,aO ah (by rw[bw];omega) (tr _),jd r _ ah,Aq];rfl
def aca:∀m r (out:List Pt) (p:Pt),r.length<=m->r.length<=8192->out.length<=63 ->
  ∃(c:List Pt) (d:Pt) (b:Int×Bool) (z:Nat×PS),Loop kq (((),(),true,()),p,out,rd r ((out.length+1:Nat):Int),())=aa (((),(),false,()),d,c,GZ b.1 b.2,()) /\
   Loop eo (ps0 r<|out++[p])=aa z/\((z.1=0/\b.2=true)\/(z.1=1/\z.2.1.2.1=c/\z.2.1.2.2.1=!b.2)):=by
 intro m;induction m using Nat.strongRecOn with
 | _ m h =>
   intro r out p x i j;obtain⟨e,k,l,f,n⟩:=QW r _ i;have hlen:((out++[p]).length:Int)=((out.length+1:Nat):Int):=aT;rw[hlen] at f;have a:=QH p out _ ah f;rcases n with ⟨rfl,b,z,rfl,q,s⟩|⟨rfl,g,rfl,y,A,t⟩
   .refine⟨out++[p],e,(((out++[p]).length:Int),b),z,?_,by rw[aN,q];rfl,s⟩;rw[aN,a];show Loop _ _=_
    rw[aN];rfl
   .obtain⟨o,d,b,z,u,v,w⟩:=h g.length ah g (out++[p]) e (bV _) ah ah;exact⟨o,d,b,z,by rw[aN,a];exact u,by rw[aN,t];exact v,w⟩
def QX s:l5 (s,())=fY (s,()):=by
 by_cases f:8192<s.length
 .rw[QI s f];unfold l5 uH;dsimp only;rw[aH<|by rw[bw];omega];rfl
 obtain⟨p,v,w,g,h⟩:=QW s [] ah;have fin:∀(b:Int×Bool) (o:List Pt),(ae (iz ((),GZ b.1 b.2,())) λa=>ak a.1.1 (aa _) (aa (o,_)))=aa (if b.2=true then(([]),(10:Int),()) else(o,0,())):=λb o=>by
  obtain⟨x,i⟩:=b;cases i<;>rfl
 have parts:∀o b z,Loop eo (ps0 s [])=aa z->((z.1=0/\b=true)\/(z.1=1/\z.2.1.2.1=o/\z.2.1.2.2.1=!b))->l5 (s,())=aa (if b=true then _ else _):=λo b z j k=>by
  unfold l5 uH;dsimp only;rw[aC<|by rw[bw];omega,show Loop eo ((s,_),_)=_ from j,ab];rcases k with ⟨c,d⟩|⟨c,d,l⟩
  .rw[c,d];rfl
  .rw[c,d,l];cases b<;>rfl
 unfold fY;dsimp only;rw[aC<|by rw[bw];omega,show bX ((),(true,s,0,_),())=_ from g,ab];rcases h with ⟨rfl,b,z,rfl,m,n⟩|⟨rfl,e,rfl,y,A,q⟩
 .rw[aN];show _=(ae (iz _) λa=>ak a.1.1 _ _)
  rw[fin (_,b),parts [] b z (by rw[aN,m];rfl) n]
 .obtain⟨o,B,b,z,r,t,u⟩:=aca e.length e [] p (bV _) ah aT;rw[show Loop kq _=_ from r,ab];rw[fin b o];exact parts o b.2 z (by rw[aN,q];exact t) u
def CT s:nd (s,())=aa (if(Jy s).2=0/\jg (Jy s).1=true then 0 else 10,()):=by
 obtain⟨d,e⟩:=K8 s;unfold nd;rw[QX s,d,ab];rw[CQ _ e];by_cases a:(Jy s).2=0
 .rw[au a];by_cases c:jg (Jy s).1=true
  .rw[c,aQ ⟨a,rfl⟩];rfl
  .have b:jg (Jy s).1=false:=by simpa using c
   rw[b,aK λq=>Bool.noConfusion q.2];rfl
 .rw[ar a,aK λq=>a q.1];rfl
def Wf{l}(a:Valid l){ps}(b:¬jg ps=true):oM l ps=([],10):=by unfold oM;rw[aQ a,aK b]
def Fj(a:List cD)(id:Tx):Option Nat:=a.findIdx? λx=>decide (x.1=id)
def D3(a:List cD)(id:Tx):Int:=match Fj a id with|some i=>(i:Int)|none=>-1
def CU{ls id i x}(a:ls[i]?=aa x)(b:x.1=id)(c:∀j y,j<i->ls[j]?=aa y->decide (y.1=id)=false):Fj ls id=aa i:=by
 unfold Fj;rw[WW]
 grind
def NH{ls id}(b:∀(i:Nat) x,ls[i]?=aa x->decide (x.1=id)=false):Fj ls id=none:=by
 unfold Fj;rw[Y2];intro x a;obtain⟨i,c⟩:=bc.1 a
 grind
def Bd{ls id i}(h:Fj ls id=aa i):∃x,ls[i]?=aa x/\x.1=id:=by
 unfold Fj at h;rw[WW] at h
 grind
def ahs{ls id}:(∃i,Fj ls id=aa i)↔∃x∈ls,x.1=id:=by
 constructor
 .rintro⟨i,h⟩;obtain⟨x,a,b⟩:=Bd h
  grind
 .rintro⟨x,a,b⟩;cases h:Fj ls id with
  | some i=>exact⟨i,rfl⟩
  | none =>
    unfold Fj at h
    grind
def QY{f} ls (id:Tx) (m:ls.length<=1000000)
  (b:∀c i,f ((c,i,()),())=ak (aL i<|len ls) (ae (idx ls i) λy=>ak (bt y.1 id) (aa<|.inr (1,(i,i,()),())) (aa<|.inl ((c,aw .i64 i 1,()),()))) (aa<|.inr (0,(c,i,()),()))) :
  ae (Loop f ((0,0,()),())) (λd=>ak (cl d.1 0) (aa ((-1:Int),())) (aa (d.2.1.1,())))=aa (D3 ls id,()):=by
 rcases eu (f:=f) ls (λi=>((0,i,()),())) (λ_ x=>decide (x.1=id)) (λi x=>(1,(i,i,()),())) _ ah (λi x a e g=>by
  rw[b,al e,ai,ao a,ab,da,g];by_cases h:x.1=id<;>simp[bt,h]) (by rw[b,aq];rfl) with ⟨i,x,a,j,k,h⟩|⟨l,h⟩
 .rw[h];unfold D3;rw[CU a (fb j) k];rfl
 .rw[h];unfold D3;rw[NH l];rfl
def NI(a:List cD)(id:Tx)(b:a.length<=1000000):AK (a,id,())=aa (D3 a id,()):=QY a id b λc i=>rfl
def Fk(s:aU)(id:Tx)(a:s.2.2.1.length<=1000000):sM (s,id,())=aa (D3 s.2.2.1 id,()):=QY s.2.2.1 id a λc i=>rfl
def Kr(a:List cD):Nat->Tx->List cD->List cD×Int
 | n,id,acc=>match Fj a id with
   | none=>([],3)
   | some i=>match n,a[i]? with
     | 0,_=>([],5)
     | n+1,aa x=>if x.2.1=[] then(acc++[x],0) else Kr a n x.2.1 (acc++[x])
     | _,af=>([],3)
def dx(a:List cD)(id:Tx):List cD×Int:=Kr a 16 id []
def YB(a:List cD)(c:Tx)(d:a.length<=1000000):∀n (id:Tx) (acc:List cD) k,n+k=16->acc.length<=k ->
  ∃f g j,Loop (lu (a,c,())) ((id,([]:List cD),0,(),k,()),acc,())=aa (1,(f,(Kr a n id acc).1,(Kr a n id acc).2,g),j):=by
 intro n;induction n with
 | zero =>
   intro id acc k l m;rw[aN];unfold lu;dsimp only;rw[bz ah,ai,NI a id d,ab];unfold Kr D3;cases h:Fj a id with
   | none=>exact⟨_,_,_,rfl⟩
   | some i =>
     dsimp only;rw[aC ah,ag,au ah,ai];simp_all
 | succ n o =>
   intro id acc k l m;rw[aN];unfold lu;dsimp only;rw[bz ah,NI a id d,ab];unfold Kr D3;cases h:Fj a id with
   | none=>exact⟨_,_,_,rfl⟩
   | some i =>
     obtain⟨x,e,p⟩:=Bd h;dsimp only;rw[ ar ah,ao e,ab,show fits _=true from aJ (by show _+1<=_;omega),ab,e];dsimp only;rw[dq];by_cases b:x.2.1=[]
     .rw[cU b,aQ b];exact⟨_,_,_,rfl⟩
     .rw[cd b,aK b,aB ah];have:=o x.2.1 (acc++[x]) (k+1) ah (by rw[iC];show _+1<=_;omega);exact this
def Dx(a:List cD)(id:Tx)(b:a.length<=1000000):ng (a,id,())=aa ((dx a id).1,(dx a id).2,()):=by
 unfold ng;obtain⟨d,e,f,h⟩:=YB a id b 16 id [] 0 rfl (bV _);have c:Loop (lu _) ((id,([]),0,(),0,()),_)=_:=h;rw[c];rfl
def aht{ls}:∀{n id acc},(∀x∈acc,x∈ls)->(∀x∈(Kr ls n id acc).1,x∈ls)/\(Kr ls n id acc).1.length<=n+acc.length:=by
 intro n;induction n with
 | zero =>
   unfold Kr
   grind
 | succ n a =>
   intro id acc h;unfold Kr;cases b:Fj ls id with
   | none=>simp
   | some i =>
     grind
def QZ{ls id}:(∀x∈(dx ls id).1,x∈ls)/\(dx ls id).1.length<=16:=by
 obtain⟨a,b⟩:=aht (acc:=[]) BS;exact⟨a,by unfold dx;simpa using b⟩
def NJ{l}(a:Valid l) s:qg (l,s,())=aa ((mr l s).1,(mr l s).2,()):=by
 obtain⟨d,e⟩:=K8 s;obtain⟨v,f,g⟩:=oL l (fD a);unfold qg;rw[f,ab,g.2 a];rw[aW,ag,CT s,ab,QX s,d];unfold mr;by_cases b:(Jy s).2=0
 .rw[aQ b];by_cases c:jg (Jy s).1=true
  .rw[aQ ⟨b,c⟩,show nt _=false from rfl,ag,ab,Yx l _ (fD a) e,ab]
  .rw[aK<|λq=>c q.2,Wf a c];rfl
 .rw[aK b,aK λq=>b q.1];rfl
def acb(b:List Tx)(p:b.length<=1000000):yN (b,())=aa ((zq b []).1,(zq b []).2,()):=by
 unfold yN;have key:∀r t k,b=b.take k++r->k+r.length=b.length->Valid t->∃q,(Loop (iU (b,())) ((([]:List Nd),(0:Int),t,(k:Int),()),())=aa (1,(([]),(zq r t).2,q),())/\(zq r t).1=[]) \/
   ∃j l m,Loop (iU (b,())) ((([]:List Nd),(0:Int),t,(k:Int),()),())=aa (0,(j,l,(zq r t).1,m),())/\(zq r t).2=0:=by
  intro r;induction r with
  | nil =>
    intro t k n a e;rw[p6,FC] at a;refine⟨((t,k,()):List Nd×Int×aj),.inr ⟨[],0,(k,()),?_,rfl⟩⟩;rw[aN];unfold iU;rw[a,aq];rfl
  | cons d r o =>
    intro t k n a e;rw[iD] at a;have hx:b[k]?=aa d:=by
     grind
    have step:iU (b,()) ((([]),0,t,k,()),())=aa (if(mr t d).2=0 then .inl ((([]),0,(mr t d).1,((k+1:Nat):Int),()),()) else .inr (1,(([]),(mr t d).2,t,k,()),())):=by
     unfold iU;dsimp only;rw[al ah,ai,ao hx,ab,NJ e d,ab,aB ah];by_cases c:(mr t d).2=0
     .rw[au c,aW,ag,aQ c]
     .rw[ar c,aE,ai,aK c]
    rw[aN,step];unfold zq;by_cases c:(mr t d).2=0
    .rw[aQ c,aQ c];have f:Valid (mr t d).1:=by
      rcases Iq e d with ⟨_,h,_⟩|⟨h,_⟩
      .exact h
      .grind
     exact o (mr t d).1 _ (by rw[yn,hx];simpa using n) ah f
    .grind
 obtain⟨q,⟨h,g⟩|⟨j,l,m,h,g⟩⟩:=key b [] 0 aT aT (A8 Yq.1)
 .have i:Loop _ ((([]),(0:Int),([]),(0:Int),()),())=_:=h;rw[i,ab,g];rfl
 .have i:Loop (iU _) ((([]),0,([]),0,()),())=_:=h;rw[i,g];rfl
def NK(a:List cD)(b:List Tx)(id:Tx):Tx:=match Fj a id with|some i=>(b[i]?).getD []|none=>[]
def mS(a:List cD)(b:List Tx)(id:Tx):List Nd×Int :=
 if(dx a id).2=0 then zq ((dx a id).1.reverse.map λx=>NK a b x.1) [] else([],(dx a id).2)
def Be(s:aU)(i:Nat):j6 (s,i,())=aa ((s.2.2.2.1[i]?).getD [],()):=by
 unfold j6;dsimp only;by_cases h:i<s.2.2.2.1.length
 .have hx:=fH h;rw[al h,ao hx,hx];rfl
 .have hx:s.2.2.2.1[i]?=none:=FA ah;rw[aC dR,hx];rfl
def Bf(s:aU)(id:Tx)(h:s.2.2.1.length<=1000000):ma (s,id,())=aa ((mS s.2.2.1 s.2.2.2.1 id).1,(mS s.2.2.1 s.2.2.2.1 id).2,()):=by
 obtain⟨j,d⟩:=QZ;unfold ma mS;rw[Dx _ id h,ab];by_cases b:(dx s.2.2.1 id).2=0
 .rw[au b,aW,ag,aQ b];generalize (dx s.2.2.1 id).1=c at j d;generalize l:(c,_)=q;have e:q.1=c:=by rw[<-l]
  have key:∀n a,n<=c.length->a.length+n<=1000->∃z,Loop (mK (s,id,()) q) (((),n-1,()),a,())=aa (z,(a++(c.take n).reverse.map λx=>NK s.2.2.1 s.2.2.2.1 x.1,())):=by
   intro n;induction n with
   | zero =>
     intro a _ _;rw[aN];unfold mK;dsimp only;rw[cG ah,ag];simp[cq]
   | succ n m =>
     intro a o p;obtain⟨x,f⟩:∃x,c[n]?=aa x:=⟨_,fH ah⟩;obtain⟨i,k⟩:=ahs.2 ⟨x,j x (eG f),rfl⟩;have hd:NK s.2.2.1 s.2.2.2.1 x.1=(s.2.2.2.1[i]?).getD []:=by unfold NK;rw[k]
     obtain⟨z,g⟩:=m (a++[NK s.2.2.1 s.2.2.2.1 x.1]) ah (by rw[iC];show _+1+n<=_;omega);refine⟨z,?_⟩;have step:mK (s,id,()) q (((),n,()),a,())=aa (.inl (((),n-1,()),a++[NK s.2.2.1 s.2.2.2.1 x.1],())):=by
      unfold mK;dsimp only;rw[ e,ao f,ab,Fk s x.1 h,ab];rw[show D3 s.2.2.1 x.1=i by unfold D3;rw[k],Be s i,ab,<-hd];rw[show fits _=true from aJ (by show _+1<=_;omega),df ah ah];rfl
     rw[show((n+1:Nat):Int)-1=n by omega,aN,step];refine T8 g ?_;rw[yn,f];simp
  obtain⟨z,g⟩:=key c.length [] (bV _) cT;have hlen:cA .i64 (len c) 1=c.length-1:=df dR dR;rw[hlen,g,ab];rw[zw,Lk,acb _ (by rw[y4,PT];omega),ab]
 .rw[ar b,aE,ai,aK b]
def CV(s:Tx):Prop:=(Jy s).2=0/\jg (Jy s).1=true
section
variable {α:Type} (key:α->Tx)
def p5(l:List α)(x:α):List α:=l.takeWhile (λy=>fM (key y) (key x))++[x]++l.dropWhile (λy=>fM (key y) (key x))
def di(l:List α)(p:Tx):Nat:=(l.takeWhile λy=>fM (key y) p).length
def lG l p:di key l p<=l.length:=by
 unfold di;have:=congrArg List.length (BJ (p:=λy=>fM (key y) p) (l:=l));rw[iC] at this;omega
def Bg(l:List α) x:l.take (di key l<|key x)=l.takeWhile (λy=>fM (key y) (key x))/\l.drop (di key l<|key x)=l.dropWhile (λy=>fM (key y) (key x)):=by
 have e:=BJ (p:=λy=>fM (key y) (key x)) (l:=l);refine⟨?_,?_⟩
 .unfold di
  conv=>lhs;rw[<-e]
  rw[List.take_left'];rw[e]
 .unfold di
  conv=>lhs;rw[<-e]
  rw[List.drop_left'];rw[e]
def ug l x (a:l.length<=1000000):tR l ((di key l (key x):Nat):Int) [x]=aa (p5 key l x):=by
 have b:=lG key l (key x);unfold tR p5;rw[show inside 0 _ _=true from aO aD ah dR,aJ cT];rw[vb,(Bg key l x).1,(Bg key l x).2];rfl
def mu{S R f} l (p:Tx) (v:l.length<=1000000) (mk:Int->S) (c:Nat->R) fin
  (o:∀(i:Nat) y,l[i]?=aa y->f (mk i)=aa (if fM (key y) p=true then .inl (mk ((i+1:Nat):Int)) else .inr (c i))) (q:f (mk (l.length:Int))=aa (.inr fin)) :
  Loop f (mk 0)=aa (if di key l p<l.length then c (di key l p) else fin):=by
 have d:∀k,k<=l.length->(∀j y,j<k->l[j]?=aa y->fM (key y) p=true)->(∀y,l[k]?=aa y->fM (key y) p=false)->di key l p=k:=by
  intro k s g m;have e:l.takeWhile (λy=>fM (key y) p)=l.take k:=by
   clear o q
   revert k
   induction l with
   | nil=>simp
   | cons a r w =>
     intro k s g m;cases k with
     | zero=>rw[Y8,m a rfl];rfl
     | succ k =>
       rw[Y8,g 0 a ah rfl,aQ rfl,Y9,w (by simp at v;omega) k (by simp at s;omega) (λj y t b=>g (j+1) y ah b) λy b=>m y b]
  unfold di;rw[e,dk];omega
 rcases eu l mk (λ_ y=>!fM _ p) _ fin ah (λi y b u B=>by
  rw[o i y b];cases fM _ p<;>rfl) q with ⟨i,x,hx,z,t,h⟩|⟨A,h⟩
 .have u:=av hx;have:=d i ah (λj y n b=>by simpa using t j y n b) (λy b=>by
   rw[hx] at b;obtain rfl:=aI b;simpa using z)
  rw[h,this,aQ u]
 .have:=d l.length (bV _) (λj y _ b=>by simpa using A j y b) (λy b=>by rw[FA<|bV _] at b;cases b);rw[h,aK ah]
def Q0 l x:(p5 key l x).Perm (x::l):=by
 have h:(l.takeWhile (λy=>fM (key y) (key x))++[x]++l.dropWhile λy=>fM (key y) (key x)).Perm (x::(l.takeWhile (λy=>fM (key y) (key x))++l.dropWhile λy=>fM (key y) (key x))):=by
  rw[xg];exact List.perm_middle
 rw[(BJ (p:=λy=>fM (key y) (key x)) (l:=l))] at h;exact h
def yc{l x y}:y∈p5 key l x↔y=x\/y∈l:=by rw[(Q0 key l x).mem_iff,fh]
def vD l x:(p5 key l x).length=l.length+1:=by rw[(Q0 key l x).length_eq,iD]
def YC(l:List α)(p:Tx):List α:=l.filter λx=>decide (key x≠p)
def ahu{l p x}:x∈YC key l p↔x∈l/\key x≠p:=by unfold YC;rw[zx,TU]
def K9 l p:(YC key l p).Sublist l:=List.filter_sublist
def afl{l p}(h:∀x∈l,key x≠p):YC key l p=l:=by
 unfold YC;rw[Lf];intro x a;exact cU (h x a)
end
abbrev tD:=Int×Tx×Int×Tx×aj
def jq(e:Int):tD:=(e,[],0,[],())
def Er(id:Tx):tD:=(0,id,0,[],())
def yp(s:aU):List Nm:=s.2.1.flatMap ofI
def ix(s:aU):List Nm:=s.2.2.1.flatMap ofL
def Dy(s:aU):List Nm:=s.1.flatMap ofB
structure qs (s:aU):Prop where
 ll:s.2.2.1.length<=60
 il:s.2.1.length<=60
 bl:s.1.length<=60
 ln:∀x∈s.2.2.1,pL x.2.2.1
 rZ:∀x∈s.2.1,pL x.2.1
 bn:∀x∈s.1,pL x.2.1
 it:∀x∈s.2.1,vz x.2.2.2.2.1
def qs.acd{s}(h:qs s):SR (0,s.2.2.1,[],[],()):=⟨h.ll,h.ln,aT,λx a=>(by cases a),aT,λx a=>(by cases a)⟩
def qs.ajf{s}(h:qs s):SR (0,[],s.2.1,[],()):=⟨aT,λx a=>(by cases a),h.il,h.rZ,aT,λx a=>(by cases a)⟩
def qs.ajg{s}(h:qs s):SR (0,[],[],s.1,()):=⟨aT,λx a=>(by cases a),aT,λx a=>(by cases a),h.bl,h.bn⟩
def Dz{s}(h:qs s):Small (ix s):=Du 3 _ h.acd
def DA{s}(h:qs s):Small (yp s):=Du 2 _ h.ajf
def La{s}(h:qs s):(ix s).length<=60:=fi (lO KZ _) h.ll
def Te{s}(h:qs s):(yp s).length<=60:=fi (lO GO _) h.il
def Af s (h:qs s):lr (s,())=aa (ix s,()):=by
 unfold lr;rw[wR 3 _ h.acd];rfl
def Ag s (h:qs s):gq (s,())=aa (yp s,()):=by
 unfold gq;rw[wR 2 _ h.ajf];rfl
def jK s (ref:Tx) (h:qs s):eI (s,ref,())=aa (aS (ix s) ref):=by
 unfold eI;rw[Af s h,ab,mR _ _ (Dz h) (by have:=La h;omega),ab]
def BA s (ref:Tx) (h:qs s):nf (s,ref,())=aa (aS (yp s) ref):=by
 unfold nf;rw[Ag s h,ab,mR _ _ (DA h) (by have:=Te h;omega),ab]
def rX(l:List Tx)(h:l.length<=4294967296):aX (l,())=aa (l,()):=xR l h
def rY(l:List Item)(h:l.length<=4294967296):bL (l,())=aa (l,()):=by
 unfold bL;rw[dh h];rfl
def CW(s:aU)(x:lD)(l:s.2.1.length<=1000000)(v:x.2.1.length<=4294967296)(e:x.2.2.2.2.1.length<=4294967296)(g:∀y∈s.2.1,y.1≠x.1) :
  gk (s,x,())=aa ((s.1,(p5 (·.1) s.2.1 x,s.2.2)),()):=by
 obtain⟨w,b,c⟩:=s;obtain⟨a,m,n,o,p,u⟩:=x;dsimp only at l v e g;unfold gk;dsimp only;rw[rX _ v,ab,rY _ e,ab];unfold dN;rw[ab,dh ah,ai];have r:Loop (eQ ((w,b,c),(a,m,n,o,p,u),())) ((0,0,()),(),a,())=aa (0,(0,len b,()),(),a,()):=by
  rcases eu (f:=eQ ((w,b,c),_)) b (λi=>((0,i,()),(),a,())) (λ_ y=>decide (y.1=a)) (λi _=>(1,(i,i,()),(),a,())) _ ah (λi y j e A=>by
   unfold eQ dN;rw[al e,ai,ao j,ab,ab,dq,da,A];by_cases q:y.1=a<;>simp[q]) (by unfold eQ;rw[aq];rfl) with ⟨i,y,j,B,_,_⟩|⟨_,h⟩
  .grind
  .exact h
 rw[r,ab];rw[cO,ai,show ch 0 (-1)=false from rfl,ag,ab];have k:=mu (f:=qH (((),()),b,())) _ b a l (λi=>((0,i,()),(),(a,m,n,o,p,u),())) _
  _ (λi y j=>by
   have e:=av j;unfold qH dN;dsimp only;rw[al e,aF ah dR,ao j,ab,ab,ab,aB ah];cases fM y.1 a<;>rfl) (by unfold qH;rw[aq,ag])
 rw[k,ab];have d:=ug (·.1) b ((a,m,n,o,p,u):lD) l;unfold bQ;by_cases z:di (λy=>y.1) b a<b.length
 .rw[aQ z];dsimp only;rw[show cl 1 0=false from rfl,ag,aC ah,ag];rw[show tR b _ [((a,_):lD)]=_ from d,ab]
 .rw[aK z];have t:di (λy=>y.1) b a=b.length:=by have:=lG (λy=>y.1) b a;omega
  rw[cO,ai,aH aD,ai];rw[bw,<-t,show tR b _ [((a,_):lD)]=_ from d,ab]
def crI(s:aU)(b:Tx)(a:List Tx)(c:Tx)(d:Int):aU×tD×aj :=
 if eU a≠0\/64<c.length then(s,jq 1,()) else
 if b≠[]/\(aS (ix s) b).2.1≠0 then(s,jq (aS (ix s) b).2.1,()) else
 if pU (yp s) [] a≠0 then(s,jq<|pU (yp s) [] a,()) else
 if(dB (yp s) d).2.1≠0 then(s,jq (dB (yp s) d).2.1,()) else
 ((s.1,(p5 (·.1) s.2.1 ((dB (yp s) d).1,a,(if b=[] then [] else(aS (ix s) b).1),c,[],()),s.2.2)),Er (dB (yp s) d).1,())
def aaa{s x}(a:x∈s.2.1):((x.1,x.2.1,()):Nm)∈yp s:=by
 unfold yp;rw[Rr];exact⟨x,a,by exact DR.2 rfl⟩
def G4 s (top:Tx) (given:List Tx) (a:Tx) d (h:qs s) (l:given.length<=4294967296) (o:s.2.1.length<=1000000) :
  qJ (s,top,given,a,d,())=aa (crI s top given a d):=by
 unfold qJ crI;have m:aL 64 (@len UInt8 a)=decide (64<a.length):=by unfold len;apply gm.2;omega
 rw[vv given l,ab,m];by_cases e:eU given=0
 rotate_left
 .rw[aQ<|.inl e,ar e];rfl
 by_cases i:64<a.length
 .rw[aQ<|.inr i,au e,cU i];rfl
 rw[aK<|by rintro(q|q);exact q e;exact i q,au e,cd i,aW,aE,ai,ag,dq];have rest:∀t,(ae (ak (aG 0 0) (ae (gq (s,())) λj=>ae (hS (j.1,([]),given,())) λb=>aa ((b.1,()),()))<|some ((0,()),())) λj=>ae (ak (aG j.1.1 0)
   (ae (gq (s,())) λb=>ae (iQ (b.1,d,())) λc=>aa ((c.2.1,()),(c.1,((given,t,a,([]),()):List Tx×Tx×Tx×List Item×aj)),()))
   (aa ((j.1.1,()),(([]),given,t,a,([]),()),()))) λb=>ak (nt<|aG b.1.1 0)
   (ae (iP (b.1.1,())) λc=>aa (s,c.1,()))
   (ae (gk (s,b.2.1,())) λc=>aa (c.1,(0,b.2.1.1,0,([]),()),()))) =
   aa (if pU (yp s) [] given≠0 then(s,jq<|pU (yp s) [] given,()) else
    if(dB (yp s) d).2.1≠0 then(s,jq (dB (yp s) d).2.1,()) else
    ((s.1,(p5 (·.1) s.2.1 ((dB (yp s) d).1,given,t,a,[],()),s.2.2)),Er (dB (yp s) d).1,())):=by
  intro t;rw[show aG 0 0=true from rfl,ai,Ag s h,ab];rw[(tj _ [] given (DA h) l),ab,ab];by_cases f:pU (yp s) [] given=0
  rotate_left
  .rw[aQ f,ar f,ag,ab];rw[ar f];rfl
  rw[aK<|λq=>q f,au f,ai,ab];rw[(Ih _ d),ab,ab];by_cases g:(dB (yp s) d).2.1=0
  rotate_left
  .rw[aQ g,ar g];rfl
  rw[aK<|λq=>q g,au g];obtain⟨_,_,n⟩:=CD g;rw[CW s _ o l aT λy p=>n _ (aaa p)];rfl
 by_cases c3:top=[]
 .rw[cU c3,aW,ag,ab];simp_all
 .rw[cd c3,aE,ai,jK s top h,ab,ab];by_cases k:(aS (ix s) top).2.1=0
  .simp_all
  .rw[aQ ⟨c3,k⟩,ar k,ag,ab];rw[ar k,ag,ab];rw[ar k];rfl
def Tf(s p:Tx):xL (s,p,())=aa (decide<|s.take p.length=p,()):=Fb s p
def Wg(f:List Tx):Tx:=(f.getLast?).getD []
def YD f a:Wg (f++[a])=a:=by simp[Wg]
def PB(c:Tx) f (d:¬c=[]) (e:¬6<=c.length) :
  ak (aL 1 (f.length:Int)) (aa (([]:Tx),9,())) (ak (aG (f.length:Int) 0) (aa (([]:Tx),3,()))<|some (Wg f,0,()))=aa (pO c f):=by
 unfold pO;rw[aK<|by rintro(h|h);exact d h;exact e h]
 match f with
 | []=>rfl
 | [a]=>rfl
 | a::b::r =>
   have:aL 1 ((a::b::r).length:Int)=true:=aH cT;rw[this];rfl
def oN l (ref:Tx) (s:Small l) (B:l.length<=1000000):j7 (l,ref,())=aa (aS l ref):=by
 unfold j7;have inner:∀(i:Nat) x,l[i]?=aa x ->
   (ref∈x.2.1/\∃k,Loop (jI (l,ref,()) ((([]:Tx),(0:Int),(i:Int),()),())) ((([]:Tx),(0:Int),(0:Int),()),())=aa (1,(x.1,0,k,()),())) \/
   (¬ref∈x.2.1/\Loop (jI (l,ref,()) ((([]:Tx),(0:Int),(i:Int),()),())) ((([]),0,0,()),())=aa (0,([],0,(x.2.1.length:Int),()),())):=by
  intro i x b;have xz:=s.2 x (eG b);rcases eu (f:=jI (l,ref,()) ((([]),0,i,()),())) x.2.1 (λk=>((([]),0,k,()),())) (λ_ n=>decide (n=ref)) (λk n=>(1,(x.1,0,k,()),())) _ ah (λk n c m o=>by
   unfold jI;rw[ao b,ab,al m,ai,ab,ao c,ab,ab,da,o];by_cases h:n=ref<;>simp[bt,h]) (by unfold jI;rw[ao b,ab,aq,ag]) with ⟨k,n,c,p,u,h⟩|⟨c,h⟩
  .exact .inl ⟨by rw[<-fb p];exact eG c,_,h⟩
  .refine .inr ⟨λC=>?_,h⟩;obtain⟨k,m⟩:=bc.1 C;have:=c k ref m;simp at this
 rcases eu (f:=qS (l,ref,())) l (λi=>((([]:Tx),(0:Int),i,()),())) (λ_ x=>decide (x.1=ref)) (λi x=>(1,(ref,0,i,()),())) _ s.1 (λi x b d o=>by
  unfold qS;rw[al d,ai,ao b,ab,da,o];by_cases h:x.1=ref<;>simp[bt,h]) (by unfold qS;rw[aq,ag]) with ⟨i,x,b,p,u,h⟩|⟨c,h⟩
 .rw[h,ab];rw[show cl 1 0=false from rfl,ag];unfold aS;rw[aQ ⟨x,eG b,fb p⟩]
 .rw[h,ab];rw[show cl 0 0=true from rfl,ai];have v:¬∃x∈l,x.1=ref:=by
   rintro⟨x,b,D⟩;obtain⟨i,d⟩:=bc.1 b;have:=c i x d;simp[D] at this
  unfold aS;rw[aK v];rcases eu (f:=qT (l,_)) l (λi=>((([]),0,i,()),())) (λ_ x=>decide _) (λi x=>(1,(x.1,0,_),())) _ s.1 (λi x b d o=>by
   unfold qT;rw[al d,o];rcases inner i x b with ⟨h,k,m⟩|⟨h,m⟩
   .rw[m,cU h];rfl
   .rw[m,cd h];rfl) (by unfold qT;rw[aq,ag]) with ⟨i,x,b,p,u,h⟩|⟨c,h⟩
  .rw[h,ab];rw[show cl 1 0=false from rfl,ag];have:l.find? (λx=>decide (ref∈x.2.1))=aa x:=by
    rw[aaA];refine⟨p,i,av b,?_,λj w=>?_⟩
    .have:=fH (av b);rw[b] at this;exact(aI this).symm
    .have E:=av b;have:=u j l[j] w (fH ah);simpa using this
   rw[this]
  .rw[h,ab];have:l.find? (λx=>decide (ref∈x.2.1))=none:=by
    rw[TI];intro x b;obtain⟨i,d⟩:=bc.1 b;have:=c i x d;simpa using this
   rw[this];by_cases t:ref=[]\/6<=ref.length
   .have y:Loop (gR (l,ref,())) (((0:Int),([]:Tx),(0:Int),()),())=aa ((0,([]),0,()),()):=by
     rw[aN];unfold gR;have e:ak (ak (aL 0<|len l) (ch 1<|len ref) false) (ch (len ref) 5) false=false:=by
      rcases t with h|h
      .subst h;cases aL 0 _<;>rfl
      .rw[cG (a:=len ref) dR];cases ak (aL 0 _) _ false<;>rfl
     rw[e];rfl
    rw[y];unfold pO;rw[aQ t];rfl
   .have z:=λh=>t (.inl h);have A:1<=ref.length:=by
     cases ref with
     | nil=>exact absurd rfl z
     | cons a r=>simp
    have y:Loop (gR (l,ref,())) ((0,([]),0,()),())=aa ((((M9 l ref).length:Int),Wg<|M9 l ref,(l.length:Int),()),()):=by
     have key:=hJ (f:=gR (l,ref,())) l (λq i=>((q.length,Wg q,i,()),())) (GW ref) _ s.1 (λi x b d o=>by
      have F:((l.take i).flatMap<|GW ref).length<=l.length:=by
       have:=eY (g:=GW ref) (λx=>by unfold GW;split<;>simp) l i;omega
      unfold gR;dsimp only;rw[al d,bz dR,bz dR,ao b,ab,Tf,o,aB ah];unfold GW;by_cases h:x.1.take ref.length=ref
      .rw[cU h,aQ h,YD,iC];rfl
      .rw[cd h,aK h,tK];rfl) (by
      unfold gR;rw[aq];rfl)
     exact key
    rw[y];exact PB ref _ z (λh=>t (.inr h))
def Bh(l:List Tx)(h:l.length<=4294967296):eD (l,l,())=aa (true,()):=by rw[Ko l l h,cU rfl]
def NL l (h:vz l):gK (l,l,())=aa (true,()):=Na l (by have:=h.1;omega)
def Bi(a:Tx):bt a a=true:=cU rfl
def DB{b:Type}{f:(Bool×Int×aj)×aj->Option (((Bool×Int×aj)×aj)⊕(Nat×(Bool×Int×aj)×aj))}(l:List b)(e:l.length<=1000000)
  (c:∀i x,l[i]?=aa x->x∈l->i<l.length->f ((false,i,()),())=aa (.inl ((false,aw .i64 i 1,()),()))) (d:f ((false,(l.length:Int),()),())=aa (.inr (0,(false,(l.length:Int),()),()))) :
  Loop f ((false,0,()),())=aa (0,(false,(l.length:Int),()),()) :=
 cV l.length (λj=>((false,(j:Int),()),())) (λj a=>by
  rw[c j l[j] (fH a) (List.getElem_mem a) a,aB ah]) d
def YE(l:List AX)(b:l.length<=1000000)(h:∀x∈l,pL x.2.1/\vz x.2.2.2.2.2.1):nO (l,l,())=aa (true,()):=by
 unfold nO;rw[oj,DB l b (λi x c a d=>by
  unfold oD;rw[al d,ao c];simp only[Bi,ai,ag,aW,aE,ab,Bh _ (h x a).1.small,NL _ (h x a).2]) (by unfold oD;rw[aq];rfl)]
 rfl
def Wh(l:List lD)(b:l.length<=1000000)(h:∀x∈l,pL x.2.1/\vz x.2.2.2.2.1):mc (l,l,())=aa (true,()):=by
 unfold mc;rw[oj,DB l b (λi x c a d=>by
  unfold nx;rw[al d,ao c];simp only[Bi,ai,ag,aW,aE,ab,Bh _ (h x a).1.small,NL _ (h x a).2]) (by unfold nx;rw[aq];rfl)]
 rfl
def Wi(l:List cD)(a:l.length<=1000000)(h:∀x∈l,x.2.2.1.length<=4294967296):mf (l,l,())=aa (true,()):=by
 unfold mf;rw[oj,DB l a (λi x b c d=>by
  unfold ny;rw[al d,ao b];have eb:eqB x.2.2.2.2.2.2.1 x.2.2.2.2.2.2.1=true:=by unfold eqB;simp
  simp only[Bi,oj,eb,ai,ag,aW,aE,ab,Bh _ (h x c)]) (by unfold ny;rw[aq];rfl)]
 rfl
def Wj(l:List xY)(a:l.length<=1000000):mg (l,l,())=aa (true,()):=by
 unfold mg;rw[oj,DB l a (λi x b d c=>by
  unfold nz;rw[al c,ao b,ab,ab];simp only[Bi,oj];rfl) (by unfold nz;rw[aq];rfl)]
 rfl
def PC{ref f}(h:(pO ref f).2.1=0):(pO ref f).1∈f:=by
 unfold pO at h⊢;split at h
 .cases h
 .rename_i b;rw[aK b]
  match f,h with
  | [a],_=>simp
def Q1{l ref}(h:(aS l ref).2.1=0):∃x∈l,x.1=(aS l ref).1:=by
 unfold aS at h⊢;by_cases b:∃x∈l,x.1=ref
 .rw[aQ b];exact b
 .rw[aK b] at h⊢;cases c:l.find? _ with
  | some x=>exact⟨x,TL c,rfl⟩
  | none =>
    rw[c] at h;have:=PC h;unfold M9 at this⊢;rw[Rr] at this;obtain⟨x,d,a⟩:=this;refine⟨x,d,?_⟩;unfold GW at a;split at a
    .rw[DR] at a;exact a.symm
    .cases a
def aab{s y}(h:y∈yp s):∃x∈s.2.1,y=(x.1,x.2.1,()):=by
 unfold yp at h;rw[Rr] at h;obtain⟨x,b,a⟩:=h;unfold ofI at a;rw[DR] at a;exact⟨x,b,a⟩
def aac{s y}(h:y∈ix s):∃x∈s.2.2.1,y=(x.1,x.2.2.1,()):=by
 unfold ix at h;rw[Rr] at h;obtain⟨x,b,a⟩:=h;unfold ofL at a;split at a
 .rw[DR] at a;exact⟨x,b,a⟩
 .cases a
def afm{l it x}:x∈Ij l it↔x=it\/x∈l:=by
 unfold Ij;have e:=BJ (p:=λy=>fM y.1 it.1) (l:=l);rw[Oy,Oy,DR];constructor
 .rintro((hx|hx)|hx)
  .exact .inr (by rw[<-e];exact DP _ hx)
  .exact .inl hx
  .exact .inr (by rw[<-e];exact JM _ hx)
 .rintro(hx|hx)
  .exact .inl (.inr hx)
  .rw[<-e,Oy] at hx;rcases hx with hx|hx
   .exact .inl (.inl hx)
   .exact .inr hx
def afn l it:(Ij l it).length=l.length+1:=by
 unfold Ij;have:=congrArg List.length (BJ (p:=λy=>fM y.1 it.1) (l:=l));rw[iC] at this;rw[iC,iC,Rn];omega
structure BkS (s:aU):Prop where
 il:∀x∈s.2.1,x.1.length<=1048576/\x.2.2.1.length<=1048576
 bl:∀x∈s.1,x.1.length<=1048576/\x.2.2.1.length<=1048576/\x.2.2.2.1.length<=1048576
 dg:∀x∈s.2.2.1,x.2.2.2.1.length<=1048576
end Go.Ge
namespace Go.Ge
abbrev Tg:Ty:=.pair .str (.pair .str<|.pair .str .unit)
abbrev Q2:Ty:=.pair .str (.pair (.slice .str)<|.pair .str<|.pair .str<|.pair .str<|.pair (.slice Tg) .unit)
abbrev DC:Ty:=.pair .str (.pair (.slice .str)<|.pair .str<|.pair .str<|.pair (.slice Tg) .unit)
abbrev DD:Ty:=.pair .str (.pair .str<|.pair (.slice .str)<|.pair .str<|.pair (.int .i64)<|.pair (.int .i64)<|.pair .bool .unit)
abbrev aad:Ty:=.pair .str (.pair (.int .i64) .unit)
abbrev ahv:Ty:=.pair (.slice Q2) (.pair (.slice DC)<|.pair (.slice DD)<|.pair (.slice .str)<|.pair (.slice aad) .unit)
def NM{b:Type}{f:b->Nat}{l:List b}{x:b}(h:x∈l):f x<=vJ f l:=by
 induction l with
 | nil=>cases h
 | cons a r c =>
   unfold vJ;rcases fh.1 h with rfl|h
   .omega
   .have:=c h;omega
def ajh{s:aU}(h:ahv.bulk s<=1048576):BkS s:=by
 obtain⟨b,c,d,i,j,u⟩:=s;have k:(vJ Q2.bulk b+1)+((vJ DC.bulk c+1)+((vJ DD.bulk d+1)+((vJ Ty.str.bulk i+1)+((vJ aad.bulk j+1)+0))))<=1048576:=h;refine⟨λx a=>?_,λx a=>?_,λx a=>?_⟩
 .have e:DC.bulk x<=vJ DC.bulk c:=NM (f:=DC.bulk) a;have g:DC.bulk x=(x.1.length+1)+((vJ Ty.str.bulk x.2.1+1)+((x.2.2.1.length+1)+((x.2.2.2.1.length+1)+((vJ Tg.bulk x.2.2.2.2.1+1)+0)))):=rfl;omega
 .have e:Q2.bulk x<=vJ Q2.bulk b:=NM (f:=Q2.bulk) a;have g:Q2.bulk x=(x.1.length+1)+((vJ Ty.str.bulk x.2.1+1)+((x.2.2.1.length+1)+((x.2.2.2.1.length+1)+((x.2.2.2.2.1.length+1)+((vJ Tg.bulk x.2.2.2.2.2.1+1)+0))))):=rfl;omega
 .have e:DD.bulk x<=vJ DD.bulk d:=NM (f:=DD.bulk) a;have g:DD.bulk x=(x.1.length+1)+((x.2.1.length+1)+((vJ Ty.str.bulk x.2.2.1+1)+((x.2.2.2.1.length+1)+(1+(1+(1+0)))))):=rfl;omega
variable [Lp]
def YF:∀(r:List Tx) t,Valid t->(zq r t).2=0->Valid (zq r t).1:=by
 intro r;induction r with
 | nil=>intro t h _;exact h
 | cons s r b =>
   intro t h a;unfold zq at a⊢;by_cases c:(mr t s).2=0
   .rw[aQ c] at a⊢;rcases Iq h s with ⟨_,v,_⟩|⟨v,_⟩
    .exact b _ v a
    .exact absurd c v
   .rw[aK c] at a⊢;exact absurd a c
def afo{ls ds id}(h:(mS ls ds id).2=0):(dx ls id).2=0/\mS ls ds id=zq ((dx ls id).1.reverse.map λx=>NK ls ds x.1) []:=by
 unfold mS at h⊢;by_cases c:(dx ls id).2=0
 .rw[aQ c];exact⟨c,rfl⟩
 .rw[aK c] at h;exact absurd h c
def Q3:Valid []:=A8 Yq.1
def tJ{a:Type}(l:List a)(k:Nat)(x:a):List a:=l.take k++[x]++l.drop k
def ahw{α}(l:List α) k x (a:k<=l.length) (b:l.length<=1000000):tR l k [x]=aa (tJ l k x):=by
 unfold tR tJ;rw[show inside 0 k _=true from aO aD ah dR,aJ cT];rfl
def G5{b S:Type}{f}(l:List b)(p:b->Bool)(a:Int×Int×aj->S)(k:l.length<=1000000)
  (c:∀i y,l[i]?=aa y->i<l.length->f (a (0,i,()))=aa (if p y=true then .inr (1,a (i,i,())) else .inl (a (0,aw .i64 i 1,()))))
  (d:f (a (0,(l.length:Int),()))=aa (.inr (0,a (0,(l.length:Int),())))) :
  (∃(i:Nat) (y:b),l[i]?=aa y/\p y=true/\Loop f (a (0,0,()))=aa (1,a (i,i,())))\/((∀y∈l,p y=false)/\Loop f (a (0,0,()))=aa (0,a (0,(l.length:Int),()))):=by
 rcases eu l (λi=>a (0,i,())) _ _ _ ah (λi y hy hi e=>by rw[c i y hy hi,e]) d with ⟨i,y,hy,g,_,h⟩|⟨j,h⟩
 .exact .inl ⟨i,y,hy,g,h⟩
 .refine .inr ⟨λy hy=>?_,h⟩;obtain⟨i,hi⟩:=bc.1 hy;exact j i y hi
def Es(s:aU)(id:Tx):Bool:=s.2.2.1.any (λx=>decide (x.2.1=id))||s.2.1.any (λx=>decide (x.2.2.1=id))||s.1.any (λx=>decide (x.2.2.2.1=id))
def Wk{a:Type}{l:List a}{p}{i:Nat}{y}(b:l[i]?=aa y)(c:p y=true):l.any p=true:=TJ.2 ⟨y,eG b,c⟩
def Wl{b:Type}{l:List b}{p}(h:∀y∈l,p y=false):l.any p=false:=by
 cases q:l.any p with
 | false=>rfl
 | true=>obtain⟨y,c,a⟩:=TJ.1 q;rw[h y c] at a;cases a
def cutAt{a:Type}(l:List a)(i:Nat):List a:=l.take i++l.drop (i+1)
def Fl{ls ds id}(h:(mS ls ds id).2=0):Valid (mS ls ds id).1:=by
 obtain⟨_,t⟩:=afo h;rw[t] at h⊢;exact YF _ _ Q3 h
def Q4{α}(l:List α) i:∀x∈cutAt l i,x∈l:=λx a=>by
 unfold cutAt at a;rw[Oy] at a;exact a.elim DQ PR
def Ah{α}(l:List α) i:(cutAt l i).length<=l.length:=by
 unfold cutAt;rw[iC,dk,rj];omega
def DE{α}(l:List α) i (hi:i<l.length) (a:l.length<=1000000):Ka l i (aw .i64 i 1)=aa (cutAt l i):=by
 unfold Ka cutAt;rw[aB ah,aO ah ah dR,xj,vb,vb]
def yd(n:Nat)(a:List Tx):List Tx:=a.take n++List.replicate (n-a.length) []
def qt n ds:(yd n ds).length=n:=by
 unfold yd
 grind
def Th{n i ds}(h:i<n):(yd n ds)[i]?=aa ((ds[i]?).getD []):=by
 unfold yd
 grind
def Ir(s:aU)(a:s.2.2.1.length<=1000000):nh (s,())=aa (yd s.2.2.1.length s.2.2.2.1,()):=by
 unfold nh;dsimp only;rw[aO aD dR<|tr _,ai,dh ah,ai];unfold over lJ len mw yd
 grind
def Jz(s:aU)(x:cD)(d:Tx):aU:=(s.1,(s.2.1,(p5 (·.1) s.2.2.1 x,tJ (yd s.2.2.1.length s.2.2.2.1) (di (λy:cD=>y.1) s.2.2.1 x.1) d,s.2.2.2.2)))
def afp(s:aU)(x:cD)(d:Tx)(r:s.2.2.1.length<=100000):sN (s,x,d,())=aa (Jz s x d,()):=by
 obtain⟨n,o,a,j,p⟩:=s;dsimp only at r;have l:=lG (λy=>y.1) a x.1;unfold sN;have b:=mu (f:=qP ((n,o,a,j,p),x,d,())) _ a x.1 ah (λi=>((0,i,()),x,())) _
  _ (λi y q=>by
   have hi:=av q;unfold qP;rw[al hi,ao q,ab,aB ah];cases fM y.1 x.1<;>rfl) (by unfold qP;rw[aq,ag])
 rw[b,ab];have c:=Ir (n,o,a,j,p) ym;have e:∀k,k<=a.length->kP (yd a.length j,k,d,())=aa _:=λk l=>by
  unfold kP;rw[ dh (by rw[qt];omega),ai];unfold gr;rw[ahw _ k d (by rw[qt];omega)<|by rw[qt];omega,ab]
 have g:hW (a,((di (λy=>y.1) a x.1:Nat):Int),x,())=aa (p5 (λy=>y.1) a x,()):=by
  unfold hW;dsimp only;rw[dh ah,ai];unfold eJ;rw[show tR a _ [x]=_ from ug _ a x ah,ab]
 by_cases h:di (λy=>y.1) a x.1<a.length
 .rw[aQ h];rw[show cl 1 0=false from rfl,ag,ab];dsimp only;rw[c,ab,aC ah,ag];rw[e _ l,g];rfl
 .rw[aK h];have m:di (λy=>y.1) a x.1=a.length:=ah;rw[cO,ai,ab];dsimp only;rw[c,ab,aH aD,ai];rw[show @len _ a=((di _ a x.1):Int) from by rw[m];rfl,e _ l,g];rfl
def afq:zh ()=aa (WU 1024,()):=VS 1024 aD
def NN(b:List cD)(e:Tx)(r:b.length<=1000000)(n:∀x∈b,x.2.2.1.length<=4294967296)(c:List cD) r2 (id:Tx) (acc:List cD) (s:acc.length<=16) :
  ∃i,Loop (lv (b,e,())) ((c,r2,(),id,0,()),acc,())=aa (match Fj b id with
   | none=>(0,(c,r2,(),id,i,()),acc,())
   | some k=>match b[k]? with
     | none=>(0,(c,r2,(),id,i,()),acc,())
     | some x=>if acc.length=16 then(1,([],5,(),id,i,()),acc,()) else if x.2.1=[] then(2,(c,r2,(),id,i,()),acc++[x],()) else(3,(c,r2,(),x.2.1,i,()),acc++[x],())):=by
 rcases eu (f:=lv (b,e,())) b (λi=>((c,r2,(),id,i,()),acc,())) (λ_ x=>decide _)
  (λi x=>if acc.length=16 then _ else if x.2.1=[] then(2,(c,_),acc++[x],()) else(3,(c,_),acc++[x],()))
  _ ah (λi x g o j=>by
   unfold lv;rw[al o,ai,ao g,ab,dq,j];by_cases q:x.1=id
   .rw[cU q,aW,ag,aQ rfl,rX _ (n x<|eG g),ab];have l:aG (@len cD acc) 16=decide (acc.length=16):=by unfold len;apply gm.2;omega
    rw[l];by_cases a:acc.length=16
    .rw[cU a,ai,aQ a]
    .rw[cd a,aK a];rw[show fits (plus (@len cD acc) _)=true from aJ (by show _+1<=_;omega),dq];by_cases d:x.2.1=[]
     .rw[cU d,aQ d];rfl
     .rw[cd d,aK d];rfl
   .rw[cd q];rfl) (by unfold lv;rw[aq,ag]) with ⟨i,x,g,d,p,h⟩|⟨m,h⟩
 .refine⟨i,?_⟩;rw[CU g (fb d) p]
  grind
 .refine⟨b.length,?_⟩;rw[NH m];exact h
def Wm{ls id}(h:Fj ls id=af) n acc:Kr ls n id acc=([],3):=by
 unfold Kr;rw[h]
def ahx{ls id k}(h:Fj ls id=aa k) acc:Kr ls 0 id acc=([],5):=by
 unfold Kr;rw[h]
def aji{ls id k x}(h:Fj ls id=aa k)(a:ls[k]?=aa x) n acc :
  Kr ls (n+1) id acc=if x.2.1=[] then(acc++[x],0) else Kr ls n x.2.1 (acc++[x]):=by
 conv=>lhs;unfold Kr
 grind
def JA(a:List cD)(b:Tx)(l:a.length<=1000000)(m:∀x∈a,x.2.2.1.length<=4294967296):∀n (id:Tx) (acc:List cD),n+acc.length=16 ->
  ∃f g h,Loop (py (a,b,())) ((([]:List cD),0,(),id,()),acc,()) =
   aa (if(Kr a n id acc).2=0 then(1,f,(Kr a n id acc).1,()) else(0,((Kr a n id acc).1,(Kr a n id acc).2,g),h)):=by
 intro n;induction n with
 | zero =>
   intro id acc o;rw[aN];unfold py;obtain⟨i,j⟩:=NN a b l m [] 0 id acc ah;rw[j,ab];cases c:Fj a id with
   | none =>
     rw[Wm c];exact⟨(([]:List cD),(0:Int),(),id,()),_,_,rfl⟩
   | some k =>
     obtain⟨x,d,_⟩:=Bd c;rw[ahx c];dsimp only;rw[d];dsimp only;rw[aQ ah];exact⟨(([]),0,(),id,()),_,_,rfl⟩
 | succ n p =>
   intro id acc o;rw[aN];unfold py;obtain⟨i,j⟩:=NN a b l m [] 0 id acc ah;rw[j];cases c:Fj a id with
   | none =>
     rw[Wm c];exact⟨(([]),0,(),id,()),_,_,rfl⟩
   | some k =>
     obtain⟨x,d,_⟩:=Bd c;rw[aji c d];dsimp only;rw[d];dsimp only;rw[aK ah];by_cases e:x.2.1=[]
     .rw[aQ e,aQ e];exact⟨_,((),([]),()),(acc,()),rfl⟩
     .rw[aK e,aK e];obtain⟨f,g,h,q⟩:=p x.2.1 (acc++[x]) (by rw[iC];show n+(_+1)=16;omega);exact⟨f,g,h,q⟩
def YG(a:List cD)(id:Tx)(b:a.length<=1000000)(d:∀x∈a,x.2.2.1.length<=4294967296):uP (a,id,())=aa ((dx a id).1,(dx a id).2,()):=by
 unfold uP;obtain⟨e,f,g,h⟩:=JA a id b d 16 id [] rfl;rw[h];unfold dx;by_cases c:(Kr a 16 id []).2=0
 .rw[ c];rfl
 .rw[aK c];rfl
def ace{α}(b:α->Tx) l p:(∀j y,j<di b l p->l[j]?=aa y->fM (b y) p=true)/\(∀y,l[di b l p]?=aa y->fM (b y) p=false):=by
 induction l with
 | nil=>exact⟨λj y _ h=>by simp at h,λy h=>by simp at h⟩
 | cons a r d =>
   unfold di at d⊢;rw[Y8];cases h:fM _ p with
   | true =>
     rw[aQ rfl,iD];refine⟨λj y e c=>?_,λy c=>d.2 y c⟩;cases j with
     | zero=>obtain rfl:=aI c;exact h
     | succ j=>exact d.1 j y ah c
   | false =>
     refine⟨λj y e c=>absurd e aT,λy c=>?_⟩;simp at c;rw[<-c];exact h
def lP{a:Type}(l:List a)(k:Nat)(x:a)(i:Nat):List a:=if i<=k then l.take i else tJ (l.take i) k x
def G6{α}{l:List α}{k x i y}(h:i<k)(a:l[i]?=aa y):lP l k x i++[y]=lP l k x (i+1):=by
 unfold lP;rw[aQ ah,aQ ah,yn,a];rfl
def Wn{α}{l:List α}{k x y}(a:l[k]?=aa y):lP l k x k++[x]++[y]=lP l k x (k+1):=by
 have b:=av a;unfold lP tJ;rw[aQ<|bV _,aK ah,Oz,xh ah,yn,a,aaB (by rw[dk];omega),Fy (by rw[dk];omega)];rfl
def JB{α}{l:List α}{k x i y}(h:k<i)(a:l[i]?=aa y):lP l k x i++[y]=lP l k x (i+1):=by
 have b:=av a;unfold lP tJ;rw[aK ah,aK ah,Oz,Oz,xh ah,xh ah,yn,a,aaB (by rw[dk];omega)];simp
def Q5{α}{l:List α}{k x}(h:k<l.length):lP l k x l.length=tJ l k x:=by
 unfold lP;rw[aK ah,zw]
def NO{α}{l:List α}{x}:lP l l.length x l.length++[x]=tJ l l.length x:=by
 unfold lP tJ;rw[aQ<|bV _,IW,tK]
def DF{α}{l:List α}{k x i}:(lP l k x i).length<=l.length+1:=by
 unfold lP tJ;split
 .rw[dk];omega
 .simp;omega
def NP{α}{l:List α}{k x}:lP l k x 0=[]:=by unfold lP;rw[aQ ah,adj]
def Lb{α}(key:α->Tx) l x:p5 key l x=tJ l (di key l<|key x) x:=by
 unfold p5 tJ;rw[(Bg key l x).1,(Bg key l x).2]
set_option maxRecDepth 20000 in
def Ti(s:aU)(x:cD)(d:Tx)(r:s.2.2.1.length<=100000):sO (s,x,d,())=aa (Jz s x d,()):=by
 obtain⟨t,u,a,b,v⟩:=s;dsimp only at r;have w:=lG (λy=>y.1) a x.1;have c:=ace (λy=>y.1) a x.1;unfold Jz;rw[Lb];generalize A:di _ a x.1=k at w c;have o:=qt a.length b;have key:=cV (f:=qU ((t,u,a,b,v),x,d,())) a.length
  (λi=>(((),(),decide<|k<i,i,()),lP _ k d i,lP a k x i,())) (λi g=>by
   have hx:=fH g;have e:=Th (ds:=b) g;have p:∀j,(lP a k x j).length<=100001:=λj=>fi DF ah;have q:∀j,(lP (yd a.length b) k d j).length<=100001:=λj=>fi DF ah;have m:∀y,fits (plus (@len cD<|lP a k x i)<|@len cD [y])=true:=λy=>aJ (by have:=p i;simp;omega);have n:∀y,fits (plus (@len Tx<|lP (yd a.length b) k d i)<|@len Tx [y])=true:=λy=>aJ (by have:=q i;simp;omega);have B:∀y z,fits (plus (@len cD<|lP a k x i++[y])<|@len cD [z])=true:=λy z=>aJ (by have:=p i;simp;omega);have C:∀y z,fits (plus (@len Tx<|lP (yd a.length b) k d i++[y])<|@len Tx [z])=true:=λy z=>aJ (by have:=q i;simp;omega);unfold qU;rw[al g,ai,aB ah,Be,ao hx];rcases Lo i k with h|h|h
   .rw[cd ah,cd ah,ab,c.1 i _ h hx,aW,ag,ab,ab];rw[m,ab,n,<-G6 h hx,<-G6 h e];rfl
   .subst h;rw[cd ah,cU ah,aE,ai,ab,c.2 _ hx,aE,ai,m,ai,n,ai,ab,ab];rw[show fits (plus (@len cD<|app _ [x]) _)=true from B _ _,ab,show fits (plus (@len Tx<|app _ [d]) _)=true from C _ _,<-Wn hx,<-Wn e];rfl
   .rw[cU h,cU ah,aW,ag,ab,m,ab,n,<-JB h hx,<-JB h e];rfl) (by
   unfold qU;rw[aq];rfl)
 unfold sO;rw[show decide _=false from cd ah,NP,NP] at key;rw[show((((),(),false,0,()),_):_×List Tx×List cD×aj)=(((),(),false,((0:Nat):Int),()),_) from rfl,key,ab];by_cases h:k<a.length
 .rw[cU h,aW,ag,ab,Q5 h];rw[show lP _ k d a.length=tJ _ k d from by
   have:=Q5 (l:=yd a.length b) (k:=k) (x:=d) ah;rw[o] at this;exact this]
 .obtain rfl:k=a.length:=ah;rw[cd h,aE,ai,show fits _=true from aJ (by have:=DF (l:=a) (k:=a.length) (x:=x) (i:=a.length);simp;omega),ai,
   show fits _=true from aJ (by have:=DF (l:=yd a.length b) (k:=a.length) (x:=d) (i:=a.length);simp;omega),ai,ab]
  rw[show app _ [x]=tJ a a.length x from NO,show app _ [d]=tJ _ a.length d from by
   have:=NO (l:=yd a.length b) (x:=d);rw[o] at this;exact this]
def ajj(id a:Tx)(b:List Tx):cD:=(id,a,b,SW<|WU 1024,1024,0,true,())
def jx(s:aU)(a:Tx):Tx:=if a=[] then [] else(aS (ix s) a).1
def crG(s:aU)(b:Tx)(a:List Tx)(d:Int):aU×tD×aj :=
 if eU a≠0 then(s,jq<|eU a,()) else
 if b≠[]/\(aS (ix s) b).2.1≠0 then(s,jq (aS (ix s) b).2.1,()) else
 if pU (ix s) [] a≠0 then(s,jq<|pU (ix s) [] a,()) else
 if(dB (ix s) d).2.1≠0 then(s,jq (dB (ix s) d).2.1,()) else
 if jx s b≠[]/\(dx s.2.2.1<|jx s b).2=0/\16<=(dx s.2.2.1<|jx s b).1.length then(s,jq 5,()) else
 (Jz s (ajj (dB (ix s) d).1 (jx s b) a)<|WU 1024,Er (dB (ix s) d).1,())
set_option maxRecDepth 100000
def Ks s (h:qs s):kt (s,())=aa (ix s,()):=by
 unfold kt;rw[xS 3 _ h.acd];rfl
def NQ:wF ()=aa (WU 1024,()):=by
 unfold wF;kernel_rfl
structure akT (s:aU):Prop where
 bl:s.1.length<=1000000
 il:s.2.1.length<=1000000
 ll:s.2.2.1.length<=1000000
 dl:s.2.2.2.1.length<=1000000
 ml:s.2.2.2.2.1.length<=1000000
 xb:∀x∈s.1,pL x.2.1/\vz x.2.2.2.2.2.1
 xi:∀x∈s.2.1,pL x.2.1/\vz x.2.2.2.2.1
 xl:∀x∈s.2.2.1,pL x.2.2.1
def YH{s}(h:akT s):wE (s,s,())=aa (true,()):=by
 unfold wE;dsimp only;rw[YE _ h.bl h.xb];rw[ Wh _ h.il h.xi,Wi _ h.ll (λx a=>(h.xl x a).small),Bh _ (by have:=h.dl;omega),Wj _ h.ml];rfl
end Go.Ge
namespace Go.Ge
variable [Lp]
def YI(s:aU)(id:Tx)(c:s.2.2.2.2.1.length<=1000000):∃n,de (s,id,())=aa (n,())/\((∃x∈s.2.2.2.2.1,x.1=id/\x.2.1=n)\/(n=0/\∀x∈s.2.2.2.2.1,x.1≠id)):=by
 unfold de;rcases G5 (f:=fu (s,_)) s.2.2.2.2.1 (λy=>decide (y.1=id)) (λq=>(q,(),id,())) c (λi y a d=>by
  unfold fu qR;rw[al d,ai,ao a,ab,ab,dq,da];by_cases q:y.1=id<;>simp[q]) (by unfold fu;rw[aq,ag]) with ⟨i,y,a,e,b⟩|⟨g,b⟩
 .rw[b,ab];dsimp only;rw[show cl 1 0=false from rfl,ag,aC ah,ag,ao a,ab]
  grind
 .rw[b,ab];rw[cO,ai]
  grind
def YJ{f:(Int×Int×aj)×Tx×aj->Option (((Int×Int×aj)×Tx×aj)⊕(Nat×(Int×Int×aj)×Tx×aj))}(l:List AX) id (g:l.length<=1000000)
  (d:∀c i,f ((c,i,()),id,())=ak (aL i<|len l) (ae (idx l i) λy=>ak (bt y.2.2.2.1 id) (aa<|.inr (1,(i,i,()),id,())) (aa<|.inl ((c,aw .i64 i 1,()),id,()))) (aa<|.inr (0,(c,i,()),id,()))) :
  ae (Loop f ((0,0,()),id,())) (λe=>ak (cl e.1 0) (aa (false,())) (aa (ch 0 e.2.1.1,())))=aa (l.any<|λx=>decide (x.2.2.2.1=id),()):=by
 rcases G5 (f:=f) l (λy=>decide (y.2.2.2.1=id)) (λq=>(q,_)) g (λi y a h=>by
  rw[d,al h,ai,ao a,ab,dq,da];by_cases q:y.2.2.2.1=id<;>simp[q]) (by rw[d,aq,ag]) with ⟨i,y,a,j,b⟩|⟨k,b⟩
 .rw[b,ab,Wk a j];dsimp only;rw[show cl 1 0=false from rfl,ag,bz ah]
 .rw[b,Wl k];rfl
def Wo(s:aU)(id:Tx)(m:s.1.length<=1000000)(n:s.2.1.length<=1000000)(o:s.2.2.1.length<=1000000):pz (s,id,())=aa (Es s id,()):=by
 unfold pz Es;have li:∀{f:_×Tx×aj->Option _},
   (∀c i,f ((c,i,()),_)=ak (aL i _) (ae (idx s.2.1 i) λy=>ak (bt y.2.2.1 id) (aa<|.inr (1,(i,i,()),id,())) (aa<|.inl ((c,aw .i64 i 1,()),id,()))) (aa<|.inr (0,(c,i,()),id,()))) ->
   (∃(i:Nat),s.2.1.any (λx=>decide (x.2.2.1=id))=true/\Loop f ((0,0,()),id,())=aa (1,((i:Int),(i:Int),()),id,()))\/(s.2.1.any (λx=>decide (x.2.2.1=id))=false/\Loop f ((0,0,()),id,())=aa (0,(0,(s.2.1.length:Int),()),id,())):=λ{f} h=>by
  rcases G5 (f:=f) s.2.1 (λy=>decide (y.2.2.1=id)) (λq=>(q,id,())) n (λi y b g=>by
   rw[h,al g,ai,ao b,ab,dq,da];by_cases q:y.2.2.1=id<;>simp[q]) (by rw[h,aq,ag]) with ⟨i,y,b,j,d⟩|⟨l,d⟩
  .grind
  .grind
 rcases G5 (f:=qQ (s,_)) s.2.2.1 (λy=>decide (y.2.1=id)) (λq=>(q,id,())) o (λi y b g=>by
  unfold qQ;rw[al g,ai,ao b,ab,dq,da];by_cases q:y.2.1=id<;>simp[q]) (by unfold qQ;rw[aq,ag]) with ⟨i,y,b,j,d⟩|⟨l,d⟩
 .rw[d,ab,Wk b j];rw[show cl 1 0=false from rfl,ag,ab];rcases li (f:=vM (s,_)) (λc i=>rfl) with ⟨k,e,a⟩|⟨e,a⟩
  .rw[a,ab];rfl
  .rw[a];rfl
 .rw[d,ab,Wl l];rw[cO,ai,ab];rcases li (f:=vM (s,_)) (λc i=>rfl) with ⟨k,e,a⟩|⟨e,a⟩
  .rw[a,e];rfl
  .rw[a,e];exact YJ s.1 id m (λc i=>rfl)
def uh(s:aU)(id:Tx):cD×Tx×Bool×aj:=match Fj s.2.2.1 id with
 | none=>(([],[],[],[],(0:Int),(0:Int),false,()),[],false,())
 | some i=>match s.2.2.1[i]? with
   | none=>(([],[],[],[],(0:Int),(0:Int),false,()),[],false,())
   | some x=>(x,(s.2.2.2.1[i]?).getD [],true,())
def ixL{f:(Int×Int×aj)×aj×Tx×aj->Option (((Int×Int×aj)×aj×Tx×aj)⊕(Nat×(Int×Int×aj)×aj×Tx×aj))} ls id (n:ls.length<=1000000)
  (d:∀c i,f ((c,i,()),(),id,())=ak (aL i<|len ls) (ae (idx ls i) λy=>ak (bt y.1 id) (aa<|.inr (1,(i,i,()),(),id,())) (aa<|.inl ((c,aw .i64 i 1,()),(),id,()))) (aa<|.inr (0,(c,i,()),(),id,()))) :
  ae (Loop f ((0,0,()),(),id,())) (λa=>ak (cl a.1 0) (aa (((-1:Int),()),(),a.2.2.2.1,())) (aa ((a.2.1.1,()),(),a.2.2.2.1,())))=aa ((D3 ls id,()),(),id,()):=by
 rcases eu (f:=f) ls (λj=>((0,j,()),_)) (λ_ y=>decide (y.1=id)) (λi _=>(1,(i,i,()),(),id,())) _ ah (λi y b e g=>by
  rw[d,al e,ai,ao b,ab,dq,da,g];by_cases q:y.1=id<;>simp[q]) (by rw[d,aq,ag]) with ⟨i,y,b,k,l,h⟩|⟨m,h⟩
 .rw[h];unfold D3;rw[CU b (fb k) l];rfl
 .rw[h];unfold D3;rw[NH m];rfl
def CX(s:aU)(id:Tx)(d:s.2.2.1.length<=100000)(b:∀x∈s.2.2.1,x.2.2.1.length<=4294967296):ks (s,id,())=aa (uh s id):=by
 unfold ks uh;rw[ixL s.2.2.1 id ah<|λc i=>rfl,ab];unfold D3;cases h:Fj s.2.2.1 id with
 | none=>rfl
 | some i =>
   obtain⟨x,a,_⟩:=Bd h;dsimp only;rw[aC ah,ag,ao a,ab,a];rw[xR x.2.2.1<|b x<|eG a,ab,Ir s ah,ab];rw[ao<|Th<|av a,ab]
def Tj(s:aU)(id:Tx)(n:Int):aU:=(s.1,(s.2.1,(s.2.2.1,(s.2.2.2.1,((if 0<n then p5 (·.1) (YC (·.1) s.2.2.2.2.1 id) (id,n,()) else YC (·.1) s.2.2.2.2.1 id),s.2.2.2.2.2)))))
def amI(l:List xY) id n (o:l.length<=100000) (k:∀x∈l,x.1≠id) {f}
  (d:∀c i,f ((c,i,()),id,())=ak (aL i<|len l) (ae (idx l i) λy=>ak (nt<|oor (fM y.1 id)<|bt y.1 id) (aa<|.inr (1,(i,i,()),id,())) (aa<|.inl ((c,aw .i64 i 1,()),id,()))) (aa<|.inr (0,(c,i,()),id,()))) :
  ae (Loop f ((0,0,()),id,())) (λa=>ak (cl a.1 0) (ae (bH (l,(((@len xY l,()),()).1).1,(a.2.2.1,n,()),())) λb=>aa ((b.1,()),a.2.2.1,()))
   (ae (bH (l,((ak (aL a.2.1.1 0) ((@len xY l,()),()) ((a.2.1.1,()),())).1).1,(a.2.2.1,n,()),())) λb=>aa ((b.1,()),a.2.2.1,())))=aa ((p5 (·.1) l (id,n,()),()),id,()):=by
 have g:∀x,x.1=id->bH (l,((di (λy=>y.1) l id:Nat):Int),x,())=aa (p5 (·.1) l x,()):=by
  intro x m;unfold bH;dsimp only;rw[dh ah];have:=ug (λy=>y.1) l x ah;rw[m] at this;exact ob this rfl
 have h:=mu (f:=f) _ l id ah (λi=>((0,i,()),_)) _ _ (λi y j=>by
  have hi:=av j;rw[d,al hi,ao j,ab,X4,aB ah];rcases GL y.1 id with q|q|q
  .rw[q,rQ q];rfl
  .grind
  .rw[q,rQ q];rfl) (by rw[d,aq,ag])
 have p:=lG (λy=>y.1) l id;rw[h,ab];by_cases q:di (λy=>y.1) l id<l.length
 .rw[aQ q];refine ob (g _ rfl) rfl
 .rw[aK q];have e:(@len xY l)=((di (λy=>y.1) l id:Nat):Int):=dR;rw[e];refine ob (g _ rfl) rfl
def CY(s:aU)(id:Tx) n (g:s.2.2.2.2.1.length<=50000):qi (s,id,n,())=aa (Tj s id n,()):=by
 obtain⟨D,E,F,G,a,u⟩:=s;dsimp only at g;have go:∀l:List xY,l.length<=100000->(∀x∈l,x.1≠id)->∀{f},
   (∀c i,f ((c,i,()),id,())=ak (aL i<|len l) (ae (idx l i) λy=>ak (nt<|oor (fM y.1 id)<|bt y.1 id) (aa<|.inr (1,(i,i,()),id,())) (aa<|.inl ((c,aw .i64 i 1,()),id,()))) (aa<|.inr (0,(c,i,()),id,()))) ->
   ak (aL 0 n) (ae (Loop f ((0,0,()),id,())) λd=>ak (cl d.1 0) (ae (bH (l,(((@len xY l,()),()).1).1,(d.2.2.1,n,()),())) λk=>aa ((k.1,()),d.2.2.1,()))
    (ae (bH (l,((ak (aL d.2.1.1 0) ((@len xY l,()),()) ((d.2.1.1,()),())).1).1,(d.2.2.1,n,()),())) λk=>aa ((k.1,()),d.2.2.1,()))) (aa ((l,()),id,())) =
    aa (((if 0<n then p5 (·.1) l (id,n,()) else l),()),id,()):=by
  intro l g b f H;by_cases q:0<n
  .rw[aH q,aQ q];exact amI l id n g b H
  .rw[aC ah,ag,aK q]
 unfold qi Tj;dsimp only;rw[dh ah];rcases eu (f:=pA ((D,E,F,G,a,u),_)) a (λj=>((0,j,()),id,())) (λ_ y=>decide (y.1=id)) (λi _=>(1,(i,i,()),id,())) _ ah (λi y m o p=>by
  unfold pA;dsimp only;rw[al o,ai,aF ah dR,ai,ao m,ab,dq,da,p];by_cases q:y.1=id<;>simp[q]) (by unfold pA;rw[aq,ag]) with ⟨i,y,m,M,A,h⟩|⟨N,h⟩
 rotate_left
 .have b:∀x∈a,x.1≠id:=λx e=>by
   obtain⟨i,o⟩:=bc.1 e
   grind
  rw[afl _ b];refine ob h ?_;exact ob (go a ah b λc i=>rfl) rfl
 have o:=av m;refine ob h ?_;have r:a.take i=(a.take<|i+1).filter (λx=>!decide (x.1=id)):=by
  rw[yn];have B:(a.take i).filter (λx=>!decide (x.1=id))=a.take i:=Lf.2 λz t=>by
   obtain⟨j,I⟩:=bc.1 t
   grind
  grind
 obtain⟨w,L,B,O,P,Q⟩:=G2 (f:=pB) a _ (λw j L=>((w,j,_),id,L,())) (λw L=>((w,L.length,_),id,L,())) ah (λw j L x e v R A p J=>by
  unfold pB;dsimp only;obtain⟨z,t⟩:∃z,L[w]?=aa z:=⟨_,fH ah⟩;rw[al A,aF ah dR,ai,ao v,ab,dq,J];cases decide (x.1=id) with
  | true=>rfl
  | false =>
    rw[ aF ah dR,ao t,p];rfl) (λw L=>by
  unfold pB;rw[aq];rfl) a.length i _ a ah ah ah rfl r rfl
 rw[aB ah];refine ob B ?_;dsimp only;have C:L.take w=YC (λx=>x.1) a id:=by
  unfold YC
  grind
 have K:(YC (λx=>x.1) a id).length<=a.length:=(K9 _ a id).length_le;rw[aO ah dR<|tr _,G3 L w ah,aO (tr _) ah ah,CH L w ah,C];exact ob (go (YC (λx=>x.1) a id) ah (λx e=>((ahu _).1 e).2)
  (λc i=>by
   unfold zV;rw[CH L w ah,C])) rfl
end Go.Ge
