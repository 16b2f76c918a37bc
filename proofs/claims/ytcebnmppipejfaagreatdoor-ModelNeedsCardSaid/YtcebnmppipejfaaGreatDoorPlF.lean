import Derived.Test.YtcebnmppipejfaaGreatDoorPlE
set_option linter.unusedSectionVars false
set_option linter.unusedVariables false
set_option linter.unusedSimpArgs false
noncomputable section
namespace Go.Ge
variable [Lp]
theorem W7{n:Nd}(h:kg n=true):n.1.length<=92/\n.2.2.2.2.1.length<=100/\n.2.2.2.1.length<=8192:=by
 unfold kg at h;simp only[dF] at h;have b:=h.1.1.1;have a:=h.2;unfold AH at b;simp only[dF,nI] at b;refine⟨b.1.1.2,?_⟩;unfold YC at a;split at a
 .have:=kx a;exact⟨by rw[this.1];simp,this.2⟩
 .split at a
  .have:=kx a;exact⟨by rw[this.1];simp,by rw[this.2];simp⟩
  .split at a
   .have:=kx a;exact⟨this.2.2.1,by rw[this.1];simp⟩
   .cases a
theorem sj{l:List Nd}(h:Valid l):PW l:=⟨by have:=h.few;omega,λx a=>by
 have:=W7 (h.may x a);exact⟨by omega,by omega,by omega⟩⟩
theorem UB{l:List Nd}(h:Valid l)(p:aq):Valid (uU l p):=by
 refine⟨iz (O0 _ _) h.few,h.ord.filter _,λx d=>h.may x (wZ.1 d).1,λx d=>?_⟩;obtain⟨f,b⟩:=wZ.1 d;by_cases c:(bC x.1).1=[]
 .exact .inl c
 .rcases h.up x f with g|⟨y,i,e,k⟩
  .exact absurd g c
  .refine .inr ⟨y,wZ.2 ⟨i,?_⟩,e,k⟩;cases a:gone p y with
   | false=>rfl
   | true =>
     have:gone p x=true:=by
      unfold gone at a⊢;rw[x7] at a⊢;rcases a with a|a
      .right;rw[<-kx a,e];exact DI c
      .exact .inr (Me c e a)
     rw[this] at b;cases b
theorem Mj{l:List Nd}(h:Valid l)(p:aq):Valid (kh l p false):=by
 refine⟨iz (O0 _ _) h.few,h.ord.filter _,λx b=>h.may x (wZ.1 b).1,λx b=>?_⟩;obtain⟨c,a⟩:=wZ.1 b;by_cases d:(bC x.1).1=[]
 .exact .inl d
 .rcases h.up x c with f|⟨y,g,e,k⟩
  .exact absurd f d
  .refine .inr ⟨y,wZ.2 ⟨g,?_⟩,e,k⟩;cases i:cH (parts y.1) (parts p) with
   | false=>rfl
   | true =>
     rw[Me d e i] at a;cases a
theorem RS(l:List Nd)(p:aq):kh l p true=uU l p:=by
 unfold kh uU gone
 congr 1
 funext x;cases decide (x.1=p)<;>cases cH (parts x.1) (parts p)<;>rfl
theorem AW(p:Pt):P0 (cg p).2.1:=by
 have a:P0 []:=⟨λx c=>(by cases c),(by simp),(by simp[aM])⟩;unfold cg;split
 .rename_i b;dsimp only;split
  .rename_i d;exact(P1 b d).2
  .split
   .exact RR (Fk b)
   .split
    .exact Fk b
    .exact a
 .exact a
def AX(t:List Nd)(p:Pt):List Nd:=if(cg p).1=1 then uU t (aM (cg p).2.1) else if(cg p).1=2 then kh t (aM (cg p).2.1) false else t
theorem yF{t:List Nd}(h:Valid t)(p:Pt):Valid (AX t p):=by
 unfold AX;split
 .exact UB h _
 .split
  .exact Mj h _
  .exact h
theorem Mk{t:List Nd}(h:Valid t)(p:aq)(a:p.length<=4096):pS (t,p,())=some (uU t p,()):=by
 obtain⟨b,c,d⟩:=qO t (sj h);unfold pS;dsimp only;rw[c,aa,d.2 h];dsimp only;rw[aH,af,AK t p true (sj h) a,aa,RS]
theorem Oe{t:List Nd}(h:Valid t)(p:aq)(a:p.length<=4096):rz (t,p,())=some (kh t p false,()):=by
 obtain⟨b,c,d⟩:=qO t (sj h);unfold rz;dsimp only;rw[c,aa,d.2 h];dsimp only;rw[aH,af,AK t p false (sj h) a,aa]
theorem aag{a c:Type}(f:c->a->c)(l:List a)(b:c){i:Nat}{x:a}(d:l[i]?=some x):(l.take<|i+1).foldl f b=f ((l.take i).foldl f b) x:=by
 rw[Qk,d,List.foldl_append];rfl
theorem Of(a:List Nd)(l:List Pt)(j:adn l)(m:Valid a):Loop (mI (a,l,())) ((a,(0:Int),()),())=some ((l.foldl AX a,(l.length:Int),()),()):=by
 have n:=j.1;obtain⟨t,k,b,_⟩:=PF (f:=mI (a,l,())) l (λ(t:List Nd) i=>((t,i,()),())) (λt _ x=>AX t x) (λt=>((t,(l.length:Int),()),())) (λt i=>t=(l.take i).foldl AX a/\Valid t) (by omega) (λt i x h o c e=>by
  have d:=AW x;constructor
  .unfold mI;dsimp only;rw[au o,ae,az h,aa,AQ x (j.2 x<|iy h),aa,c];dsimp only;rw[Mk e.2 _ (by have:=d.2.2;omega),aa,Oe e.2 _ (by have:=d.2.2;omega),aa];unfold AX;by_cases b:(cg x).1=1
   .rw[aW b,bd b];rfl
   .rw[aF b,bb b];by_cases g:(cg x).1=2
    .rw[aW g,bd g];rfl
    .rw[aF g,bb g];rfl
  .exact⟨by rw[aag AX l a h,<-e.1],yF e.2 x⟩) (λt _=>by
  unfold mI;dsimp only;rw[aB,af];rfl) a ⟨rfl,m⟩
 rw[Iw] at k;rw[<-k.1];exact b
theorem uW{t:List Nd}{n:Nd}(h:(b9 t n).2=0):Valid (b9 t n).1:=by
 rcases Mf t n with ⟨_,a⟩|⟨b,a,c,r,d,e,f⟩
 .exact absurd h a
 .rw[f];exact PZ b a c d e
def ib:List aq->aq->List Nd->List Nd×Int
 | [],_,t=>(t,0)
 | nm::r,at',t =>
   if(findF t<|sd at' nm).2.1=true/\(findF t<|sd at' nm).1.2.1=2 then ib r (sd at' nm) t
   else if(b9 t<|kQ 493<|sd at' nm).2=0 then ib r (sd at' nm) (b9 t<|kQ 493<|sd at' nm).1
   else([],(b9 t<|kQ 493<|sd at' nm).2)
theorem Ik:∀(r:List aq) (a:aq) (t:List Nd),Valid t->(ib r a t).2=0->Valid (ib r a t).1:=by
 intro r;induction r with
 | nil=>intro a t h _;exact h
 | cons nm r e =>
   intro a t h b;unfold ib at b⊢;split at b
   .rename_i d;rw[bd d];exact e _ _ h b
   .rename_i d;rw[bb d];split at b
    .rename_i c;rw[bd c];exact e _ _ (uW c) b
    .rename_i c;exact absurd b c
abbrev DS:=((List Nd×(List Nd×(Int×(aq×(Int×ai)))))×ai)
theorem ado{f:DS->Option (DS⊕(Nat×DS))}(b:List aq)(h:P0 b)(n:Nat)(v:n<=b.length)
  (c:∀(i:Nat) (x:aq) (t:List Nd),i<n->b[i]?=some x->Valid t ->
   f ((t,[],(0:Int),aM<|b.take i,(i:Int),()),()) =
    some (if(findF t<|fh b i).2.1=true/\(findF t<|fh b i).1.2.1=2 then .inl ((t,[],(0:Int),fh b i,((i+1:Nat):Int),()),())
     else if(b9 t<|kQ 493<|fh b i).2=0 then .inl (((b9 t<|kQ 493<|fh b i).1,[],(0:Int),fh b i,((i+1:Nat):Int),()),())
     else .inr (1,(t,[],(b9 t<|kQ 493<|fh b i).2,fh b i,(i:Int),()),())))
  (j:∀(t:List Nd) (a:aq),f ((t,[],(0:Int),a,(n:Int),()),())=some (.inr (0,(t,[],(0:Int),a,(n:Int),()),()))) :
  ∀(d i:Nat) (t:List Nd),i+d=n->Valid t->∃z,Loop f ((t,[],(0:Int),aM<|b.take i,(i:Int),()),())=some z /\
   (((ib ((b.take n).drop i) (aM<|b.take i) t).2=0/\z.1=0/\z.2.1.1=(ib ((b.take n).drop i) (aM<|b.take i) t).1) \/
    ((ib ((b.take n).drop i) (aM<|b.take i) t).2≠0/\z.1=1/\z.2.1.2.1=[]/\z.2.1.2.2.1=(ib ((b.take n).drop i) (aM<|b.take i) t).2)):=by
 intro d;induction d with
 | zero =>
   intro i t s m;obtain rfl:i=n:=by omega
   refine⟨_,by rw[aR,j];rfl,.inl ?_⟩;rw[Kh<|by rw[gM];omega];exact⟨rfl,rfl,rfl⟩
 | succ d r =>
   intro i t s m;have hx:b[i]?=some b[i]:=jE (by omega);have e:=c i b[i] t (by omega) hx m;have g:(b.take n).drop i=b[i]::(b.take n).drop (i+1):=by
    rw[BJ<|by rw[gM];omega,abm]
   have u:=uV h.1 hx;rw[g];unfold ib;rw[u];have k:fh b i=aM (b.take<|i+1):=rfl;split
   .rename_i o;rw[bd o] at e;obtain⟨z,p,q⟩:=r (i+1) t (by omega) m;refine⟨z,?_,by rw[k];exact q⟩;rw[aR,e];exact p
   .rename_i o;rw[bb o] at e;split
    .rename_i l;rw[bd l] at e;obtain⟨z,p,q⟩:=r (i+1) _ (by omega) (uW l);refine⟨z,?_,by rw[k];exact q⟩;rw[aR,e];exact p
    .rename_i l;rw[bb l] at e;refine⟨_,by rw[aR,e];rfl,.inr ⟨l,rfl,rfl,rfl⟩⟩
theorem agD(m:Int){a:List aq}(h:P0 a)(i:Nat):Sm (kQ m<|fh a i):=⟨h.yD<|i+1,by simp[kQ],by simp[kQ]⟩
def uX(a:List aq)(t:List Nd)(n:Nd):List Nd×Int:=if(ib a.dropLast [] t).2=0 then b9 (ib a.dropLast [] t).1 n else([],(ib a.dropLast [] t).2)
theorem UC{b:List aq}(h:P0 b){t:List Nd}(w:Valid t):tz (t,aM b,())=some ((if(ib b.dropLast [] t).2=0 then(ib b.dropLast [] t).1 else []),(ib b.dropLast [] t).2,()):=by
 unfold tz;dsimp only;rw[gv _ (by have:=h.2.2;omega),aa,mE _ h.1];have j:b.take (b.length-1)=b.dropLast:=List.dropLast_eq_take.symm;obtain⟨z,y,k⟩:=ado (f:=lj (b,())) b h (b.length-1) (by omega) (λi x u E l s=>by
  have d:=sj s;have A:=h.YE (iy l);have B:=h.yD i;have v:=h.yD (i+1);have m:=h.2.1;unfold lj;dsimp only;rw[aT<|by omega,au (show i+1<b.length by omega),ae,az l,aa,yx _ _ (by omega) (by omega),aa,uV h.1 l];dsimp only;rw[UA u _ d s,aa];have C:=AM u (kQ 493<|fh b i) d (agD 493 h i);rw[show mH (u,(fh b i,(2:Int),(493:Int),([]:aq),([]:aq),()),())=_ from C,aa];dsimp only;by_cases n:(findF u<|fh b i).2.1=true
  .by_cases e:(findF u<|fh b i).1.2.1=2
   .rw[n,aW e,bd ⟨rfl,e⟩];rfl
   .rw[n,aF e,bb λq=>e q.2];by_cases c:(b9 u<|kQ 493<|fh b i).2=0
    .rw[aW c,bd c];rfl
    .rw[aF c,bb c];rfl
  .rw[show(findF u<|fh b i).2.1=false by simpa using n,bb λq=>by cases q.1];by_cases c:(b9 u<|kQ 493<|fh b i).2=0
   .rw[aW c,bd c];rfl
   .rw[aF c,bb c];rfl) (λu a=>by
  unfold lj;dsimp only;have m:=h.2.1;rw[aT<|by omega,show aO ((b.length-1+1:Nat):Int) (len b)=false from aD (by unfold len;omega),af]) (b.length-1) 0 t (by omega) w
 rw[CT,j] at k;rw[show Loop (lj (b,())) ((t,([]:List Nd),(0:Int),([]:aq),(0:Int),()),())=_ from y,aa];have o:aM (b.take 0)=[]:=by simp[aM]
 rw[o] at k;rcases k with ⟨g,p,r⟩|⟨g,p,r,D⟩
 .rw[p,show cR 0 0=true from rfl,ae,r,bd g,g]
 .rw[p,show cR 1 0=false from rfl,af,r,D,bb g]
def p7(t:List Nd)(p:Pt):List Nd×Int:=if(cg p).1=0/\(cg p).2.1≠[] then uX (cg p).2.1 t (lY p<|aM (cg p).2.1) else(t,0)
def wE:List Pt->List Nd->List Nd×Int
 | [],t=>(t,0)
 | p::r,t=>if(p7 t p).2=0 then wE r (p7 t p).1 else([],(p7 t p).2)
theorem UD{b:List aq}{t:List Nd}{n:Nd}(h:(uX b t n).2=0):Valid (uX b t n).1:=by
 unfold uX at h⊢;split at h
 .rename_i a;rw[bd a];exact uW h
 .rename_i a;exact absurd h a
theorem vN{t:List Nd}{p:Pt}(b:Valid t)(h:(p7 t p).2=0):Valid (p7 t p).1:=by
 unfold p7 at h⊢;split at h
 .rename_i a;rw[bd a];exact UD h
 .rename_i a;rw[bb a];exact b
theorem DK:∀(l:List Pt) (t:List Nd),Valid t->(((wE l t).2=0/\Valid (wE l t).1)\/((wE l t).2≠0/\(wE l t).1=[])):=by
 intro l;induction l with
 | nil=>intro t h;exact .inl ⟨rfl,h⟩
 | cons p r b =>
   intro t h;unfold wE;split
   .rename_i a;exact b _ (vN h a)
   .rename_i a;exact .inr ⟨a,rfl⟩
theorem aeX{p:Pt}(a:SmP p){b:List aq}(h:P0 b):Sm (lY p<|aM b):=⟨h.2.2,a.2.1,a.2.2⟩
theorem runs{S R:Type}{f:S->Option (S⊕R)}(l:List Pt)(h:List Nd->Nat->S)(b:List Nd->R)(c:Int->List Nd->Nat->R)
  (a:∀(i:Nat) (x:Pt) (t:List Nd),l[i]?=some x->Valid t->f (h t i)=some (if(p7 t x).2=0 then .inl (h (p7 t x).1<|i+1) else .inr (c (p7 t x).2 t i)))
  (e:∀t,f (h t l.length)=some (.inr<|b t)) :
  ∀(d i:Nat) (t:List Nd),i+d=l.length->Valid t->∃z,Loop f (h t i)=some z /\
   (((wE (l.drop i) t).2=0/\z=b (wE (l.drop i) t).1)\/((wE (l.drop i) t).2≠0/\∃m n,z=c (wE (l.drop i) t).2 m n)):=by
 intro d;induction d with
 | zero =>
   intro i t o k;obtain rfl:i=l.length:=by omega
   refine⟨_,by rw[aR,e];rfl,.inl ?_⟩;rw[SJ];exact⟨rfl,rfl⟩
 | succ d p =>
   intro i t o k;have hx:l[i]?=some l[i]:=jE (by omega);have j:=a i l[i] t hx k;rw[BJ<|by omega];unfold wE;split
   .rename_i g;rw[bd g] at j;obtain⟨z,q,r⟩:=p (i+1) _ (by omega) (vN k g);exact⟨z,by rw[aR,j];exact q,r⟩
   .rename_i g;rw[bb g] at j;exact⟨_,by rw[aR,j];rfl,.inr ⟨g,t,i,rfl⟩⟩
open Classical in
def nx(l:List Nd)(a:List Pt):List Nd×Int:=if Valid l then(if lu a=true then wE a (a.foldl AX l) else([],10)) else([],1)
theorem vO(a:List Pt):∀(l:List Nd),Valid l->Valid (a.foldl AX l):=by
 induction a with
 | nil=>intro l h;exact h
 | cons p r b=>intro l h;exact b _ (yF h p)
theorem W9(l:List Nd)(a:List Pt)(v:PW l)(k:adn a):vH (l,a,())=some ((nx l a).1,(nx l a).2,()):=by
 obtain⟨e,F,w⟩:=qO l v;have K:=v.1;have L:=k.1;unfold vH nx;dsimp only;rw[F,aa];dsimp only;by_cases hv:Valid l
 .rw[w.2 hv,aH,af,bd hv,AV a k,aa];dsimp only;by_cases m:lu a=true
  .rw[bd m,m,aH,af];have G:=Of l a k hv;have y:=vO a l hv;rw[G,aa];dsimp only;obtain⟨z,H,C⟩:=runs (f:=mJ (l,a,())) a (λt i=>((t,[],(0:Int),(i:Int),()),())) (λt=>(0,(t,[],(0:Int),(a.length:Int),()),())) (λe t i=>(1,(t,[],e,(i:Int),()),())) (λi x t p D=>by
    have hi:=aG p;have g:=k.2 x (iy p);have c:=AW x;unfold mJ;dsimp only;rw[au hi,ae,az p,aa,AQ x g,aa,aT (by omega)];dsimp only;rw[UC c D,aa,aa];unfold pT;dsimp only;rw[aa];dsimp only;by_cases h:(cg x).1=0
    .have E:=BF c.1;by_cases n:(cg x).2.1=[]
     .have b:p7 t x=(t,0):=by unfold p7;rw[bb λq=>q.2 n]
      rw[b,aW h,fF (E.2 n)];rfl
     .have b:p7 t x=uX (cg x).2.1 t (lY x<|aM (cg x).2.1):=by unfold p7;rw[bd ⟨h,n⟩]
      rw[b,aW h,cw λq=>n (E.1 q)];rw[show ∀(A B:Option ((((List Nd)×(List Nd)×Int×Int×ai)×ai)⊕(Nat×((List Nd)×(List Nd)×Int×Int×ai)×ai))),aj (aj (nt<|nt true) false true) A B=B from λA B=>rfl];by_cases hd:(ib (cg x).2.1.dropLast [] t).2=0
      .have d:uX (cg x).2.1 t (lY x<|aM (cg x).2.1)=b9 (ib (cg x).2.1.dropLast [] t).1 (lY x<|aM (cg x).2.1):=by unfold uX;rw[bd hd]
       have r:=Ik _ _ _ D hd;have j:=AM (ib (cg x).2.1.dropLast [] t).1 (lY x<|aM (cg x).2.1) (sj r) (aeX g c);rw[d,aW hd,bd hd,aH,af];rw[show mH ((ib (cg x).2.1.dropLast [] t).1,(aM (cg x).2.1,x.1.2.1,x.1.2.2.1,x.2.1,x.1.2.2.2.2.2.2.2.1,()),())=_ from j,aa];dsimp only;by_cases o:(b9 (ib (cg x).2.1.dropLast [] t).1<|lY x<|aM (cg x).2.1).2=0
       .rw[aW o,bd o];rfl
       .rw[aF o,bb o];rfl
      .have d:uX (cg x).2.1 t (lY x<|aM (cg x).2.1)=([],(ib (cg x).2.1.dropLast [] t).2):=by unfold uX;rw[bb hd]
       rw[d,aF hd,bb hd,bb hd];rfl
    .have b:p7 t x=(t,0):=by unfold p7;rw[bb λq=>h q.1]
     rw[b,aF h];rfl) (λt=>by
    unfold mJ;dsimp only;rw[aB,af]) a.length 0 (a.foldl AX l) (by omega) y
   rw[CT] at C;rw[show Loop (mJ (l,a,())) ((a.foldl AX l,[],(0:Int),(0:Int),()),())=_ from H,aa];rcases C with ⟨s,u⟩|⟨s,M,N,u⟩
   .rw[u,s];rfl
   .rw[u];rcases DK a _ y with ⟨I,_⟩|⟨_,J⟩
    .exact absurd I s
    .rw[J];rfl
  .rw[bb m,show lu a=false by simpa using m];rfl
 .have:e=false:=by
   cases e with
   | false=>rfl
   | true=>exact absurd (w.1 rfl) hv
  rw[this,bb hv];rfl
def rd0:Rd:=(false,[],0,false,false,())
abbrev Ns:=(Bool×Int×ai)×(ai×ai×ai)×Rd×ai
def ns(k:Int):Ns:=((false,k,()),((),(),()),rd0,())
theorem Xa:fv (kp 1024,())=some ([],0,()):=by
 have a:∀x∈kp 1024,x=0:=aeT _;have c:(kp 1024).length=1024:=uT _;unfold fv;dsimp only;rw[aD<|show len (kp 1024)<=8192 by unfold len;omega];rw[show bE ((),(true,kp 1024,(0:Int),false,false,()),())=_ from G9 (kp 1024) 0 (by omega) (by omega) (λx b=>a x (Nj b)),cd ⟨by omega,by omega,a⟩,aa];dsimp only;rw[aR,ua];rfl
def Has(t:List Nd)(p:aq):Prop:=p=[]\/∃x∈t,x.1=p/\x.2.1=2
theorem UE{t:List Nd}{n:Nd}(c:Valid t)(d:kg n=true)(h:Has t (bC n.1).1):((b9 t n).2=0/\n∈(b9 t n).1)\/(b9 t n).2=5:=by
 unfold b9;rw[bb<|show ¬(¬Valid t\/kg n=false) from λq=>q.elim (λq=>q c) λq=>by rw[d] at q;cases q];have f:¬((bC n.1).1≠[]/\∀x∈t,x.1≠(bC n.1).1):=λq=>by
  rcases h with h|⟨x,a,e,_⟩
  .exact q.1 h
  .exact q.2 x a e
 have b:¬((bC n.1).1≠[]/\∀x∈t,x.1=(bC n.1).1->x.2.1≠2):=λq=>by
  rcases h with h|⟨x,a,e,k⟩
  .exact q.1 h
  .exact q.2 x a e k
 rw[bb f,bb b];have key:∀r:List Nd,((if 64<=r.length then(([]:List Nd),(5:Int)) else(vh r n,0)).2=0/\n∈(if 64<=r.length then(([]:List Nd),(5:Int)) else(vh r n,0)).1)\/(if 64<=r.length then(([]:List Nd),(5:Int)) else(vh r n,0)).2=5:=λr=>by
  split
  .exact .inr rfl
  .exact .inl ⟨rfl,si.2 (.inl rfl)⟩
 exact key _
theorem aah{t:List Nd}{p:aq}(h:(findF t p).2.1=true):(findF t p).1∈t/\(findF t p).1.1=p:=by
 unfold findF at h⊢;cases a:t.find? λx=>decide (x.1=p) with
 | none=>rw[a] at h;cases h
 | some x=>exact⟨aaZ a,by have:=abr a;simpa using this⟩
theorem adp{p:aq}(h:kg (kQ 0 p)=true):kg (kQ 493 p)=true:=by
 unfold kg at h⊢;simp only[dF] at h⊢;exact⟨⟨⟨h.1.1.1,by simp[kQ]⟩,by simp[kQ]⟩,by simp[YC,kQ]⟩
theorem aai{a:List aq}(h:P0 a)(n:Nat)(w:n<=a.length)(k:preB a n=true):∀(d i:Nat) (t:List Nd),i+d=n->Valid t->Has t (aM<|a.take i) ->
  ((ib ((a.take n).drop i) (aM<|a.take i) t).2=0/\Has (ib ((a.take n).drop i) (aM<|a.take i) t).1 (aM<|a.take n))\/(ib ((a.take n).drop i) (aM<|a.take i) t).2=5:=by
 intro d;induction d with
 | zero =>
   intro i t r l m;obtain rfl:i=n:=by omega
   rw[Kh<|by rw[gM];omega];exact .inl ⟨rfl,m⟩
 | succ d p =>
   intro i t r l m;have hx:a[i]?=some a[i]:=jE (by omega);have c:(a.take n).drop i=a[i]::(a.take n).drop (i+1):=by
    rw[BJ<|by rw[gM];omega,abm]
   have s:=uV h.1 hx;have e:fh a i=aM (a.take<|i+1):=rfl;rw[c];unfold ib;rw[s];split
   .rename_i q;obtain⟨m1,u⟩:=aah q.1;rw[e];exact p (i+1) t (by omega) l (.inr ⟨_,m1,by rw[u,e],q.2⟩)
   .have f:kg (kQ 493<|fh a i)=true:=by
     unfold preB at k;rw[va] at k;exact adp (k i<|B5.2<|by omega)
    have b:=UE l f (by
     show Has t (bC<|fh a i).1
     rw[W5 h.1<|by omega];exact m)
    split
    .rename_i g;rcases b with ⟨_,j⟩|o
     .rw[e];exact p (i+1) _ (by omega) (uW g) (.inr ⟨_,j,rfl,rfl⟩)
     .rw[o] at g;cases g
    .rename_i g;rcases b with ⟨v,_⟩|o
     .exact absurd v g
     .exact .inr o
theorem aaj{a:List aq}(h:P0 a){n:Nd}(k:n.1=aM a)(l:kg n=true)(b:AO a=true){t:List Nd}(g:Valid t):(uX a t n).2=0\/(uX a t n).2=5:=by
 have d:a.take (a.length-1)=a.dropLast:=List.dropLast_eq_take.symm;have c:preB a (a.length-1)=true:=by
  unfold AO at b;simp only[dF,nI] at b;rw[aeV b.2] at b;simp only[dF] at b;exact b.1.1
 have hd:=aai h (a.length-1) (by omega) c (a.length-1) 0 t (by omega) g (.inl<|by simp[aM]);have e:aM (a.take 0)=[]:=by simp[aM]
 rw[CT,d,e] at hd;unfold uX;rcases hd with ⟨i,m⟩|j
 .rw[bd i];have f:=Ik _ _ _ g i;rcases UE f l (by rw[k,Ii h.1];exact m) with ⟨o,_⟩|p
  .exact .inl o
  .exact .inr p
 .rw[bb<|by rw[j];decide];exact .inr j
theorem Xb{p:Pt}(a:(cg p).2.2=true)(c:(cg p).1=0)(b:(cg p).2.1≠[]):kg (lY p<|aM (cg p).2.1)=true/\AO (cg p).2.1=true:=by
 have key:∀(ns:List aq) (q:Bool),ns≠[]->((decide (ns=[])&&q)||(kg (lY p<|aM ns)&&AO ns))=true->kg (lY p<|aM ns)=true/\AO ns=true:=λns q d g=>by
  rw[dL d,Bool.false_and,B6,dF] at g;exact g
 unfold cg at a c b⊢;split at c
 .rename_i e;rw[bd e] at a b⊢;dsimp only at a c b⊢;split at c
  .cases c
  .rename_i h;rw[bb h] at a b⊢;split at c
   .cases c
   .rename_i i;rw[bb i] at a b⊢;split at c
    .rename_i f;rw[bd f] at a b⊢;exact key _ _ b a
    .rename_i f;rw[bb f] at b;exact absurd rfl b
 .rename_i e;rw[bb e] at b;exact absurd rfl b
theorem UF:∀(ps:List Pt) (t:List Nd),lu ps=true->Valid t->(wE ps t).2=0\/(wE ps t).2=5:=by
 intro ps;induction ps with
 | nil=>intro t _ _;exact .inl rfl
 | cons p r e =>
   intro t c d;unfold lu at c;simp only[O8,dF] at c;unfold wE;split
   .rename_i a;exact e _ c.2 (vN d a)
   .rename_i a;right;show(p7 t p).2=5
    unfold p7 at a⊢;split
    .rename_i b;rw[bd b] at a;obtain⟨m1,f⟩:=Xb c.1 b.1 b.2;rcases aaj (AW p) (n:=lY p (aM (cg p).2.1)) rfl m1 f d with g|h
     .exact absurd g a
     .exact h
    .rename_i b;rw[bb b] at a;exact absurd rfl a
theorem aeY{l:List Pt}(c:l.length<=64)(a:∀q∈l,RdP q):adn l:=⟨by omega,λp b=>a p b⟩
def FP(t:List Nd)(q:aq):Option Nd:=t.find? λx=>decide (x.1=q)
theorem YG(t:List Nd)(q:aq):findF t q=match FP t q with
 | some x=>(x,true,())
 | none=>(adb,false,()):=rfl
theorem at_mem{t:List Nd}{q:aq}{x:Nd}(h:FP t q=some x):x∈t/\x.1=q:=by
 unfold FP at h;exact⟨aaZ h,by have:=abr h;simpa using this⟩
theorem yG{t:List Nd}(b:Ord t){q:aq}{x:Nd}:FP t q=some x↔x∈t/\x.1=q:=by
 constructor
 .exact at_mem
 .rintro⟨c,d⟩;have:=Mc b c d;rw[YG] at this;cases a:FP t q with
  | none=>rw[a] at this;cases (dz (dz this).2).1
  | some y=>rw[a] at this;rw[(dz this).1]
theorem YH{a b:Option Nd}(h:∀x,a=some x↔b=some x):a=b:=by
 cases a with
 | none =>
   cases b with
   | none=>rfl
   | some y=>exact absurd ((h y).2 rfl) (by simp)
 | some x=>exact((h x).1 rfl).symm
theorem aak:∀{l m:List Nd},(l.Pairwise λx y=>cmpL (key x) (key y)<0)->(m.Pairwise λx y=>cmpL (key x) (key y)<0)->(∀c,c∈l↔c∈m)->l=m:=by
 intro l;induction l with
 | nil =>
   intro m _ _ h;cases m with
   | nil=>rfl
   | cons d m=>exact absurd ((h d).2<|by simp) (by simp)
 | cons c l n =>
   intro m f g h;cases m with
   | nil=>exact absurd ((h c).1<|by simp) (by simp)
   | cons d m =>
     rw[Ko] at f g;have a:∀x:Nd,¬cmpL (key x) (key x)<0:=λx=>by rw[oX];omega
     have i:c=d:=by
      have j:c=d\/c∈m:=by simpa using(h c).1 (by simp)
      have k:d=c\/d∈l:=by simpa using(h d).2 (by simp)
      rcases j with e|j
      .exact e
      .rcases k with e|k
       .exact e.symm
       .exact absurd (uC (f.1 d k)<|g.1 c j) (a c)
     subst i;rw[n f.2 g.2 λq=>?_];constructor
     .intro b;rcases fY.1 ((h q).1<|oA _ b) with e|e
      .subst e;exact absurd (f.1 q b) (a q)
      .exact e
     .intro b;rcases fY.1 ((h q).2<|oA _ b) with e|e
      .subst e;exact absurd (g.1 q b) (a q)
      .exact e
theorem agE{s t:List Nd}(e:Ord s)(f:Ord t)(h:∀q,FP s q=FP t q):s=t :=
 aak (Hb.1 e) (Hb.1 f) λc=>by
  have a:=yG e (q:=c.1) (x:=c);have b:=yG f (q:=c.1) (x:=c);rw[h c.1] at a;constructor
  .intro d;exact(b.1<|a.2 ⟨d,rfl⟩).1
  .intro d;exact(a.1<|b.2 ⟨d,rfl⟩).1
theorem aal{l:List Nd}(o:Valid l){p:aq}(A:p≠[]):∀(m:Nat) (x:Nd),x∈l->(parts x.1).length<=m->cH (parts x.1) (parts p)=true->∃y∈l,y.1=p/\y.2.1=2:=by
 intro m;induction m with
 | zero =>
   intro x j q d;unfold cH at d;have:=(kx d).1;omega
 | succ m C =>
   intro x j q d;by_cases r:∃y∈l,y.1=p
   .by_cases f:(bC x.1).1=[]
    .exfalso;have h:=d;unfold cH at h;have s:=(kx h).1;have c:=o.may x j;unfold kg AH at c;simp only[dF,nI] at c;have i:=c.1.1.1.1.1.1.1.2;have B:(parts x.1).length<=1:=by
      rcases sb x.1 with ⟨a,_⟩|⟨a,b,D,F,e⟩
      .unfold parts;split
       .simp
       .rw[nf _ a];simp
      .rw[e] at f;have f:a=[]:=f;subst f;have:zI []=true:=va.1 i [] (by
        unfold parts;rw[D,bb (by simp)];show []∈cC ([]++47::b)
        rw[Dq []<|by simp];simp)
       exact absurd this (by decide)
     have t:parts p=[]:=vY.1 (by omega);have:=fJ p;rw[t] at this;exact A this.symm
    .rcases o.up x j with e|⟨y,k,u,v⟩
     .exact absurd e f
     .have w:=yC f;rw[<-u] at w;unfold cH at d;obtain⟨s,n⟩:=kx d;rw[w] at s n;have z:(parts p).length<=(parts y.1).length:=by simp at s;omega
      rw[Y0 z] at n;rcases ud (parts p).length (parts y.1).length with g|g
      .exact C y k (by rw[w] at q;simp at q;omega) (by unfold cH;exact cd ⟨g,n⟩)
      .have E:parts p=parts y.1:=by rw[<-n,zN (by omega)]
       exact⟨y,k,by rw[<-fJ y.1,<-E,fJ],v⟩
   .have:=Mb o A (λy k e=>r ⟨y,k,e⟩) _ x j (cD _);rw[this] at d;cases d
theorem YI{t:List Nd}{n:Nd}(h:(b9 t n).2=0)(q:aq) :
  FP (b9 t n).1 q=if q=n.1 then some n else if cH (parts q) (parts n.1)=true/\n.2.1≠2 then none else FP t q:=by
 rcases Mf t n with ⟨_,m⟩|⟨i,m,y,r,o,A,B⟩
 .exact absurd h m
 have hvalid:=PZ i m y o A;have p:=YD m;rw[B];dsimp only;refine YH λx=>?_;rw[yG hvalid.ord,si];obtain⟨j,_⟩:=o.sub;by_cases g:q=n.1
 .rw[bd g];constructor
  .rintro⟨e|k,f⟩
   .rw[e]
   .exact absurd (f.trans g) (j x k).2
  .intro e;obtain rfl:=aE e;exact⟨.inl rfl,g.symm⟩
 .rw[bb g];have s:(x=n\/x∈r)/\x.1=q↔x∈r/\x.1=q:=by
   constructor
   .rintro⟨e|k,f⟩
    .subst e;exact absurd f.symm g
    .exact⟨k,f⟩
   .rintro⟨k,f⟩;exact⟨.inr k,f⟩
  rw[s];rcases o with ⟨⟨⟨d,E,C,D⟩,u⟩,rfl⟩|⟨v,rfl⟩
  .rw[bb<|λz=>z.2 u,yG i.ord,wZ];constructor
   .rintro⟨⟨a,_⟩,b⟩;exact⟨a,b⟩
   .rintro⟨a,b⟩;exact⟨⟨a,by simp only[kS,Vu];rw[b];exact g⟩,b⟩
  .unfold uU;rw[wZ];by_cases l:cH (parts q) (parts n.1)=true
   .by_cases w:n.2.1=2
    .rw[bb<|λz=>z.2 w,yG i.ord];constructor
     .rintro⟨⟨a,b⟩,c⟩;exact⟨a,c⟩
     .rintro⟨a,c⟩;exfalso;have:=aal i p _ x a (cD _) (by rw[c];exact l);exact v ⟨this,w⟩
    .rw[bd ⟨l,w⟩];constructor
     .rintro⟨⟨a,b⟩,c⟩;unfold gone at b;rw[c,l] at b;simp at b
     .intro e;cases e
   .rw[bb<|λz=>l z.1,yG i.ord];constructor
    .rintro⟨⟨a,b⟩,c⟩;exact⟨a,c⟩
    .rintro⟨a,c⟩;refine⟨⟨a,?_⟩,c⟩;unfold gone;rw[c,dL g,show cH (parts q) (parts n.1)=false by simpa using l];rfl
def Og(q:aq)(s:Option Nd):Option Nd:=match s with
 | some x=>if x.2.1=2 then some x else some (kQ 493 q)
 | none=>some (kQ 493 q)
theorem UG{t:List Nd}(p:aq):((findF t p).2.1=true/\(findF t p).1.2.1=2)↔∃x,FP t p=some x/\x.2.1=2:=by
 rw[YG];cases FP t p with
 | none=>simp
 | some x=>simp
theorem adq{a:List aq}(h:Mg a){i j:Nat}(b:i<a.length)(c:j<a.length)(e:fh a i=fh a j):i=j:=by
 have:=congrArg (λp=>(parts p).length) e;simp only[DJ h,gM] at this;omega
theorem aeZ{f:List aq}(h:Mg f)(n:Nat)(F:n<=f.length)(q:aq):∀(d i:Nat) (t:List Nd),i+d=n->Valid t ->
  (ib ((f.take n).drop i) (aM<|f.take i) t).2=0 ->
  ((∃j,i<=j/\j<n/\q=fh f j)->FP (ib ((f.take n).drop i) (aM<|f.take i) t).1 q=Og q (FP t q)) /\
  ((¬∃j,i<=j/\j<n/\q=fh f j)->FP (ib ((f.take n).drop i) (aM<|f.take i) t).1 q=FP t q):=by
 intro d;induction d with
 | zero =>
   intro i t A w _;obtain rfl:i=n:=by omega
   rw[Kh<|by rw[gM];omega];exact⟨λ⟨j,a,b,_⟩=>absurd a (by omega),λ_=>rfl⟩
 | succ d y =>
   intro i t A w m;have hx:f[i]?=some f[i]:=jE (by omega);have o:(f.take n).drop i=f[i]::(f.take n).drop (i+1):=by
    rw[BJ<|by rw[gM];omega,abm]
   have B:=uV h hx;have l:fh f i=aM (f.take<|i+1):=rfl;rw[o] at m⊢;unfold ib at m⊢;rw[B] at m⊢;have k:(∃j,i<=j/\j<n/\q=fh f j)↔(q=fh f i\/∃j,i+1<=j/\j<n/\q=fh f j):=by
    constructor
    .rintro⟨j,a,b,c⟩;by_cases e:j=i
     .subst e;exact .inl c
     .exact .inr ⟨j,by omega,b,c⟩
    .rintro(c|⟨j,a,b,c⟩)
     .exact⟨i,cD _,by omega,c⟩
     .exact⟨j,by omega,b,c⟩
   have apart:q=fh f i->¬∃j,i+1<=j/\j<n/\q=fh f j:=by
    rintro e ⟨j,a,b,c⟩;have:=adq h (by omega) (by omega) (e.symm.trans c);omega
   by_cases r:(findF t<|fh f i).2.1=true/\(findF t<|fh f i).1.2.1=2
   .rw[bd r] at m⊢;rw[l] at m⊢;obtain⟨u,p⟩:=y (i+1) t (by omega) w m;rw[k];obtain⟨x,C,D⟩:=(UG _).1 r;constructor
    .rintro(e|e)
     .rw[p<|apart e,e,C];unfold Og;simp only[bd D]
     .exact u e
    .intro e;exact p λz=>e (.inr z)
   .rw[bb r] at m⊢;by_cases s:(b9 t<|kQ 493<|fh f i).2=0
    .rw[bd s] at m⊢;rw[l] at m⊢;obtain⟨u,p⟩:=y (i+1) _ (by omega) (uW s) m;have g:=YI s q;rw[<-l] at u p;rw[k];have v:¬(kQ 493<|fh f i).2.1≠2:=λz=>z rfl;rw[bb λz:cH (parts q) (parts (kQ 493<|fh f i).1)=true/\(kQ 493<|fh f i).2.1≠2=>v z.2] at g;constructor
     .rintro(e|e)
      .rw[bd<|show q=(kQ 493<|fh f i).1 from e] at g;rw[<-l,p (apart e),g];unfold Og;rw[UG] at r;cases E:FP t q with
       | none=>dsimp only;rw[e]
       | some x =>
         dsimp only;rw[bb<|λz=>r ⟨x,by rw[<-e];exact E,z⟩,e]
      .rw[bb λz:q=(kQ 493<|fh f i).1=>apart z e] at g;rw[<-l,u e,g]
     .intro e;rw[bb λz:q=(kQ 493<|fh f i).1=>e (.inl z)] at g;rw[<-l,p λz=>e (.inr z),g]
    .rw[bb s] at m;exact absurd m s
def ae0(a:List aq)(n:Nd)(q:aq)(s:Option Nd):Option Nd :=
 if q=n.1 then some n else if cH (parts q) a=true/\n.2.1≠2 then none else if cH a (parts q)=true/\q≠[] then Og q s else s
theorem aam{a:List aq}(h:Mg a)(q:aq):(∃j,0<=j/\j<a.length-1/\q=fh a j)↔(cH a (parts q)=true/\q≠[]):=by
 constructor
 .rintro⟨j,_,g,rfl⟩;rw[DJ h];constructor
  .unfold cH;refine cd ⟨?_,?_⟩
   .rw[gM];omega
   .rw[gM,sw (by omega)]
  .intro e;have:=congrArg (λp=>(parts p).length) e;simp only[DJ h,gM,show(parts []).length=0 from rfl] at this;omega
 .rintro⟨b,d⟩;unfold cH at b;obtain⟨i,f⟩:=kx b;have c:0<(parts q).length:=by
   apply Nat.pos_of_ne_zero;intro e;have:=fJ q;rw[vY.1 e] at this;exact d this.symm
  refine⟨(parts q).length-1,pj _,by omega,?_⟩;unfold fh;rw[show(parts q).length-1+1=(parts q).length by omega,f,fJ]
theorem ae1{a:List aq}(h:Mg a){t:List Nd}(k:Valid t){n:Nd}(j:n.1=aM a)(c:(uX a t n).2=0)(q:aq):FP (uX a t n).1 q=ae0 a n q (FP t q):=by
 have d:a.take (a.length-1)=a.dropLast:=List.dropLast_eq_take.symm;have e:aM (a.take 0)=[]:=by simp[aM]
 unfold uX at c⊢;by_cases hd:(ib a.dropLast [] t).2=0
 .rw[bd hd] at c⊢;have b:=aeZ h (a.length-1) (by omega) q (a.length-1) 0 t (by omega) k (by rw[CT,d,e];exact hd);rw[CT,d,e,aam h] at b;rw[YI c q,j,mE a h];unfold ae0;rw[j];by_cases f:q=aM a
  .rw[bd f,bd f]
  .rw[bb f,bb f];by_cases g:cH (parts q) a=true/\n.2.1≠2
   .rw[bd g,bd g]
   .rw[bb g,bb g];by_cases i:cH a (parts q)=true/\q≠[]
    .rw[bd i,b.1 i]
    .rw[bb i,b.2 i]
 .rw[bb hd] at c;exact absurd c hd
def aan(q:aq)(s:Option Nd)(p:Pt):Option Nd:=if(cg p).1=0/\(cg p).2.1≠[] then ae0 (cg p).2.1 (lY p<|aM (cg p).2.1) q s else s
def Ml(q:aq)(p:Pt):Bool:=(decide ((cg p).1=1)&&(decide (q=aM (cg p).2.1)||cH (parts q) (cg p).2.1))||(decide ((cg p).1=2)&&cH (parts q) (cg p).2.1)
def adr(q:aq)(a:List Pt)(s:Option Nd):Option Nd:=if a.any (Ml q)=true then none else s
theorem agF:∀(ps:List Pt) (t:List Nd),Valid t->(wE ps t).2=0->∀q,FP (wE ps t).1 q=ps.foldl (aan q) (FP t q):=by
 intro ps;induction ps with
 | nil=>intro t _ _ q;rfl
 | cons p r e =>
   intro t d b q;unfold wE at b⊢;by_cases a:(p7 t p).2=0
   .rw[bd a] at b⊢;rw[e _ (vN d a) b q,XN]
    congr 1
    unfold p7 aan at *;by_cases c:(cg p).1=0/\(cg p).2.1≠[]
    .rw[bd c] at a⊢;rw[bd c];exact ae1 (AW p).1 d rfl a q
    .rw[bb c,bb c]
   .rw[bb a] at b;exact absurd b a
theorem agG{t:List Nd}(h:Valid t)(p:Pt)(q:aq):FP (AX t p) q=if Ml q p=true then none else FP t q:=by
 have i:=yF h p;have j:=AW p;have d:parts (aM (cg p).2.1)=(cg p).2.1:=mE _ j.1;refine YH λx=>?_;rw[yG i.ord];have key:∀P:Nd->Bool,(∀x,x.1=q->P x=!Ml q p)->((x∈t.filter P/\x.1=q)↔(if Ml q p=true then none else FP t q)=some x):=by
  intro P l;rw[wZ];by_cases c:Ml q p=true
  .rw[bd c];constructor
   .rintro⟨⟨_,a⟩,b⟩;rw[l x b,c] at a;cases a
   .intro e;cases e
  .rw[bb c,yG h.ord];constructor
   .rintro⟨⟨a,_⟩,b⟩;exact⟨a,b⟩
   .rintro⟨a,b⟩;exact⟨⟨a,by rw[l x b];simpa using c⟩,b⟩
 unfold AX;by_cases f:(cg p).1=1
 .rw[bd f];refine key _ λy k=>?_;unfold gone Ml;rw[k,d,f];simp
 .rw[bb f];by_cases g:(cg p).1=2
  .rw[bd g];refine key _ λy k=>?_;unfold Ml;rw[k,d,g];simp
  .rw[bb g];have c:Ml q p=false:=by unfold Ml;rw[dL f,dL g];rfl
   rw[bb<|by rw[c];decide,yG h.ord]
theorem aao:∀(ps:List Pt) (t:List Nd),Valid t->∀q,FP (ps.foldl AX t) q=adr q ps (FP t q):=by
 intro ps;induction ps with
 | nil=>intro t _ q;rfl
 | cons p r b =>
   intro t a q;rw[XN,b _ (yF a p) q,agG a p q];unfold adr;rw[List.any_cons];cases Ml q p with
   | false=>rfl
   | true =>
     rw[bd rfl];simp
theorem Xc{l:List Nd}(b:Valid l){a:List Pt}(e:lu a=true)(c:(nx l a).2=0):Valid (nx l a).1/\∀q,FP (nx l a).1 q=a.foldl (aan q) (adr q a<|FP l q):=by
 have f:nx l a=wE a (a.foldl AX l):=by unfold nx;rw[bd b,bd e]
 rw[f] at c⊢;have d:=vO a l b;refine⟨?_,λq=>?_⟩
 .rcases DK a _ d with ⟨_,h⟩|⟨h,_⟩
  .exact h
  .exact absurd c h
 .rw[agF a _ d c q,aao a l b q]
theorem ads{l:List Nd}(e:Valid l)(a:List Pt):((nx l a).2=0/\lu a=true)\/((nx l a).2≠0/\(nx l a).1=[]/\((nx l a).2=10\/(nx l a).2=5)):=by
 by_cases c:lu a=true
 .have f:nx l a=wE a (a.foldl AX l):=by unfold nx;rw[bd e,bd c]
  rw[f];have g:=vO a l e;rcases DK a _ g with ⟨d,h⟩|⟨d,h⟩
  .exact .inl ⟨d,c⟩
  .rcases UF a _ c g with b|b
   .exact absurd b d
   .exact .inr ⟨d,h,.inr b⟩
 .have f:nx l a=([],10):=by unfold nx;rw[bd e,bb c]
  rw[f];exact .inr ⟨by decide,rfl,.inl rfl⟩
def yH(q:aq)(f:Option Nd->Option Nd):Prop:=(∃c,∀s,f s=c)\/(∀s,f s=Og q s)\/(∀s,f s=s)
theorem P2(q:aq)(s:Option Nd):Og q (Og q s)=Og q s:=by
 cases s with
 | none=>rfl
 | some x =>
   show Og q (if x.2.1=2 then some x else some (kQ 493 q))=if x.2.1=2 then some x else some (kQ 493 q)
   by_cases h:x.2.1=2
   .rw[bd h];show(if x.2.1=2 then some x else some (kQ 493 q))=_
    rw[bd h]
   .rw[bb h];rfl
theorem yH.comp{q:aq}{f g:Option Nd->Option Nd}(b:yH q f)(a:yH q g):yH q (λs=>f (g s)):=by
 rcases b with ⟨c,d⟩|b|b
 .exact .inl ⟨c,λs=>d _⟩
 .rcases a with ⟨c,d⟩|a|a
  .exact .inl ⟨Og q c,λs=>by show f (g s)=_;rw[b,d]⟩
  .exact .inr (.inl λs=>by show f (g s)=_;rw[b,a,P2])
  .exact .inr (.inl λs=>by show f (g s)=_;rw[b,a])
 .rcases a with ⟨c,d⟩|a|a
  .exact .inl ⟨c,λs=>by show f (g s)=_;rw[b,d]⟩
  .exact .inr (.inl λs=>by show f (g s)=_;rw[b,a])
  .exact .inr (.inr λs=>by show f (g s)=_;rw[b,a])
theorem yH.ah2{q:aq}{f:Option Nd->Option Nd}(a:yH q f)(s:Option Nd):f (f s)=f s:=by
 rcases a with ⟨c,b⟩|a|a
 .rw[b,b]
 .rw[a,a,P2]
 .rw[a,a]
theorem Xd(q:aq)(p:Pt):yH q (λs=>aan q s p):=by
 unfold aan;by_cases a:(cg p).1=0/\(cg p).2.1≠[]
 .simp only[bd a];unfold ae0;by_cases b:q=(lY p<|aM (cg p).2.1).1
  .simp only[bd b];exact .inl ⟨_,λ_=>rfl⟩
  .simp only[bb b];by_cases c:cH (parts q) (cg p).2.1=true/\(lY p<|aM (cg p).2.1).2.1≠2
   .simp only[bd c];exact .inl ⟨_,λ_=>rfl⟩
   .simp only[bb c];by_cases d:cH (cg p).2.1 (parts q)=true/\q≠[]
    .simp only[bd d];exact .inr (.inl λ_=>rfl)
    .simp only[bb d];exact .inr (.inr λ_=>rfl)
 .simp only[bb a];exact .inr (.inr λ_=>rfl)
theorem UH(q:aq):∀(ps:List Pt),yH q (λs=>ps.foldl (aan q) s):=by
 intro ps;induction ps with
 | nil=>exact .inr (.inr λ_=>rfl)
 | cons p r a=>exact a.comp (Xd q p)
theorem UI(q:aq)(a:List Pt):yH q (adr q a):=by
 unfold adr;by_cases h:a.any (Ml q)=true
 .simp only[bd h];exact .inl ⟨_,λ_=>rfl⟩
 .simp only[bb h];exact .inr (.inr λ_=>rfl)
theorem adt{l:List Nd}(b:Valid l){a:List Pt}(c:lu a=true):(nx l a).2=0\/(nx l a).2=5:=by
 have d:nx l a=wE a (a.foldl AX l):=by unfold nx;rw[bd b,bd c]
 rw[d];exact UF a _ c (vO a l b)
theorem aap{l:List Nd}(d:Valid l){a:List Pt}(b:lu a=true)(e:(nx l a).2=0):nx (nx l a).1 a=((nx l a).1,0)\/(nx (nx l a).1 a).2=5:=by
 obtain⟨c,f⟩:=Xc d b e;rcases adt c b with h|h
 .left;obtain⟨g,i⟩:=Xc c b h;have:(nx (nx l a).1 a).1=(nx l a).1:=agE g.ord c.ord λq=>by
   rw[i,f];exact((UH q a).comp<|UI q a).ah2 (FP l q)
  exact Prod.ext this h
 .exact .inr h
def FQ(s:aq):List Pt×Int:=match fv (s,()) with
 | some (l,e,_)=>(l,e)
 | none=>([],10)
theorem YJ(s:aq):fv (s,())=some ((FQ s).1,(FQ s).2,())/\adn (FQ s).1:=by
 obtain⟨d,e,a,b,c,_⟩:=ac7 s;unfold FQ;rw[a];exact⟨rfl,aeY b c⟩
def oM(l:List Nd)(s:aq):List Nd×Int:=if(FQ s).2=0 then nx l (FQ s).1 else([],10)
theorem aaq{l:List Nd}(c:Valid l)(s:aq):((oM l s).2=0/\Valid (oM l s).1/\(oM (oM l s).1 s=((oM l s).1,0)\/(oM (oM l s).1 s).2=5))\/((oM l s).2≠0/\(oM l s).1=[]):=by
 unfold oM;by_cases h:(FQ s).2=0
 .rw[bd h];simp only[bd h];rcases ads c (FQ s).1 with ⟨a,b⟩|⟨a,b,_⟩
  .exact .inl ⟨a,(Xc c b a).1,aap c b a⟩
  .exact .inr ⟨a,b⟩
 .rw[bb h];exact .inr ⟨by decide,rfl⟩
def AY:List aq->List Nd->List Nd×Int
 | [],t=>(t,0)
 | s::r,t=>if(oM t s).2=0 then AY r (oM t s).1 else([],(oM t s).2)
theorem aar:∀(r:List aq) (s:aq) (t u:List Nd),AY r t=(u,0)->AY (r++[s]) t=if(oM u s).2=0 then((oM u s).1,0) else([],(oM u s).2):=by
 intro r;induction r with
 | nil =>
   intro s t u h;have:t=u:=congrArg Prod.fst h;subst this;rfl
 | cons a r c =>
   intro s t u h;rw[zP];unfold AY at h⊢;by_cases b:(oM t a).2=0
   .rw[bd b] at h⊢;exact c s _ u h
   .rw[bb b] at h;exact absurd (congrArg Prod.snd h) b
theorem P3(b:aq)(l:b.length<=100000):tB (b,())=some (decide (b.length=512/\∀x∈b,x=0),()):=by
 have e0:∀y:UInt8,aL (u8 y) 0=decide (y=0):=λy=>Cl (n:=0);have h:=adk (f:=iK (b,())) b (λi=>((false,(i:Int),()),())) (λx=>!decide (x=0)) (λj=>(1,(false,(j:Int),()),())) (0,(false,(b.length:Int),()),()) (λi x a=>by
  have hi:=aG a;unfold iK;dsimp only;rw[au hi,ae,az a,aa,e0,aT (by omega)];cases decide (x=0)<;>rfl) (by
  unfold iK;dsimp only;rw[aB,af]) b.length 0 (by omega)
 unfold tB;rcases h with ⟨j,x,_,a,g,_,d⟩|⟨k,d⟩
 .rw[show Loop (iK (b,())) ((false,(0:Int),()),())=_ from d,aa,jI,af];have e:x≠0:=by simpa using g
  rw[dL λq:b.length=512/\∀x∈b,x=0=>e (q.2 x<|iy a)]
 .rw[show Loop (iK (b,())) ((false,(0:Int),()),())=_ from d,aa,eJ,ae];have c:∀x∈b,x=0:=λx a=>by
   obtain⟨i,hi⟩:=bR.1 a;simpa using k i x (pj _) hi
  have:aL (len b) 512=decide (b.length=512/\∀x∈b,x=0):=by
   unfold aL len;apply ky.2;constructor
   .intro h;exact⟨by omega,c⟩
   .intro h;omega
  rw[this]
theorem aas(b:aq)(o:b.length<=100000):tC (b,())=some (decide (1024<=b.length/\b.length % 512=0/\∀x∈b,x=0),()):=by
 have e0:∀y:UInt8,aL (u8 y) 0=decide (y=0):=λy=>Cl (n:=0);have h:=adk (f:=iL (b,())) b (λi=>((false,(i:Int),()),())) (λx=>!decide (x=0)) (λj=>(1,(false,(j:Int),()),())) (0,(false,(b.length:Int),()),()) (λi x a=>by
  have hi:=aG a;unfold iL;dsimp only;rw[au hi,ae,az a,aa,e0,aT (by omega)];cases decide (x=0)<;>rfl) (by
  unfold iL;dsimp only;rw[aB,af]) b.length 0 (by omega)
 unfold tC;dsimp only;by_cases g:1024<=b.length
 case neg =>
  rw[aU<|by rw[bM];omega,aH,af,aa,ae,dL λq:1024<=b.length/\b.length % 512=0/\∀x∈b,x=0=>g q.1]
 rw[aD<|by rw[bM];omega,aA,ae,show aL 512 0=false from rfl,af,show iA (len b) 512=((b.length % 512:Nat):Int) from rfl];by_cases k:b.length % 512=0
 case neg =>
  rw[aF<|by omega,aA,aa,ae,dL λq:1024<=b.length/\b.length % 512=0/\∀x∈b,x=0=>k q.2.1]
 rw[aW<|by omega,aH,aa,af];rcases h with ⟨j,x,_,a,l,_,d⟩|⟨m,d⟩
 .rw[show Loop (iL (b,())) ((false,(0:Int),()),())=_ from d,aa,jI,af];have e:x≠0:=by simpa using l
  rw[dL λq:1024<=b.length/\b.length % 512=0/\∀x∈b,x=0=>e (q.2.2 x<|iy a)]
 .rw[show Loop (iL (b,())) ((false,(0:Int),()),())=_ from d,aa,eJ,ae];have c:∀x∈b,x=0:=λx a=>by
   obtain⟨i,hi⟩:=bR.1 a;simpa using m i x (pj _) hi
  rw[cd (⟨g,k,c⟩:1024<=b.length/\b.length % 512=0/\∀x∈b,x=0)]
abbrev PS:=(aq×(List Pt×(Bool×(ai×ai))))×(List Pt×ai)
def ps0(r:aq)(a:List Pt):PS:=((r,([]:List Pt),false,(),()),a,())
theorem P4(r:aq)(c:List Pt)(C:r.length<=8192):∃p g h,bE ((),rd r (c.length:Int),())=some ((p,g,()),h,()) /\
  ((g=false/\∃b z,h=AG (c.length:Int) b/\ef (ps0 r c)=some (.inr z)/\((z.1=0/\b=true)\/(z.1=1/\z.2.1.2.1=c/\z.2.1.2.2.1=!b))) \/
   (g=true/\∃l,h=rd l ((c.length+1:Nat):Int)/\l.length+512<=r.length/\c.length<64/\ef (ps0 r c)=some (.inl<|ps0 l<|c++[p]))):=by
 by_cases d:r.length<512
 .refine⟨_,_,_,L7 r c.length d,.inl ⟨rfl,true,(0,ps0 r c),rfl,?_,.inl ⟨rfl,rfl⟩⟩⟩;unfold ef ps0;dsimp only;rw[eu<|by rw[bM];omega,af]
 have m:(r.take 512).length=512:=by rw[gM];omega
 have f:inside (0:Int) (512:Int) (len r)=true:=aY (by decide) (by decide) (by rw[bM];omega);by_cases o:∀x∈r.take 512,x=0
 .refine⟨_,_,_,G9 r c.length (by omega) (by omega) o,.inl ⟨rfl,_,(1,(r,c,decide (1024<=r.length/\r.length % 512=0/\∀x∈r,x=0),(),()),c,()),rfl,?_,.inr ⟨rfl,rfl,by simp⟩⟩⟩;unfold ef ps0;dsimp only;rw[cr<|by rw[bM];omega,ae,f,ae,show sub r 0 (minus 512 0)=r.take 512 from jU r 512,P3 _ (by omega),aa,cd (⟨m,o⟩:(r.take 512).length=512/\∀x∈r.take 512,x=0),ae,aas r (by omega),aa]
 have e:=λb=>Fi r (c.length:Int) b;obtain⟨x,v,u,w⟩:=YB (r.take 512) m;have t3:=(take_same (r.take 512) m).trans u;have y:(r.drop 512).length=r.length-512:=ma;unfold bE ef ps0;dsimp only[rd] at e⊢;rw[aH,aA,ae,af,aD (by rw[bM];omega),af,f,ae,show sub r 0 (minus 512 0)=r.take 512 from jU r 512];rw[LS (r.take 512)<|by omega,aa,cr (a:=512) (b:=len r) (by rw[bM];omega),ae,ae,P3 _ (by omega),aa];dsimp only;rw[dL (λq:(r.take 512).length=512/\∀x∈r.take 512,x=0=>o q.2),af,af,ae,ae,u,t3,aa,aa,aY (i:=512) (j:=len r) (n:=len r) (by decide) (by rw[bM];omega) (DY _),ae,show sub r 512 (minus (len r) 512)=r.drop 512 from pJ r 512 (by omega)];dsimp only;by_cases s:v=0
 case neg =>
  rw[aF s,aA,ae,e,aa];exact⟨_,_,_,rfl,.inl ⟨rfl,_,_,rfl,rfl,.inr ⟨rfl,rfl,rfl⟩⟩⟩
 rw[aW s,aH,af];have t:=w s;obtain⟨A,D⟩:=t.2.2.2.1;obtain⟨k,B⟩:=aa3 A;rw[B];by_cases E:8192<k
 .rw[aU (a:=len (r.drop 512))<|by rw[bM];omega,ae,e,aa,aU (a:=8192) (b:=(k:Int)) (by omega)];exact⟨_,_,_,rfl,.inl ⟨rfl,_,_,rfl,rfl,.inr ⟨rfl,rfl,rfl⟩⟩⟩
 have F:=Up k;rw[aD (a:=8192) (b:=(k:Int))<|by omega,show lL ((k:Int),())=_ from Ut k (by omega),aa];dsimp only;rw[show ax .i64 512 ((k+l8 k:Nat):Int)=((512+(k+l8 k):Nat):Int) from uN (a:=512) (by omega)];by_cases G:(r.drop 512).length<k
 .rw[aU (a:=len (r.drop 512))<|by rw[bM];omega,ae,e,aa,aU (a:=len r) (by rw[bM];omega)];exact⟨_,_,_,rfl,.inl ⟨rfl,_,_,rfl,rfl,.inr ⟨rfl,rfl,rfl⟩⟩⟩
 .rw[aD (a:=len (r.drop 512))<|by rw[bM];omega,af,Uq k (by omega),aa,fE (a:=(k:Int)) (by omega) (by omega)];dsimp only;by_cases H:(r.drop 512).length<k+l8 k
  .rw[aU (a:=len (r.drop 512))<|by rw[bM];omega,ae,e,aa,aU (a:=len r) (by rw[bM];omega)];exact⟨_,_,_,rfl,.inl ⟨rfl,_,_,rfl,rfl,.inr ⟨rfl,rfl,rfl⟩⟩⟩
  .rw[aD (a:=len (r.drop 512))<|by rw[bM];omega,af,aD (a:=len r) (by rw[bM];omega)];by_cases I:64<=c.length
   .rw[cr (b:=(c.length:Int))<|by omega,ae,e,aa,cr (b:=len c) (by rw[bM];omega)];exact⟨_,_,_,rfl,.inl ⟨rfl,_,_,rfl,rfl,.inr ⟨rfl,rfl,rfl⟩⟩⟩
   .rw[eu (b:=(c.length:Int))<|by omega,af,aa,fE (a:=(k:Int)) (by omega) (by omega),aY (i:=(k:Int)+(l8 k:Int)) (by omega) (by rw[bM];omega) (DY _),ae,aY (i:=0) (j:=(k:Int)) (by omega) (by omega) (by rw[bM];omega),ae];rw[show sub (r.drop 512) 0 (minus (k:Int) 0)=(r.drop 512).take k from jU _ k,show(k:Int)+(l8 k:Int)=((k+l8 k:Nat):Int) by omega,pJ _ (k+l8 k) (by omega),aT (by omega)];rw[eu (b:=len c)<|by rw[bM];omega];have es:sub r 512 (minus ((512+k:Nat):Int) 512)=(r.drop 512).take k:=by
     unfold sub minus;rw[show(((512+k:Nat):Int)-512).toNat=k by omega];rfl
    refine⟨_,_,_,rfl,.inr ⟨rfl,_,rfl,?_,by omega,?_⟩⟩
    .rw[ma];omega
    .rw[show ax .i64 512 ((k:Nat):Int)=((512+k:Nat):Int) from uN (a:=512) (by omega),es];rw[show aj (nt<|aj (nt false) false true) (some false) (some true)=some false from rfl];rw[aa,aA,ae,af,aY (i:=512) (by decide) (by omega) (by rw[bM];omega),ae,b7 (by simp only[dW,gi];omega),ae,aa];dsimp only;rw[show ax .i64 512 ((k+l8 k:Nat):Int)=((512+(k+l8 k):Nat):Int) from uN (a:=512) (by omega),aY (by omega) (by rw[bM];omega) (DY _),ae,pJ r (512+(k+l8 k)) (by omega),vZ];rfl
theorem aat:∀(m:Nat) (r:aq) (out:List Pt) (p:Pt),r.length<=m->r.length<=8192->out.length<=63 ->
  ∃(c:List Pt) (d:Pt) (b:Int×Bool) (z:Nat×PS),Loop gG (((),(),true,()),p,out,rd r ((out.length+1:Nat):Int),())=some (((),(),false,()),d,c,AG b.1 b.2,()) /\
   Loop ef (ps0 r<|out++[p])=some z/\((z.1=0/\b.2=true)\/(z.1=1/\z.2.1.2.1=c/\z.2.1.2.2.1=!b.2)):=by
 intro m;induction m using Nat.strongRecOn with
 | _ m h =>
   intro r out p x i j;obtain⟨e,k,l,f,n⟩:=P4 r (out++[p]) i;have hlen:((out++[p]).length:Int)=((out.length+1:Nat):Int):=by simp
   rw[hlen] at f;have a:=PU p out (rd r ((out.length+1:Nat):Int)) (by omega) f;rcases n with ⟨rfl,b,z,rfl,q,s⟩|⟨rfl,g,rfl,y,A,t⟩
   .refine⟨out++[p],e,(((out++[p]).length:Int),b),z,?_,by rw[aR,q];rfl,s⟩;rw[aR,a];show Loop _ _=_
    rw[aR,ua];rfl
   .obtain⟨o,d,b,z,u,v,w⟩:=h g.length (by omega) g (out++[p]) e (cD _) (by omega) (by omega);exact⟨o,d,b,z,by rw[aR,a];exact u,by rw[aR,t];exact v,w⟩
theorem P5(s:aq):kK (s,())=fv (s,()):=by
 by_cases f:8192<s.length
 .rw[PV s f];unfold kK rA;dsimp only;rw[aU<|by rw[bM];omega,ae,aa];rfl
 obtain⟨p,v,w,g,h⟩:=P4 s [] (by omega);have fin:∀(b:Int×Bool) (o:List Pt),(ab (gQ ((),AG b.1 b.2,())) λa=>aj a.1.1 (some (([]:List Pt),(10:Int),())) (some (o,(0:Int),())))=some (if b.2=true then(([]:List Pt),(10:Int),()) else(o,(0:Int),())):=λb o=>by
  obtain⟨x,i⟩:=b;cases i<;>rfl
 have parts:∀(o:List Pt) (b:Bool) (z:Nat×PS),Loop ef (ps0 s [])=some z->((z.1=0/\b=true)\/(z.1=1/\z.2.1.2.1=o/\z.2.1.2.2.1=!b))->kK (s,())=some (if b=true then(([]:List Pt),(10:Int),()) else(o,(0:Int),())):=λo b z j k=>by
  unfold kK rA;dsimp only;rw[aD<|by rw[bM];omega,af,show Loop ef ((s,([]:List Pt),false,(),()),([]:List Pt),())=_ from j,aa];rcases k with ⟨c,d⟩|⟨c,d,l⟩
  .rw[c,eJ,ae,aa,d];rfl
  .rw[c,jI,af,aa,d,l];cases b<;>rfl
 have e0:(([]:List Pt).length:Int)=0:=rfl;unfold fv;dsimp only;rw[aD<|by rw[bM];omega,show bE ((),(true,s,(0:Int),false,false,()),())=_ from g,aa];dsimp only;rcases h with ⟨rfl,b,z,rfl,m,n⟩|⟨rfl,e,rfl,y,A,q⟩
 .rw[aR,ua];show _=(ab (gQ ((),AG _ _,())) λa=>aj a.1.1 (some (([]:List Pt),(10:Int),())) (some (([]:List Pt),(0:Int),())))
  rw[fin (_,b),parts [] b z (by rw[aR,m];rfl) n]
 .obtain⟨o,B,b,z,r,t,u⟩:=aat e.length e [] p (cD _) (by omega) (by simp);rw[show Loop gG (((),(),true,()),p,([]:List Pt),rd e ((([]:List Pt).length+1:Nat):Int),())=_ from r,aa];dsimp only;rw[fin b o];exact parts o b.2 z (by rw[aR,q];exact t) u
theorem AZ(s:aq):lM (s,())=some (if(FQ s).2=0/\lu (FQ s).1=true then 0 else 10,()):=by
 obtain⟨d,e⟩:=YJ s;unfold lM;dsimp only;rw[P5 s,d,aa];dsimp only;rw[AV _ e,aa];dsimp only;by_cases a:(FQ s).2=0
 .rw[aW a];by_cases c:lu (FQ s).1=true
  .rw[c,bd ⟨a,rfl⟩];rfl
  .have b:lu (FQ s).1=false:=by simpa using c
   rw[b,bb λq:(FQ s).2=0/\false=true=>Bool.noConfusion q.2];rfl
 .rw[aF a,bb λq:(FQ s).2=0/\lu (FQ s).1=true=>a q.1];rfl
theorem UJ{l:List Nd}(b:Valid l){a:List Pt}(c:¬lu a=true):nx l a=([],10):=by unfold nx;rw[bd b,bb c]
def Hg(a:List ay)(id:Tx):Option Nat:=a.findIdx? λx=>decide (x.1=id)
def Fl(a:List ay)(id:Tx):Int:=match Hg a id with|some i=>(i:Int)|none=>-1
theorem Mm{b:List ay}{id:Tx}{i:Nat}{x:ay}(c:b[i]?=some x)(e:x.1=id)(f:∀(j:Nat) (y:ay),j<i->b[j]?=some y->decide (y.1=id)=false):Hg b id=some i:=by
 unfold Hg;rw[aaU];have a:=aG c;refine⟨a,?_,λj d=>?_⟩
 .rw[jE a] at c;rw[aE c,cd e]
 .have:=f j b[j] d (jE<|by omega);rw[this];simp
theorem Fm{a:List ay}{id:Tx}(b:∀(i:Nat) (x:ay),a[i]?=some x->decide (x.1=id)=false):Hg a id=none:=by
 unfold Hg;rw[aaY];intro x c;obtain⟨i,d⟩:=bR.1 c;exact b i x d
theorem DL{a:List ay}{id:Tx}{i:Nat}(h:Hg a id=some i):∃x,a[i]?=some x/\x.1=id:=by
 unfold Hg at h;rw[aaU] at h;obtain⟨b,c,_⟩:=h;exact⟨a[i],jE b,kx c⟩
theorem YK{a:List ay}{id:Tx}:(∃i,Hg a id=some i)↔∃x∈a,x.1=id:=by
 constructor
 .rintro⟨i,h⟩;obtain⟨x,b,c⟩:=DL h;exact⟨x,iy b,c⟩
 .rintro⟨x,b,c⟩;cases h:Hg a id with
  | some i=>exact⟨i,rfl⟩
  | none =>
    unfold Hg at h;rw[aaY] at h;have:=h x b;simp[c] at this
theorem P6{f:(Int×Int×ai)×ai->Option (((Int×Int×ai)×ai)⊕(Nat×(Int×Int×ai)×ai))}(a:List ay)(id:Tx)(n:a.length<=1000000)
  (d:∀c i:Int,f ((c,i,()),())=aj (aO i<|len a) (ab (idx a i) λy=>aj (bz y.1 id) (some<|.inr (1,(i,i,()),())) (some<|.inl ((c,ax .i64 i 1,()),()))) (some<|.inr (0,(c,i,()),()))) :
  ab (Loop f (((0:Int),(0:Int),()),())) (λe=>aj (cR e.1 0) (some ((-1:Int),())) (some (e.2.1.1,())))=some (Fl a id,()):=by
 rcases qF (f:=f) a (λi=>(((0:Int),i,()),())) (λ_ x=>decide (x.1=id)) (λi x=>(1,((i:Int),(i:Int),()),())) (0,((0:Int),len a,()),()) (by omega) (λi x b g j=>by
  rw[d,au g,ae,az b,aa,gX,j];by_cases h:x.1=id<;>simp[bz,h]) (by rw[d,aB,af];rfl) with ⟨i,x,b,k,l,h⟩|⟨m,h⟩
 .rw[h,aa];unfold Fl;rw[Mm b (kx k) l];rfl
 .rw[h,aa];unfold Fl;rw[Fm m];rfl
theorem Mn(a:List ay)(id:Tx)(b:a.length<=1000000):yA (a,id,())=some (Fl a id,()):=P6 a id b λc i=>rfl
theorem Mo(s:bh)(id:Tx)(a:s.2.2.1.length<=1000000):kL (s,id,())=some (Fl s.2.2.1 id,()):=P6 s.2.2.1 id a λc i=>rfl
def BG(a:List ay):Nat->Tx->List ay->List ay×Int
 | n,id,acc=>match Hg a id with
   | none=>([],3)
   | some i=>match n,a[i]? with
     | 0,_=>([],5)
     | n+1,some x=>if x.2.1=[] then(acc++[x],0) else BG a n x.2.1 (acc++[x])
     | _,none=>([],3)
def bw(ls:List ay)(id:Tx):List ay×Int:=BG ls 16 id []
theorem Xe(a:List ay)(c:Tx)(d:a.length<=1000000):∀(n:Nat) (id:Tx) (acc:List ay) (k:Nat),n+k=16->acc.length<=k ->
  ∃f g j,Loop (ke (a,c,())) ((id,([]:List ay),(0:Int),(),(k:Int),()),acc,())=some (1,(f,(BG a n id acc).1,(BG a n id acc).2,g),j):=by
 intro n;induction n with
 | zero =>
   intro id acc k l m;rw[aR];unfold ke;dsimp only;rw[cr<|by omega,ae,Mn a id d,aa];dsimp only;unfold BG Fl;cases h:Hg a id with
   | none=>exact⟨_,_,_,rfl⟩
   | some i =>
     dsimp only;rw[aD<|by omega,af,aW (by omega),ae];exact⟨_,_,_,rfl⟩
 | succ n o =>
   intro id acc k l m;rw[aR];unfold ke;dsimp only;rw[cr<|by omega,ae,Mn a id d,aa];dsimp only;unfold BG Fl;cases h:Hg a id with
   | none=>exact⟨_,_,_,rfl⟩
   | some i =>
     obtain⟨x,e,p⟩:=DL h;dsimp only;rw[aD<|by omega,af,aF (by omega),af,az e,aa,show fits (plus (@len ay acc)<|@len ay ([x]:List ay))=true from b7 (by show _+1<=_;omega),ae,aa,e];dsimp only;rw[p6];by_cases b:x.2.1=[]
     .rw[cd b,ae,bd b];exact⟨_,_,_,rfl⟩
     .rw[dL b,af,bb b,aa,aT (by omega)];have:=o x.2.1 (acc++[x]) (k+1) (by omega) (by rw[iP];show _+1<=_;omega);exact this
theorem P7(a:List ay)(id:Tx)(b:a.length<=1000000):gK (a,id,())=some ((bw a id).1,(bw a id).2,()):=by
 unfold gK;dsimp only;obtain⟨d,e,f,h⟩:=Xe a id b 16 id [] 0 rfl (cD _);have c:Loop (ke (a,id,())) ((id,([]:List ay),(0:Int),(),(0:Int),()),([]:List ay),())=_:=h;rw[c,aa];rfl
theorem ae3{ls:List ay}:∀{n:Nat} {id:Tx} {acc:List ay},(∀x∈acc,x∈ls)->(∀x∈(BG ls n id acc).1,x∈ls)/\(BG ls n id acc).1.length<=n+acc.length:=by
 intro n;induction n with
 | zero =>
   intro id acc h;unfold BG;cases Hg ls id<;>simp
 | succ n e =>
   intro id acc h;unfold BG;cases f:Hg ls id with
   | none=>simp
   | some i =>
     dsimp only;cases hx:ls[i]? with
     | none=>simp
     | some x =>
       dsimp only;have d:∀y∈acc++[x],y∈ls:=λy c=>by
        rcases sv.1 c with c|c
        .exact h y c
        .rw[zO] at c;subst c;exact iy hx
       split
       .exact⟨d,by rw[iP];show _+1<=_;omega⟩
       .obtain⟨a,b⟩:=e (id:=x.2.1) d;refine⟨a,?_⟩;rw[iP] at b;have:([x]:List ay).length=1:=rfl;omega
theorem pf{ls:List ay}{id:Tx}:(∀x∈(bw ls id).1,x∈ls)/\(bw ls id).1.length<=16:=by
 obtain⟨a,b⟩:=ae3 (ls:=ls) (n:=16) (id:=id) (acc:=[]) (λx c=>by cases c);exact⟨a,by unfold bw;simpa using b⟩
theorem Xf{l:List Nd}(a:Valid l)(s:aq):rB (l,s,())=some ((oM l s).1,(oM l s).2,()):=by
 obtain⟨d,e⟩:=YJ s;obtain⟨v,f,g⟩:=qO l (sj a);unfold rB;dsimp only;rw[f,aa,g.2 a];dsimp only;rw[aH,af,AZ s,aa,P5 s,d];dsimp only;unfold oM;by_cases b:(FQ s).2=0
 .rw[bd b];by_cases c:lu (FQ s).1=true
  .rw[bd (⟨b,c⟩:(FQ s).2=0/\lu (FQ s).1=true),show nt (aL 0 0)=false from rfl,af,aa,W9 l _ (sj a) e,aa]
  .rw[bb (λq:(FQ s).2=0/\lu (FQ s).1=true=>c q.2),UJ a c];rfl
 .rw[bb b,bb λq:(FQ s).2=0/\lu (FQ s).1=true=>b q.1];rfl
theorem aau(a:List Tx)(s:a.length<=1000000):vK (a,())=some ((AY a []).1,(AY a []).2,()):=by
 unfold vK;have key:∀(r:List Tx) (t:List Nd) (k:Nat),a=a.take k++r->k+r.length=a.length->Valid t->∃q,(Loop (fK (a,())) ((([]:List Nd),(0:Int),t,(k:Int),()),())=some (1,(([]:List Nd),(AY r t).2,q),())/\(AY r t).1=[]) \/
   ∃m n o,Loop (fK (a,())) ((([]:List Nd),(0:Int),t,(k:Int),()),())=some (0,(m,n,(AY r t).1,o),())/\(AY r t).2=0:=by
  intro r;induction r with
  | nil =>
    intro t k e b f;rw[gi,v7] at b;refine⟨((t,(k:Int),()):List Nd×Int×ai),.inr ⟨[],0,((k:Int),()),?_,rfl⟩⟩;rw[aR];unfold fK;dsimp only;rw[b,aB,af];rfl
  | cons d r p =>
    intro t k e b f;rw[dW] at b;have hx:a[k]?=some d:=by
     rw[e,Vt (by rw[gM];omega),gM];simp[sw<|show k<=a.length by omega]
    have step:fK (a,()) ((([]:List Nd),(0:Int),t,(k:Int),()),())=some (if(oM t d).2=0 then .inl ((([]:List Nd),(0:Int),(oM t d).1,((k+1:Nat):Int),()),()) else .inr (1,(([]:List Nd),(oM t d).2,t,(k:Int),()),())):=by
     unfold fK;dsimp only;rw[au<|by omega,ae,az hx,aa,Xf f d,aa,aT (by omega)];dsimp only;by_cases c:(oM t d).2=0
     .rw[aW c,aH,af,bd c]
     .rw[aF c,aA,ae,bb c]
    rw[aR,step];unfold AY;by_cases c:(oM t d).2=0
    .rw[bd c,bd c];have g:Valid (oM t d).1:=by
      rcases aaq f d with ⟨_,h,_⟩|⟨h,_⟩
      .exact h
      .exact absurd c h
     exact p (oM t d).1 (k+1) (by rw[Qk,hx];simpa using e) (by omega) g
    .rw[bb c,bb c];exact⟨(t,(k:Int),()),.inl ⟨rfl,rfl⟩⟩
 have i:Valid []:=Fj adf.1;obtain⟨q,⟨h,j⟩|⟨m,n,o,h,j⟩⟩:=key a [] 0 (by simp) (by simp) i
 .have l:Loop (fK (a,())) ((([]:List Nd),(0:Int),([]:List Nd),(0:Int),()),())=_:=h;rw[l,aa,j];rfl
 .have l:Loop (fK (a,())) ((([]:List Nd),(0:Int),([]:List Nd),(0:Int),()),())=_:=h;rw[l,aa,j];rfl
def zJ(ls:List ay)(a:List Tx)(id:Tx):Tx:=match Hg ls id with|some i=>(a[i]?).getD []|none=>[]
def lv(ls:List ay)(a:List Tx)(id:Tx):List Nd×Int :=
 if(bw ls id).2=0 then AY ((bw ls id).1.reverse.map λx=>zJ ls a x.1) [] else([],(bw ls id).2)
theorem Mp(s:bh)(i:Nat):pX (s,(i:Int),())=some ((s.2.2.2.1[i]?).getD [],()):=by
 unfold pX;dsimp only;by_cases h:i<s.2.2.2.1.length
 .have hx:s.2.2.2.1[i]?=some s.2.2.2.1[i]:=jE h;rw[au h,ae,az hx,aa,hx];rfl
 .have hx:s.2.2.2.1[i]?=none:=Ni (by omega);rw[aD<|by unfold len;omega,af,hx];rfl
theorem Mq(s:bh)(id:Tx)(g:s.2.2.1.length<=1000000):kM (s,id,())=some ((lv s.2.2.1 s.2.2.2.1 id).1,(lv s.2.2.1 s.2.2.2.1 id).2,()):=by
 obtain⟨h,b⟩:=pf (ls:=s.2.2.1) (id:=id);unfold kM lv;dsimp only;rw[P7 _ id g,aa];dsimp only;by_cases a:(bw s.2.2.1 id).2=0
 .rw[aW a,aH,af,bd a];generalize (bw s.2.2.1 id).1=c at h b;generalize k:(c,(bw s.2.2.1 id).2,())=q;have d:q.1=c:=by rw[<-k]
  have key:∀(n:Nat) (acc:List Tx),n<=c.length->acc.length+n<=1000->∃z,Loop (lq (s,id,()) q) (((),(n:Int)-1,()),acc,())=some (z,(acc++(c.take n).reverse.map λx=>zJ s.2.2.1 s.2.2.2.1 x.1,())):=by
   intro n;induction n with
   | zero =>
     intro acc _ _;refine⟨((),((0:Nat):Int)-1,()),?_⟩;rw[aR];unfold lq;dsimp only;rw[eu<|by omega,af];simp[cA]
   | succ n l =>
     intro acc m o;obtain⟨x,e⟩:∃x,c[n]?=some x:=⟨_,jE (show n<c.length by omega)⟩;obtain⟨i,j⟩:=YK.2 ⟨x,h x (iy e),rfl⟩;have hd:zJ s.2.2.1 s.2.2.2.1 x.1=(s.2.2.2.1[i]?).getD []:=by unfold zJ;rw[j]
     obtain⟨z,f⟩:=l (acc++[zJ s.2.2.1 s.2.2.2.1 x.1]) (by omega) (by rw[iP];show _+1+n<=_;omega);refine⟨z,?_⟩;have step:lq (s,id,()) q (((),(n:Int),()),acc,())=some (.inl (((),(n:Int)-1,()),acc++[zJ s.2.2.1 s.2.2.2.1 x.1],())):=by
      unfold lq;dsimp only;rw[cr<|by omega,ae,d,az e,aa,Mo s x.1 g,aa];dsimp only;rw[show Fl s.2.2.1 x.1=(i:Int) by unfold Fl;rw[j],Mp s i,aa,<-hd];dsimp only;rw[show fits (plus (@len Tx acc)<|@len Tx ([zJ s.2.2.1 s.2.2.2.1 x.1]:List Tx))=true from b7 (by show _+1<=_;omega),ae,fo (by omega) (by omega)];rfl
     rw[show((n+1:Nat):Int)-1=(n:Int) by omega,aR,step];refine w8 f ?_;rw[Qk,e];simp
  obtain⟨z,f⟩:=key c.length [] (cD _) (by simp;omega);have hlen:cE .i64 (len c) 1=(c.length:Int)-1:=fo (by unfold len;omega) (by unfold len;omega);rw[hlen,f,aa];dsimp only;rw[Iw,wY,aau _ (by rw[CS,abb];omega),aa]
 .rw[aF a,aA,ae,bb a]
def Mr(s:Tx):Prop:=(FQ s).2=0/\lu (FQ s).1=true
structure Hh (ls:List ay) (ds:List Tx):Prop where
 same:ds.length=ls.length
 chain:∀x∈ls,(bw ls x.1).2=0
 each:∀(i:Nat) (x:ay) (d:Tx),ls[i]?=some x->ds[i]?=some d->x.2.2.2.2.2.2.1=true/\x.2.2.2.2.2.1=0/\x.2.2.2.2.1=(d.length:Int)/\x.2.2.2.1=nd d/\Mr d/\(lv ls ds x.1).2=0
structure BdS (s:bh):Prop where
 ll:s.2.2.1.length<=40
 il:s.2.1.length<=40
 bl:s.1.length<=40
 xl:∀x∈s.2.2.1,BdL x
 xi:∀x∈s.2.1,BdI x
 xb:∀x∈s.1,BdB x
 dl:∀d∈s.2.2.2.1,d.length<=8192
 ml:s.2.2.2.2.1.length<=1000000
def ah4(s:bh)(x:qH):Prop:=x.2.2.1=[]\/∃y∈s.2.2.1,y.1=x.2.2.1
def adu(s:bh)(x:Dk):Prop:=(x.2.2.1=[]\/∃y∈s.2.1,y.1=x.2.2.1)/\∃y∈s.2.2.1,y.1=x.2.2.2.1
def ae4(s:bh)(x:DF):Prop:=(∃y∈s.2.2.1,y.1=x.1)/\1<=x.2.1/\x.2.1<=1000
structure OkS (s:bh):Prop where
 b:AF 1 (0,[],[],s.1,())
 i:AF 2 (0,[],s.2.1,[],())
 l:AF 3 (0,s.2.2.1,[],[],())
 lays:Hh s.2.2.1 s.2.2.2.1
 aj6:s.2.2.2.2.1.length<=32
 tops:∀x∈s.2.1,ah4 s x
 refs:∀x∈s.1,adu s x
 mts:∀x∈s.2.2.2.2.1,ae4 s x
 ah5:(s.2.2.2.2.1.map (·.1)).Pairwise λx y=>jH x y=true
theorem Ms{b:Type}{p:b->Bool}:∀{l:List b} {x:b},x∈l.takeWhile p->p x=true:=by
 intro l;induction l with
 | nil=>intro x h;cases h
 | cons a r c =>
   intro x h;rw[Km] at h;split at h
   .rename_i d;rcases fY.1 h with rfl|h
    .exact d
    .exact c h
   .cases h
section
variable {α:Type} (key:α->Tx)
def BZ(l:List α)(x:α):List α:=l.takeWhile (λy=>jH (key y) (key x))++[x]++l.dropWhile (λy=>jH (key y) (key x))
def gg(l:List α)(p:Tx):Nat:=(l.takeWhile λy=>jH (key y) p).length
def FR(l:List α):Prop:=(l.map key).Pairwise λx y=>jH x y=true
theorem Hi(l:List α)(p:Tx):gg key l p<=l.length:=by
 unfold gg;have:=congrArg List.length (Kf (p:=λy:α=>jH (key y) p) (l:=l));rw[iP] at this;omega
theorem Mt(l:List α)(x:α):l.take (gg key l<|key x)=l.takeWhile (λy=>jH (key y) (key x))/\l.drop (gg key l<|key x)=l.dropWhile (λy=>jH (key y) (key x)):=by
 have e:=Kf (p:=λy:α=>jH (key y) (key x)) (l:=l);refine⟨?_,?_⟩
 .unfold gg
  conv=>lhs;rw[<-e]
  rw[HD];rw[e]
 .unfold gg
  conv=>lhs;rw[<-e]
  rw[HB];rw[e]
theorem Xg(l:List α)(x:α)(a:l.length<=1000000):Dg l ((gg key l (key x):Nat):Int) [x]=some (BZ key l x):=by
 have b:=Hi key l (key x);unfold Dg BZ;rw[show inside 0 ((gg key l (key x):Nat):Int) (len l)=true from aY (by decide) (by omega) (by unfold len;omega),b7 (by simp only[dW,gi];omega)];rw[rK,(Mt key l x).1,(Mt key l x).2];rfl
theorem Xh{S R:Type}{f:S->Option (S⊕R)}(l:List α)(p:Tx)(z:l.length<=1000000)(g:Int->S)(c:Nat->R)(d:R)
  (t:∀(i:Nat) (y:α),l[i]?=some y->f (g (i:Int))=some (if jH (key y) p=true then .inl (g ((i+1:Nat):Int)) else .inr (c i))) (u:f (g (l.length:Int))=some (.inr d)) :
  Loop f (g 0)=some (if gg key l p<l.length then c (gg key l p) else d):=by
 have m:∀k:Nat,k<=l.length->(∀(j:Nat) (y:α),j<k->l[j]?=some y->jH (key y) p=true)->(∀y,l[k]?=some y->jH (key y) p=false)->gg key l p=k:=by
  intro k n o q;have e:l.takeWhile (λy=>jH (key y) p)=l.take k:=by
   clear t u
   revert k
   induction l with
   | nil=>intro k n _ _;simp
   | cons a r A =>
     intro k n o q;cases k with
     | zero=>rw[Km,q a rfl];rfl
     | succ k =>
       rw[Km,o 0 a (by omega) rfl,bd rfl,XF,A (by simp at z;omega) k (by simp at n;omega) (λj y v b=>o (j+1) y (by omega) b) λy b=>q y b]
  unfold gg;rw[e,gM];omega
 rcases qF (f:=f) l g (λ_ y=>!jH (key y) p) (λi _=>c i) d (by omega) (λi y b w D=>by
  rw[t i y b];cases jH (key y) p<;>rfl) u with ⟨i,x,hx,B,v,h⟩|⟨C,h⟩
 .have w:=aG hx;have:=m i (by omega) (λj y s b=>by simpa using v j y s b) (λy b=>by
   rw[hx] at b;obtain rfl:=aE b;simpa using B)
  rw[h,this,bd w]
 .have:=m l.length (cD _) (λj y _ b=>by simpa using C j y b) (λy b=>by rw[Ni<|cD _] at b;cases b);rw[h,this,bb (by omega)]
theorem Hj(l:List α)(x:α):(BZ key l x).Perm (x::l):=by
 unfold BZ;have e:=Kf (p:=λy:α=>jH (key y) (key x)) (l:=l);have h:(l.takeWhile (λy=>jH (key y) (key x))++[x]++l.dropWhile λy=>jH (key y) (key x)).Perm (x::(l.takeWhile (λy=>jH (key y) (key x))++l.dropWhile λy=>jH (key y) (key x))):=by
  rw[oC];exact List.perm_middle
 rw[e] at h;exact h
theorem UK{l:List α}{x y:α}:y∈BZ key l x↔y=x\/y∈l:=by rw[(Hj key l x).mem_iff,fY]
theorem UL(l:List α)(x:α):(BZ key l x).length=l.length+1:=by rw[(Hj key l x).length_eq,dW]
theorem FR.inj{l:List α}(h:FR key l){x y:α}(f:x∈l)(g:y∈l)(e:key x=key y):x=y:=by
 unfold FR at h;rw[abn] at h;obtain⟨i,a⟩:=bR.1 f;obtain⟨j,b⟩:=bR.1 g;have c:=aG a;have d:=aG b;rw[jE c] at a;rw[jE d] at b;obtain rfl:=aE a;obtain rfl:=aE b;rcases SH i j with q|q|q
 .have:=Ng.1 h i j c d q;rw[e,mx] at this;cases this
 .subst q;rfl
 .have:=Ng.1 h j i d c q;rw[e,mx] at this;cases this
theorem ae6{l:List α}(h:FR key l){x:α}(g:∀y∈l,key y≠key x):FR key (BZ key l x):=by
 unfold FR at h⊢;rw[abn] at h⊢;unfold BZ;have e:=Kf (p:=λy:α=>jH (key y) (key x)) (l:=l);have hA:∀y∈l.takeWhile (λy=>jH (key y) (key x)),jH (key y) (key x)=true:=λy c=>Ms (p:=λy=>jH (key y) (key x)) c;have i:∀y∈l.dropWhile (λy=>jH (key y) (key x)),jH (key x) (key y)=true:=by
  clear e hA;induction l with
  | nil=>intro y c;cases c
  | cons a r j =>
    intro y c;rw[Ki] at c;rw[Ko] at h;split at c
    .exact j h.2 (λz k=>g z (oA _ k)) y c
    .rename_i m;have d:jH (key x) (key a)=true:=by
      rcases JZ (key a) (key x) with q|q|q
      .exact absurd q m
      .exact absurd q (g a<|oB ..)
      .exact q
     rcases fY.1 c with rfl|c
     .exact d
     .exact Gq d (h.1 y c)
 rw[<-e] at h;rw[List.pairwise_append] at h;obtain⟨n,o,s⟩:=h;rw[oC,List.pairwise_append];refine⟨n,?_,λa d b f=>?_⟩
 .rw[XC,Ko];exact⟨i,o⟩
 .rw[XC] at f;rcases fY.1 f with rfl|f
  .exact hA a d
  .exact s a d b f
end
abbrev agH:=Int×Tx×Int×Tx×ai
def adv(e:Int):agH:=(e,[],0,[],())
def UM(id:Tx):agH:=(0,id,0,[],())
def wU(s:bh):List Nm:=s.2.2.1.flatMap ofL
structure Vr (s:bh):Prop where
 ll:s.2.2.1.length<=40
 il:s.2.1.length<=40
 bl:s.1.length<=40
 ln:∀x∈s.2.2.1,uK x.2.2.1
 pn:∀x∈s.2.1,uK x.2.1
 bn:∀x∈s.1,uK x.2.1
 it:∀x∈s.2.1,G7 x.2.2.2.2.1
theorem BdS.hd{s:bh}(h:BdS s):Vr s:=⟨h.ll,h.il,h.bl,λx a=>(h.xl x a).2.2.1,λx a=>(h.xi x a).2.1,λx a=>(h.xb x a).2.1,λx a=>(h.xi x a).2.2.2⟩
theorem Vr.ae7{s:bh}(h:Vr s):WB (0,s.2.2.1,[],[],()):=⟨h.ll,h.ln,by simp,λx a=>(by cases a),by simp,λx a=>(by cases a)⟩
theorem Hk{s:bh}(h:Vr s):Small (wU s):=ZQ 3 _ h.ae7
theorem YL{s:bh}(h:Vr s):(wU s).length<=40:=iz (r4 J0 _) h.ll
theorem xM(s:bh)(h:Vr s):j9 (s,())=some (wU s,()):=by
 unfold j9;dsimp only;rw[Rq 3 _ h.ae7,aa];rfl
theorem zu(s:bh)(a:Tx)(h:Vr s):dU (s,a,())=some (lh (wU s) a):=by
 unfold dU;dsimp only;rw[xM s h,aa,I9 _ _ (Hk h) (by have:=YL h;omega),aa]
theorem aav(l:List Tx)(h:l.length<=4294967296):aP (l,())=some (l,()):=uJ l h
theorem RT(s p:Tx):uS (s,p,())=some (decide<|s.take p.length=p,()):=Dt s p
def P8(f:List Tx):Tx:=(f.getLast?).getD []
theorem Xi(f:List Tx)(a:Tx):P8 (f++[a])=a:=by simp[P8]
theorem Oh(c:Tx)(f:List Tx)(d:¬c=[])(e:¬6<=c.length) :
  aj (aO 1 (f.length:Int)) (some (([]:Tx),(9:Int),())) (aj (aL (f.length:Int) 0) (some (([]:Tx),(3:Int),()))<|some (P8 f,(0:Int),()))=some (tZ c f):=by
 unfold tZ;rw[bb<|by rintro(h|h);exact d h;exact e h]
 match f with
 | []=>rfl
 | [a]=>rfl
 | a::b::r =>
   have:aO 1 ((a::b::r).length:Int)=true:=aU (by simp only[dW];omega);rw[this];rfl
theorem Mu(l:List Nm)(b:Tx)(s:Small l)(B:l.length<=1000000):tH (l,b,())=some (lh l b):=by
 unfold tH;have inner:∀(i:Nat) (x:Nm),l[i]?=some x ->
   (b∈x.2.1/\∃k:Int,Loop (iM (l,b,()) ((([]:Tx),(0:Int),(i:Int),()),())) ((([]:Tx),(0:Int),(0:Int),()),())=some (1,(x.1,(0:Int),k,()),())) \/
   (¬b∈x.2.1/\Loop (iM (l,b,()) ((([]:Tx),(0:Int),(i:Int),()),())) ((([]:Tx),(0:Int),(0:Int),()),())=some (0,([],(0:Int),(x.2.1.length:Int),()),())):=by
  intro i x c;have C:=s.2 x (iy c);rcases qF (f:=iM (l,b,()) ((([]:Tx),(0:Int),(i:Int),()),())) x.2.1 (λk=>((([]:Tx),(0:Int),k,()),())) (λ_ n=>decide (n=b)) (λk n=>(1,(x.1,(0:Int),(k:Int),()),())) (0,([],(0:Int),(x.2.1.length:Int),()),()) (by omega) (λk n d o p=>by
   unfold iM;dsimp only;rw[az c,aa,au o,ae,aa,az d,aa,aa,gX,p];by_cases h:n=b<;>simp[bz,h]) (by unfold iM;dsimp only;rw[az c,aa,aB,af]) with ⟨k,n,d,q,u,h⟩|⟨d,h⟩
  .exact .inl ⟨by rw[<-kx q];exact iy d,_,h⟩
  .refine .inr ⟨λD=>?_,h⟩;obtain⟨k,o⟩:=bR.1 D;have:=d k b o;simp at this
 rcases qF (f:=ox (l,b,())) l (λi=>((([]:Tx),(0:Int),i,()),())) (λ_ x=>decide (x.1=b)) (λi x=>(1,(b,(0:Int),(i:Int),()),())) (0,([],(0:Int),(l.length:Int),()),()) s.1 (λi x c m p=>by
  unfold ox;dsimp only;rw[au m,ae,az c,aa,gX,p];by_cases h:x.1=b<;>simp[bz,h]) (by unfold ox;dsimp only;rw[aB,af]) with ⟨i,x,c,q,u,h⟩|⟨d,h⟩
 .rw[h,aa];dsimp only;rw[show cR 1 0=false from rfl,af];unfold lh;rw[bd ⟨x,iy c,kx q⟩]
 .rw[h,aa];dsimp only;rw[show cR 0 0=true from rfl,ae];have v:¬∃x∈l,x.1=b:=by
   rintro⟨x,c,E⟩;obtain⟨i,m⟩:=bR.1 c;have:=d i x m;simp[E] at this
  unfold lh;rw[bb v];rcases qF (f:=oy (l,b,())) l (λi=>((([]:Tx),(0:Int),i,()),())) (λ_ x=>decide (b∈x.2.1)) (λi x=>(1,(x.1,(0:Int),(i:Int),()),())) (0,([],(0:Int),(l.length:Int),()),()) s.1 (λi x c m p=>by
   unfold oy;dsimp only;rw[au m,ae,p];rcases inner i x c with ⟨h,k,o⟩|⟨h,o⟩
   .rw[o,aa,cd h];rfl
   .rw[o,aa,dL h];rfl) (by unfold oy;dsimp only;rw[aB,af]) with ⟨i,x,c,q,u,h⟩|⟨d,h⟩
  .rw[h,aa];dsimp only;rw[show cR 1 0=false from rfl,af];have:l.find? (λx=>decide (b∈x.2.1))=some x:=by
    rw[aaV];refine⟨q,i,aG c,?_,λj w=>?_⟩
    .have:=jE (aG c);rw[c] at this;exact(aE this).symm
    .have F:=aG c;have:=u j l[j] w (jE<|by omega);simpa using this
   rw[this]
  .rw[h,aa];dsimp only;rw[show cR 0 0=true from rfl,ae];have:l.find? (λx=>decide (b∈x.2.1))=none:=by
    rw[SG];intro x c;obtain⟨i,m⟩:=bR.1 c;have:=d i x m;simpa using this
   rw[this];dsimp only;by_cases t:b=[]\/6<=b.length
   .have y:Loop (gf (l,b,())) (((0:Int),([]:Tx),(0:Int),()),())=some (((0:Int),([]:Tx),(0:Int),()),()):=by
     rw[aR];unfold gf;dsimp only;have e:aj (aj (aO (0:Int)<|len l) (ca 1<|len b) false) (ca (len b) 5) false=false:=by
      rcases t with h|h
      .subst h;cases aO (0:Int) (len l)<;>rfl
      .rw[eu (a:=len b)<|by unfold len;omega];cases aj (aO (0:Int)<|len l) (ca 1<|len b) false<;>rfl
     rw[e,af];rfl
    rw[y,aa];dsimp only;unfold tZ;rw[bd t];rfl
   .have z:¬b=[]:=λh=>t (.inl h);have G:¬6<=b.length:=λh=>t (.inr h);have A:1<=b.length:=by
     cases b with
     | nil=>exact absurd rfl z
     | cons a r=>simp
    have y:Loop (gf (l,b,())) (((0:Int),([]:Tx),(0:Int),()),())=some ((((Av l b).length:Int),P8<|Av l b,(l.length:Int),()),()):=by
     have key:=nP (f:=gf (l,b,())) l (λ(out:List Tx) (i:Int)=>(((out.length:Int),P8 out,i,()),())) (GG b) ((((Av l b).length:Int),P8<|Av l b,(l.length:Int),()),()) s.1 (λi x c m p=>by
      have H:((l.take i).flatMap<|GG b).length<=l.length:=by
       have:=eM (g:=GG b) (λx=>by unfold GG;split<;>simp) l i;omega
      unfold gf;dsimp only;rw[au m,ae,cr (a:=1) (by unfold len;omega),ae,cr (a:=len b) (by unfold len;omega),ae,az c,aa,RT,aa,p,aT (by omega)];unfold GG;by_cases h:x.1.take b.length=b
      .rw[cd h,bd h,ae,aa,aa,Xi,iP];rfl
      .rw[dL h,bb h,af,aa,wX];rfl) (by
      unfold gf;dsimp only;rw[aB,af,af,af];rfl)
     exact key
    rw[y,aa];dsimp only;exact Oh b (Av l b) z G
end Go.Ge
