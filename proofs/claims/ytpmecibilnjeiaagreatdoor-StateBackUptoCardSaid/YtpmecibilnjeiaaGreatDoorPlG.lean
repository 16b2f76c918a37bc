/- Plain laws of what the functions compute: part 7. -/
import Derived.Test.YtpmecibilnjeiaaGreatDoorPlF
set_option linter.unusedSectionVars false
set_option linter.unusedVariables false
set_option linter.unusedSimpArgs false
noncomputable section
namespace Go.Ge
variable [Lp]
theorem uZ{t:List Nd}{n:Nd}(h:(bz t n).2=0):Valid (bz t n).1:=by
 rcases Kl t n with ⟨_,a⟩|⟨b,a,c,r,d,e,f⟩
 .exact absurd h a
 .rw[f];exact NU b a c d e
def iF:List ao->ao->List Nd->List Nd×Int
 | [],_,t=>(t,0)
 | nm::r,at',t =>
   if(findF t<|oP at' nm).2.1=true/\(findF t<|oP at' nm).1.2.1=2 then iF r (oP at' nm) t
   else if(bz t<|fw 493<|oP at' nm).2=0 then iF r (oP at' nm) (bz t<|fw 493<|oP at' nm).1
   else([],(bz t<|fw 493<|oP at' nm).2)
theorem Ae:∀(r:List ao) (a:ao) (t:List Nd),Valid t->(iF r a t).2=0->Valid (iF r a t).1:=by
 intro r;induction r with
 | nil=>intro a t h _;exact h
 | cons nm r e =>
   intro a t h b;unfold iF at b⊢;split at b
   .rename_i d;rw[aV d];exact e _ _ h b
   .rename_i d;rw[aX d];split at b
    .rename_i c;rw[aV c];exact e _ _ (uZ c) b
    .rename_i c;exact absurd b c
abbrev DS:=((List Nd×(List Nd×(Int×(ao×(Int×ah)))))×ah)
theorem Sy{f:DS->Option (DS⊕(Nat×DS))}(b:List ao)(h:FD b)(n:Nat)(v:n<=b.length)
  (c:∀(i:Nat) (x:ao) (t:List Nd),i<n->b[i]?=some x->Valid t ->
   f ((t,[],(0:Int),aF<|b.take i,(i:Int),()),()) =
    some (if(findF t<|dL b i).2.1=true/\(findF t<|dL b i).1.2.1=2 then .inl ((t,[],(0:Int),dL b i,((i+1:Nat):Int),()),())
     else if(bz t<|fw 493<|dL b i).2=0 then .inl (((bz t<|fw 493<|dL b i).1,[],(0:Int),dL b i,((i+1:Nat):Int),()),())
     else .inr (1,(t,[],(bz t<|fw 493<|dL b i).2,dL b i,(i:Int),()),())))
  (j:∀(t:List Nd) (a:ao),f ((t,[],(0:Int),a,(n:Int),()),())=some (.inr (0,(t,[],(0:Int),a,(n:Int),()),()))) :
  ∀(d i:Nat) (t:List Nd),i+d=n->Valid t->∃z,Loop f ((t,[],(0:Int),aF<|b.take i,(i:Int),()),())=some z /\
   (((iF ((b.take n).drop i) (aF<|b.take i) t).2=0/\z.1=0/\z.2.1.1=(iF ((b.take n).drop i) (aF<|b.take i) t).1) \/
    ((iF ((b.take n).drop i) (aF<|b.take i) t).2≠0/\z.1=1/\z.2.1.2.1=[]/\z.2.1.2.2.1=(iF ((b.take n).drop i) (aF<|b.take i) t).2)):=by
 intro d;induction d with
 | zero =>
   intro i t s m;obtain rfl:i=n:=by omega
   refine⟨_,by rw[aI,j];rfl,.inl ?_⟩;rw[GL<|by rw[fT];omega];exact⟨rfl,rfl,rfl⟩
 | succ d r =>
   intro i t s m;have hx:b[i]?=some b[i]:=gH (by omega);have e:=c i b[i] t (by omega) hx m;have g:(b.take n).drop i=b[i]::(b.take n).drop (i+1):=by
    rw[y7<|by rw[fT];omega,Y8]
   have u:=pw h.1 hx;rw[g];unfold iF;rw[u];have k:dL b i=aF (b.take<|i+1):=rfl;split
   .rename_i o;rw[aV o] at e;obtain⟨z,p,q⟩:=r (i+1) t (by omega) m;refine⟨z,?_,by rw[k];exact q⟩;rw[aI,e];exact p
   .rename_i o;rw[aX o] at e;split
    .rename_i l;rw[aV l] at e;obtain⟨z,p,q⟩:=r (i+1) _ (by omega) (uZ l);refine⟨z,?_,by rw[k];exact q⟩;rw[aI,e];exact p
    .rename_i l;rw[aX l] at e;refine⟨_,by rw[aI,e];rfl,.inr ⟨l,rfl,rfl,rfl⟩⟩
theorem aa0(m:Int){a:List ao}(h:FD a)(i:Nat):Sm (fw m<|dL a i):=⟨h.pa<|i+1,by simp[fw],by simp[fw]⟩
def qV(a:List ao)(t:List Nd)(n:Nd):List Nd×Int:=if(iF a.dropLast [] t).2=0 then bz (iF a.dropLast [] t).1 n else([],(iF a.dropLast [] t).2)
theorem PM{b:List ao}(h:FD b){n:Nd}(y:n.1=aF b)(A:Sm n){t:List Nd}(s:Valid t):jW ((n,()),t,())=some ((qV b t n).1,(qV b t n).2,()):=by
 have hd:FD b.dropLast:=A1 h;unfold jW;dsimp only;rw[y,pt _ (by have:=h.2.2;omega),aa,vK h.1];dsimp only;rw[pJ _ (by have:=hd.2.2;omega),aa,jE _ hd.1];obtain⟨z,B,j⟩:=Sy (f:=fb (b.dropLast,())) b.dropLast hd b.dropLast.length (bZ _) (λi x u C k v=>by
  have d:=kE v;have D:=hd.Ig (eF k);have E:=hd.pa i;have w:=hd.pa (i+1);have F:=hd.2.1;unfold fb;dsimp only;rw[aq C,ab,ar k,aa,Fx _ _ (by omega) (by omega),aa,pw hd.1 k];dsimp only;rw[X7 u _ d (by unfold dL;omega) v,aa,aK (by omega)];have G:=Gy u (fw 493<|dL b.dropLast i) d (aa0 493 hd i);rw[show rk (u,(dL b.dropLast i,(2:Int),(493:Int),([]:ao),([]:ao),()),())=_ from G,aa];dsimp only;by_cases l:(findF u<|dL b.dropLast i).2.1=true
  .by_cases e:(findF u<|dL b.dropLast i).1.2.1=2
   .rw[l,aT e,aV ⟨rfl,e⟩];rfl
   .rw[l,aN e,aX λq=>e q.2];by_cases c:(bz u<|fw 493<|dL b.dropLast i).2=0
    .rw[aT c,aV c];rfl
    .rw[aN c,aX c];rfl
  .rw[show(findF u<|dL b.dropLast i).2.1=false by simpa using l,aX λq=>by cases q.1];by_cases c:(bz u<|fw 493<|dL b.dropLast i).2=0
   .rw[aT c,aV c];rfl
   .rw[aN c,aX c];rfl) (λu a=>by
  unfold fb;dsimp only;rw[aC,af]) b.dropLast.length 0 t (by omega) s
 rw[wI,wK] at j;rw[show Loop (fb (b.dropLast,())) ((t,([]:List Nd),(0:Int),([]:ao),(0:Int),()),())=_ from B,aa];have m:aF (b.dropLast.take 0)=[]:=by simp[aF]
 rw[m] at j;unfold qV;rcases j with ⟨g,o,p⟩|⟨g,o,p,H⟩
 .have r:=Ae _ _ _ s g;rw[o,show du 0 0=true from rfl,ab,p,aV g,Gy _ n (kE r) A,aa]
 .rw[o,show du 1 0=false from rfl,af,p,H,aX g]
theorem Sz{b:List ao}(h:FD b){t:List Nd}(w:Valid t):tG (t,aF b,())=some ((if(iF b.dropLast [] t).2=0 then(iF b.dropLast [] t).1 else []),(iF b.dropLast [] t).2,()):=by
 unfold tG;dsimp only;rw[gV _ (by have:=h.2.2;omega),aa,jE _ h.1];have j:b.take (b.length-1)=b.dropLast:=List.dropLast_eq_take.symm;obtain⟨z,y,k⟩:=Sy (f:=lK (b,())) b h (b.length-1) (by omega) (λi x u E l s=>by
  have d:=kE s;have A:=h.Ig (eF l);have B:=h.pa i;have v:=h.pa (i+1);have m:=h.2.1;unfold lK;dsimp only;rw[aK<|by omega,aq (show i+1<b.length by omega),ab,ar l,aa,x8 _ _ (by omega) (by omega),aa,pw h.1 l];dsimp only;rw[Sw u _ d s,aa];have C:=z6 u (fw 493<|dL b i) d (aa0 493 h i);rw[show ng (u,(dL b i,(2:Int),(493:Int),([]:ao),([]:ao),()),())=_ from C,aa];dsimp only;by_cases n:(findF u<|dL b i).2.1=true
  .by_cases e:(findF u<|dL b i).1.2.1=2
   .rw[n,aT e,aV ⟨rfl,e⟩];rfl
   .rw[n,aN e,aX λq=>e q.2];by_cases c:(bz u<|fw 493<|dL b i).2=0
    .rw[aT c,aV c];rfl
    .rw[aN c,aX c];rfl
  .rw[show(findF u<|dL b i).2.1=false by simpa using n,aX λq=>by cases q.1];by_cases c:(bz u<|fw 493<|dL b i).2=0
   .rw[aT c,aV c];rfl
   .rw[aN c,aX c];rfl) (λu a=>by
  unfold lK;dsimp only;have m:=h.2.1;rw[aK<|by omega,show ba ((b.length-1+1:Nat):Int) (len b)=false from aA (by unfold len;omega),af]) (b.length-1) 0 t (by omega) w
 rw[wK,j] at k;rw[show Loop (lK (b,())) ((t,([]:List Nd),(0:Int),([]:ao),(0:Int),()),())=_ from y,aa];have o:aF (b.take 0)=[]:=by simp[aF]
 rw[o] at k;rcases k with ⟨g,p,r⟩|⟨g,p,r,D⟩
 .rw[p,show du 0 0=true from rfl,ab,r,aV g,g]
 .rw[p,show du 1 0=false from rfl,af,r,D,aX g]
theorem UZ(p:Pt):(bE p).1=0\/(bE p).1=1\/(bE p).1=2:=by
 unfold bE;split
 .dsimp only;split
  .exact .inr (.inl rfl)
  .split
   .exact .inr (.inr rfl)
   .split
    .exact .inl rfl
    .exact .inl rfl
 .exact .inl rfl
def nz(t:List Nd)(p:Pt):List Nd×Int:=if(bE p).1=0/\(bE p).2.1≠[] then qV (bE p).2.1 t (iE p<|aF (bE p).2.1) else(t,0)
def wu:List Pt->List Nd->List Nd×Int
 | [],t=>(t,0)
 | p::r,t=>if(nz t p).2=0 then wu r (nz t p).1 else([],(nz t p).2)
theorem SA{b:List ao}{t:List Nd}{n:Nd}(h:(qV b t n).2=0):Valid (qV b t n).1:=by
 unfold qV at h⊢;split at h
 .rename_i a;rw[aV a];exact uZ h
 .rename_i a;exact absurd h a
theorem vL{t:List Nd}{p:Pt}(b:Valid t)(h:(nz t p).2=0):Valid (nz t p).1:=by
 unfold nz at h⊢;split at h
 .rename_i a;rw[aV a];exact SA h
 .rename_i a;rw[aX a];exact b
theorem ye:∀(l:List Pt) (t:List Nd),Valid t->(((wu l t).2=0/\Valid (wu l t).1)\/((wu l t).2≠0/\(wu l t).1=[])):=by
 intro l;induction l with
 | nil=>intro t h;exact .inl ⟨rfl,h⟩
 | cons p r b =>
   intro t h;unfold wu;split
   .rename_i a;exact b _ (vL h a)
   .rename_i a;exact .inr ⟨a,rfl⟩
theorem Wk{p:Pt}(a:SmP p){b:List ao}(h:FD b):Sm (iE p<|aF b):=⟨h.2.2,a.2.1,a.2.2⟩
theorem SB{t:List Nd}(h:Valid t)(p:Pt)(d:SmP p):uI (iT p,t,())=some ((nz t p).1,(nz t p).2,()):=by
 have b:=uX p;unfold uI iT Wi nz;dsimp only;rcases UZ p with a|a|a
 .rw[aX<|by rw[a];decide,aX (by rw[a];decide)];by_cases c:(bE p).2.1=[]
  .rw[aV c,aX λq=>q.2 c];rfl
  .rw[aX c,aV ⟨a,c⟩];exact PM b rfl (Wk d b) h
 .rw[aV a,aX λq=>by rw[a] at q;exact absurd q.1 (by decide)];rfl
 .rw[aX<|by rw[a];decide,aV a,aX λq=>by rw[a] at q;exact absurd q.1 (by decide)];rfl
theorem runs{S R:Type}{f:S->Option (S⊕R)}(l:List Pt)(h:List Nd->Nat->S)(b:List Nd->R)(c:Int->List Nd->Nat->R)
  (a:∀(i:Nat) (x:Pt) (t:List Nd),l[i]?=some x->Valid t->f (h t i)=some (if(nz t x).2=0 then .inl (h (nz t x).1<|i+1) else .inr (c (nz t x).2 t i)))
  (e:∀t,f (h t l.length)=some (.inr<|b t)) :
  ∀(d i:Nat) (t:List Nd),i+d=l.length->Valid t->∃z,Loop f (h t i)=some z /\
   (((wu (l.drop i) t).2=0/\z=b (wu (l.drop i) t).1)\/((wu (l.drop i) t).2≠0/\∃m n,z=c (wu (l.drop i) t).2 m n)):=by
 intro d;induction d with
 | zero =>
   intro i t o k;obtain rfl:i=l.length:=by omega
   refine⟨_,by rw[aI,e];rfl,.inl ?_⟩;rw[Iv];exact⟨rfl,rfl⟩
 | succ d p =>
   intro i t o k;have hx:l[i]?=some l[i]:=gH (by omega);have j:=a i l[i] t hx k;rw[y7<|by omega];unfold wu;split
   .rename_i g;rw[aV g] at j;obtain⟨z,q,r⟩:=p (i+1) _ (by omega) (vL k g);exact⟨z,by rw[aI,j];exact q,r⟩
   .rename_i g;rw[aX g] at j;exact⟨_,by rw[aI,j];rfl,.inr ⟨g,t,i,rfl⟩⟩
open Classical in
def lq(l:List Nd)(a:List Pt):List Nd×Int:=if Valid l then(if jF a=true then wu a (a.foldl sN l) else([],10)) else([],1)
theorem vM(a:List Pt):∀(l:List Nd),Valid l->Valid (a.foldl sN l):=by
 induction a with
 | nil=>intro l h;exact h
 | cons p r b=>intro l h;exact b _ (uY h p)
theorem acB(l:List Nd)(a:List Pt)(k:yU l)(d:Sv a):rR (l,a,())=some ((lq l a).1,(lq l a).2,()):=by
 obtain⟨e,p,m⟩:=pv l k;have y:=k.1;have A:=d.1;unfold rR lq;dsimp only;rw[p,aa];dsimp only;by_cases hv:Valid l
 .rw[m.2 hv,show nt (aZ 0 0)=false from rfl,af,aV hv,NW a d,aa];by_cases b:jF a=true
  .rw[aV b,aV b];dsimp only;rw[aE,af,bP (by simp only[eG];omega),ab,show app ([]:List Nd) l=l from rfl];obtain⟨r,n⟩:=UY a true l hv (by omega);rw[r,aa];dsimp only;obtain⟨z,s,o⟩:=runs (f:=kx (a.map iT,true,())) a (λt i=>(([],(0:Int),t,(i:Int),()),())) (λt=>(0,([],(0:Int),t,(a.length:Int),()),())) (λe t i=>(1,([],e,t,(i:Int),()),())) (λi x t g u=>by
    have hi:=aD g;have hy:(a.map iT)[i]?=some (iT x):=by rw[wH,g];rfl
    unfold kx;dsimp only;rw[aq<|show i<(a.map iT).length by rw[sR];exact hi,ab,ar hy,aa,aK (by omega)];rw[show uI (iT x,t,())=_ from SB u x (d.2 x<|eF g),aa];dsimp only;by_cases c:(nz t x).2=0
    .rw[aT c,aV c];rfl
    .rw[aN c,aX c];rfl) (λt=>by
    unfold kx;dsimp only;rw[show ba (a.length:Int) (len<|a.map iT)=false by rw[<-sR (f:=iT)];exact aC,af]) a.length 0 (a.foldl sN l) (by omega) n
   rw[wK] at o;rw[show Loop (kx (a.map iT,true,())) (([],(0:Int),a.foldl sN l,(0:Int),()),())=_ from s,aa];rcases o with ⟨h,j⟩|⟨h,B,C,j⟩
   .rw[j,h];rfl
   .rw[j];rcases ye a _ n with ⟨v,_⟩|⟨_,w⟩
    .exact absurd v h
    .rw[w];rfl
  .rw[aX b,aX b];rfl
 .have:e≠0:=λq=>hv (m.1 q);rw[aN this,az,ab,aX hv]
theorem U0(l:List Nd)(a:List Pt)(v:yU l)(k:Sv a):vA (l,a,())=some ((lq l a).1,(lq l a).2,()):=by
 obtain⟨e,F,w⟩:=rr l v;have K:=v.1;have L:=k.1;unfold vA lq;dsimp only;rw[F,aa];dsimp only;by_cases hv:Valid l
 .rw[w.2 hv,aE,af,aV hv,Ad a k,aa];dsimp only;by_cases m:jF a=true
  .rw[aV m,m,aE,af];have G:=Mc l a k hv;have y:=vM a l hv;rw[G,aa];dsimp only;obtain⟨z,H,C⟩:=runs (f:=ni (l,a,())) a (λt i=>((t,[],(0:Int),(i:Int),()),())) (λt=>(0,(t,[],(0:Int),(a.length:Int),()),())) (λe t i=>(1,(t,[],e,(i:Int),()),())) (λi x t p D=>by
    have hi:=aD p;have g:=k.2 x (eF p);have c:=uX x;unfold ni;dsimp only;rw[aq hi,ab,ar p,aa,Aa x g,aa,aK (by omega)];dsimp only;rw[Sz c D,aa,aa];unfold ql;dsimp only;rw[aa];dsimp only;by_cases h:(bE x).1=0
    .have E:=ru c.1;by_cases n:(bE x).2.1=[]
     .have b:nz t x=(t,0):=by unfold nz;rw[aX λq=>q.2 n]
      rw[b,aT h,cv (E.2 n)];rfl
     .have b:nz t x=qV (bE x).2.1 t (iE x<|aF (bE x).2.1):=by unfold nz;rw[aV ⟨h,n⟩]
      rw[b,aT h,bq λq=>n (E.1 q)];rw[show ∀(A B:Option ((((List Nd)×(List Nd)×Int×Int×ah)×ah)⊕(Nat×((List Nd)×(List Nd)×Int×Int×ah)×ah))),aj (aj (nt<|nt true) false true) A B=B from λA B=>rfl];by_cases hd:(iF (bE x).2.1.dropLast [] t).2=0
      .have d:qV (bE x).2.1 t (iE x<|aF (bE x).2.1)=bz (iF (bE x).2.1.dropLast [] t).1 (iE x<|aF (bE x).2.1):=by unfold qV;rw[aV hd]
       have r:=Ae _ _ _ D hd;have j:=z6 (iF (bE x).2.1.dropLast [] t).1 (iE x<|aF (bE x).2.1) (kE r) (Wk g c);rw[d,aT hd,aV hd,aE,af];rw[show ng ((iF (bE x).2.1.dropLast [] t).1,(aF (bE x).2.1,x.1.2.1,x.1.2.2.1,x.2.1,x.1.2.2.2.2.2.2.2.1,()),())=_ from j,aa];dsimp only;by_cases o:(bz (iF (bE x).2.1.dropLast [] t).1<|iE x<|aF (bE x).2.1).2=0
       .rw[aT o,aV o];rfl
       .rw[aN o,aX o];rfl
      .have d:qV (bE x).2.1 t (iE x<|aF (bE x).2.1)=([],(iF (bE x).2.1.dropLast [] t).2):=by unfold qV;rw[aX hd]
       rw[d,aN hd,aX hd,aX hd];rfl
    .have b:nz t x=(t,0):=by unfold nz;rw[aX λq=>h q.1]
     rw[b,aN h];rfl) (λt=>by
    unfold ni;dsimp only;rw[aC,af]) a.length 0 (a.foldl sN l) (by omega) y
   rw[wK] at C;rw[show Loop (ni (l,a,())) ((a.foldl sN l,[],(0:Int),(0:Int),()),())=_ from H,aa];rcases C with ⟨s,u⟩|⟨s,M,N,u⟩
   .rw[u,s];rfl
   .rw[u];rcases ye a _ y with ⟨I,_⟩|⟨_,J⟩
    .exact absurd I s
    .rw[J];rfl
  .rw[aX m,show jF a=false by simpa using m];rfl
 .have:e=false:=by
   cases e with
   | false=>rfl
   | true=>exact absurd (w.1 rfl) hv
  rw[this,aX hv];rfl
def rd0:Rd:=(false,[],0,false,false,())
abbrev Ns:=(Bool×Int×ah)×(ah×ah×ah)×Rd×ah
def ns(k:Int):Ns:=((false,k,()),((),(),()),rd0,())
theorem Yf:aY (gK (1024:Int) (0:Int))=nx 1024:=by
 unfold gK aY nx;rw[List.map_replicate];rfl
theorem Kw:e9 (nx 1024,())=some ([],0,()):=by
 have a:∀x∈nx 1024,x=0:=acu _;have c:(nx 1024).length=1024:=Cv _;unfold e9;dsimp only;rw[aA<|show len (nx 1024)<=8192 by unfold len;omega];rw[show bI ((),(true,nx 1024,(0:Int),false,false,()),())=_ from FA (nx 1024) 0 (by omega) (by omega) (λx b=>a x (EE b)),eu ⟨by omega,by omega,a⟩,aa];dsimp only;rw[aI,ub];rfl
theorem aC2:gw (aY<|gK (1024:Int) (0:Int),())=some (0,()):=by
 unfold gw;dsimp only;rw[Yf,Kw,aa];dsimp only;rw[NW [] ⟨by simp,λp a=>by cases a⟩,aa];rfl
def Has(t:List Nd)(p:ao):Prop:=p=[]\/∃x∈t,x.1=p/\x.2.1=2
theorem SC{t:List Nd}{n:Nd}(c:Valid t)(d:eS n=true)(h:Has t (bc n.1).1):((bz t n).2=0/\n∈(bz t n).1)\/(bz t n).2=5:=by
 unfold bz;rw[aX<|show ¬(¬Valid t\/eS n=false) from λq=>q.elim (λq=>q c) λq=>by rw[d] at q;cases q];have f:¬((bc n.1).1≠[]/\∀x∈t,x.1≠(bc n.1).1):=λq=>by
  rcases h with h|⟨x,a,e,_⟩
  .exact q.1 h
  .exact q.2 x a e
 have b:¬((bc n.1).1≠[]/\∀x∈t,x.1=(bc n.1).1->x.2.1≠2):=λq=>by
  rcases h with h|⟨x,a,e,k⟩
  .exact q.1 h
  .exact q.2 x a e k
 rw[aX f,aX b];have key:∀r:List Nd,((if 64<=r.length then(([]:List Nd),(5:Int)) else(sL r n,0)).2=0/\n∈(if 64<=r.length then(([]:List Nd),(5:Int)) else(sL r n,0)).1)\/(if 64<=r.length then(([]:List Nd),(5:Int)) else(sL r n,0)).2=5:=λr=>by
  split
  .exact .inr rfl
  .exact .inl ⟨rfl,sM.2 (.inl rfl)⟩
 exact key _
theorem Yg{t:List Nd}{p:ao}(h:(findF t p).2.1=true):(findF t p).1∈t/\(findF t p).1.1=p:=by
 unfold findF at h⊢;cases a:t.find? λx=>decide (x.1=p) with
 | none=>rw[a] at h;cases h
 | some x=>exact⟨YO a,by have:=Zd a;simpa using this⟩
theorem aa1{p:ao}(h:eS (fw 0 p)=true):eS (fw 493 p)=true:=by
 unfold eS at h⊢;simp only[dv] at h⊢;exact⟨⟨⟨h.1.1.1,by simp[fw]⟩,by simp[fw]⟩,by simp[NQ,fw]⟩
theorem Yh{a:List ao}(h:FD a)(n:Nat)(w:n<=a.length)(k:preB a n=true):∀(d i:Nat) (t:List Nd),i+d=n->Valid t->Has t (aF<|a.take i) ->
  ((iF ((a.take n).drop i) (aF<|a.take i) t).2=0/\Has (iF ((a.take n).drop i) (aF<|a.take i) t).1 (aF<|a.take n))\/(iF ((a.take n).drop i) (aF<|a.take i) t).2=5:=by
 intro d;induction d with
 | zero =>
   intro i t r l m;obtain rfl:i=n:=by omega
   rw[GL<|by rw[fT];omega];exact .inl ⟨rfl,m⟩
 | succ d p =>
   intro i t r l m;have hx:a[i]?=some a[i]:=gH (by omega);have c:(a.take n).drop i=a[i]::(a.take n).drop (i+1):=by
    rw[y7<|by rw[fT];omega,Y8]
   have s:=pw h.1 hx;have e:dL a i=aF (a.take<|i+1):=rfl;rw[c];unfold iF;rw[s];split
   .rename_i q;obtain⟨m1,u⟩:=Yg q.1;rw[e];exact p (i+1) t (by omega) l (.inr ⟨_,m1,by rw[u,e],q.2⟩)
   .have f:eS (fw 493<|dL a i)=true:=by
     unfold preB at k;rw[sb] at k;exact aa1 (k i<|GN.2<|by omega)
    have b:=SC l f (by
     show Has t (bc<|dL a i).1
     rw[Kn h.1<|by omega];exact m)
    split
    .rename_i g;rcases b with ⟨_,j⟩|o
     .rw[e];exact p (i+1) _ (by omega) (uZ g) (.inr ⟨_,j,rfl,rfl⟩)
     .rw[o] at g;cases g
    .rename_i g;rcases b with ⟨v,_⟩|o
     .exact absurd v g
     .exact .inr o
theorem Yi{a:List ao}(h:FD a){n:Nd}(k:n.1=aF a)(l:eS n=true)(b:pN a=true){t:List Nd}(g:Valid t):(qV a t n).2=0\/(qV a t n).2=5:=by
 have d:a.take (a.length-1)=a.dropLast:=List.dropLast_eq_take.symm;have c:preB a (a.length-1)=true:=by
  unfold pN at b;simp only[dv,nE] at b;rw[PK b.2] at b;simp only[dv] at b;exact b.1.1
 have hd:=Yh h (a.length-1) (by omega) c (a.length-1) 0 t (by omega) g (.inl<|by simp[aF]);have e:aF (a.take 0)=[]:=by simp[aF]
 rw[wK,d,e] at hd;unfold qV;rcases hd with ⟨i,m⟩|j
 .rw[aV i];have f:=Ae _ _ _ g i;rcases SC f l (by rw[k,vK h.1];exact m) with ⟨o,_⟩|p
  .exact .inl o
  .exact .inr p
 .rw[aX<|by rw[j];decide];exact .inr j
theorem U1{p:Pt}(a:(bE p).2.2=true)(c:(bE p).1=0)(b:(bE p).2.1≠[]):eS (iE p<|aF (bE p).2.1)=true/\pN (bE p).2.1=true:=by
 have key:∀(ns:List ao) (q:Bool),ns≠[]->((decide (ns=[])&&q)||(eS (iE p<|aF ns)&&pN ns))=true->eS (iE p<|aF ns)=true/\pN ns=true:=λns q d g=>by
  rw[cU d,Ze,yA,dv] at g;exact g
 unfold bE at a c b⊢;split at c
 .rename_i e;rw[aV e] at a b⊢;dsimp only at a c b⊢;split at c
  .cases c
  .rename_i h;rw[aX h] at a b⊢;split at c
   .cases c
   .rename_i i;rw[aX i] at a b⊢;split at c
    .rename_i f;rw[aV f] at a b⊢;exact key _ _ b a
    .rename_i f;rw[aX f] at b;exact absurd rfl b
 .rename_i e;rw[aX e] at b;exact absurd rfl b
theorem SD:∀(ps:List Pt) (t:List Nd),jF ps=true->Valid t->(wu ps t).2=0\/(wu ps t).2=5:=by
 intro ps;induction ps with
 | nil=>intro t _ _;exact .inl rfl
 | cons p r e =>
   intro t c d;unfold jF at c;simp only[MX,dv] at c;unfold wu;split
   .rename_i a;exact e _ c.2 (vL d a)
   .rename_i a;right;show(nz t p).2=5
    unfold nz at a⊢;split
    .rename_i b;rw[aV b] at a;obtain⟨m1,f⟩:=U1 c.1 b.1 b.2;rcases Yi (uX p) (n:=iE p (aF (bE p).2.1)) rfl m1 f d with g|h
     .exact absurd g a
     .exact h
    .rename_i b;rw[aX b] at a;exact absurd rfl a
theorem acC{l:List Pt}(c:l.length<=64)(a:∀q∈l,RdP q):Sv l:=⟨by omega,λp b=>a p b⟩
theorem Yj{s:ao}{a:List Pt}{e:Int}(h:e9 (s,())=some (a,e,()))(f:Sv a){l:List Nd}(d:Valid l):lL (l,s,())=some (if e=0 then((lq l a).1,(lq l a).2,()) else([],10,())):=by
 obtain⟨c,g,i⟩:=pv l (kE d);unfold lL;dsimp only;rw[h,aa,g,aa];dsimp only;rw[acB l a (kE d) f,aa,i.2 d];by_cases b:e=0
 .rw[aT b,aV b];rfl
 .rw[aN b,aX b];rfl
def EC(t:List Nd)(q:ao):Option Nd:=t.find? λx=>decide (x.1=q)
theorem Wl(t:List Nd)(q:ao):findF t q=match EC t q with
 | some x=>(x,true,())
 | none=>(aaP,false,()):=rfl
theorem at_mem{t:List Nd}{q:ao}{x:Nd}(h:EC t q=some x):x∈t/\x.1=q:=by
 unfold EC at h;exact⟨YO h,by have:=Zd h;simpa using this⟩
theorem yf{t:List Nd}(b:Ord t){q:ao}{x:Nd}:EC t q=some x↔x∈t/\x.1=q:=by
 constructor
 .exact at_mem
 .rintro⟨c,d⟩;have:=Cx b c d;rw[Wl] at this;cases a:EC t q with
  | none=>rw[a] at this;cases (bk (bk this).2).1
  | some y=>rw[a] at this;rw[(bk this).1]
theorem Wm{a b:Option Nd}(h:∀x,a=some x↔b=some x):a=b:=by
 cases a with
 | none =>
   cases b with
   | none=>rfl
   | some y=>exact absurd ((h y).2 rfl) (by simp)
 | some x=>exact((h x).1 rfl).symm
theorem Yk:∀{l m:List Nd},(l.Pairwise λx y=>cmpL (key x) (key y)<0)->(m.Pairwise λx y=>cmpL (key x) (key y)<0)->(∀c,c∈l↔c∈m)->l=m:=by
 intro l;induction l with
 | nil =>
   intro m _ _ h;cases m with
   | nil=>rfl
   | cons d m=>exact absurd ((h d).2<|by simp) (by simp)
 | cons c l n =>
   intro m f g h;cases m with
   | nil=>exact absurd ((h c).1<|by simp) (by simp)
   | cons d m =>
     rw[Iu] at f g;have a:∀x:Nd,¬cmpL (key x) (key x)<0:=λx=>by rw[mc];omega
     have i:c=d:=by
      have j:c=d\/c∈m:=by simpa using(h c).1 (by simp)
      have k:d=c\/d∈l:=by simpa using(h d).2 (by simp)
      rcases j with e|j
      .exact e
      .rcases k with e|k
       .exact e.symm
       .exact absurd (rn (f.1 d k)<|g.1 c j) (a c)
     subst i;rw[n f.2 g.2 λq=>?_];constructor
     .intro b;rcases gd.1 ((h q).1<|oh _ b) with e|e
      .subst e;exact absurd (f.1 q b) (a q)
      .exact e
     .intro b;rcases gd.1 ((h q).2<|oh _ b) with e|e
      .subst e;exact absurd (g.1 q b) (a q)
      .exact e
theorem aen{s t:List Nd}(e:Ord s)(f:Ord t)(h:∀q,EC s q=EC t q):s=t :=
 Yk (FC.1 e) (FC.1 f) λc=>by
  have a:=yf e (q:=c.1) (x:=c);have b:=yf f (q:=c.1) (x:=c);rw[h c.1] at a;constructor
  .intro d;exact(b.1<|a.2 ⟨d,rfl⟩).1
  .intro d;exact(a.1<|b.2 ⟨d,rfl⟩).1
theorem Yl{l:List Nd}(o:Valid l){p:ao}(A:p≠[]):∀(m:Nat) (x:Nd),x∈l->(parts x.1).length<=m->ca (parts x.1) (parts p)=true->∃y∈l,y.1=p/\y.2.1=2:=by
 intro m;induction m with
 | zero =>
   intro x j q d;unfold ca at d;have:=(kH d).1;omega
 | succ m C =>
   intro x j q d;by_cases r:∃y∈l,y.1=p
   .by_cases f:(bc x.1).1=[]
    .exfalso;have h:=d;unfold ca at h;have s:=(kH h).1;have c:=o.may x j;unfold eS uT at c;simp only[dv,nE] at c;have i:=c.1.1.1.1.1.1.1.2;have B:(parts x.1).length<=1:=by
      rcases pK x.1 with ⟨a,_⟩|⟨a,b,D,F,e⟩
      .unfold parts;split
       .simp
       .rw[oa _ a];simp
      .rw[e] at f;have f:a=[]:=f;subst f;have:qz []=true:=sb.1 i [] (by
        unfold parts;rw[D,aX (by simp)];show []∈b9 ([]++47::b)
        rw[Cr []<|by simp];simp)
       exact absurd this (by decide)
     have t:parts p=[]:=vU.1 (by omega);have:=fy p;rw[t] at this;exact A this.symm
    .rcases o.up x j with e|⟨y,k,u,v⟩
     .exact absurd e f
     .have w:=uU f;rw[<-u] at w;unfold ca at d;obtain⟨s,n⟩:=kH d;rw[w] at s n;have z:(parts p).length<=(parts y.1).length:=by simp at s;omega
      rw[Th z] at n;rcases tr (parts p).length (parts y.1).length with g|g
      .exact C y k (by rw[w] at q;simp at q;omega) (by unfold ca;exact eu ⟨g,n⟩)
      .have E:parts p=parts y.1:=by rw[<-n,A8 (by omega)]
       exact⟨y,k,by rw[<-fy y.1,<-E,fy],v⟩
   .have:=Kh o A (λy k e=>r ⟨y,k,e⟩) _ x j (bZ _);rw[this] at d;cases d
theorem Wn{t:List Nd}{n:Nd}(h:(bz t n).2=0)(q:ao) :
  EC (bz t n).1 q=if q=n.1 then some n else if ca (parts q) (parts n.1)=true/\n.2.1≠2 then none else EC t q:=by
 rcases Kl t n with ⟨_,m⟩|⟨i,m,y,r,o,A,B⟩
 .exact absurd h m
 have hvalid:=NU i m y o A;have p:=Wg m;rw[B];dsimp only;refine Wm λx=>?_;rw[yf hvalid.ord,sM];obtain⟨j,_⟩:=o.sub;by_cases g:q=n.1
 .rw[aV g];constructor
  .rintro⟨e|k,f⟩
   .rw[e]
   .exact absurd (f.trans g) (j x k).2
  .intro e;obtain rfl:=aG e;exact⟨.inl rfl,g.symm⟩
 .rw[aX g];have s:(x=n\/x∈r)/\x.1=q↔x∈r/\x.1=q:=by
   constructor
   .rintro⟨e|k,f⟩
    .subst e;exact absurd f.symm g
    .exact⟨k,f⟩
   .rintro⟨k,f⟩;exact⟨.inr k,f⟩
  rw[s];rcases o with ⟨⟨⟨d,E,C,D⟩,u⟩,rfl⟩|⟨v,rfl⟩
  .rw[aX<|λz=>z.2 u,yf i.ord,vX];constructor
   .rintro⟨⟨a,_⟩,b⟩;exact⟨a,b⟩
   .rintro⟨a,b⟩;exact⟨⟨a,by simp only[j7,GK];rw[b];exact g⟩,b⟩
  .unfold mB;rw[vX];by_cases l:ca (parts q) (parts n.1)=true
   .by_cases w:n.2.1=2
    .rw[aX<|λz=>z.2 w,yf i.ord];constructor
     .rintro⟨⟨a,b⟩,c⟩;exact⟨a,c⟩
     .rintro⟨a,c⟩;exfalso;have:=Yl i p _ x a (bZ _) (by rw[c];exact l);exact v ⟨this,w⟩
    .rw[aV ⟨l,w⟩];constructor
     .rintro⟨⟨a,b⟩,c⟩;unfold gone at b;rw[c,l] at b;simp at b
     .intro e;cases e
   .rw[aX<|λz=>l z.1,yf i.ord];constructor
    .rintro⟨⟨a,b⟩,c⟩;exact⟨a,c⟩
    .rintro⟨a,c⟩;refine⟨⟨a,?_⟩,c⟩;unfold gone;rw[c,cU g,show ca (parts q) (parts n.1)=false by simpa using l];rfl
def Md(q:ao)(s:Option Nd):Option Nd:=match s with
 | some x=>if x.2.1=2 then some x else some (fw 493 q)
 | none=>some (fw 493 q)
theorem SE{t:List Nd}(p:ao):((findF t p).2.1=true/\(findF t p).1.2.1=2)↔∃x,EC t p=some x/\x.2.1=2:=by
 rw[Wl];cases EC t p with
 | none=>simp
 | some x=>simp
theorem aa2{a:List ao}(h:Km a){i j:Nat}(b:i<a.length)(c:j<a.length)(e:dL a i=dL a j):i=j:=by
 have:=congrArg (λp=>(parts p).length) e;simp only[uW h,fT] at this;omega
theorem acD{f:List ao}(h:Km f)(n:Nat)(F:n<=f.length)(q:ao):∀(d i:Nat) (t:List Nd),i+d=n->Valid t ->
  (iF ((f.take n).drop i) (aF<|f.take i) t).2=0 ->
  ((∃j,i<=j/\j<n/\q=dL f j)->EC (iF ((f.take n).drop i) (aF<|f.take i) t).1 q=Md q (EC t q)) /\
  ((¬∃j,i<=j/\j<n/\q=dL f j)->EC (iF ((f.take n).drop i) (aF<|f.take i) t).1 q=EC t q):=by
 intro d;induction d with
 | zero =>
   intro i t A w _;obtain rfl:i=n:=by omega
   rw[GL<|by rw[fT];omega];exact⟨λ⟨j,a,b,_⟩=>absurd a (by omega),λ_=>rfl⟩
 | succ d y =>
   intro i t A w m;have hx:f[i]?=some f[i]:=gH (by omega);have o:(f.take n).drop i=f[i]::(f.take n).drop (i+1):=by
    rw[y7<|by rw[fT];omega,Y8]
   have B:=pw h hx;have l:dL f i=aF (f.take<|i+1):=rfl;rw[o] at m⊢;unfold iF at m⊢;rw[B] at m⊢;have k:(∃j,i<=j/\j<n/\q=dL f j)↔(q=dL f i\/∃j,i+1<=j/\j<n/\q=dL f j):=by
    constructor
    .rintro⟨j,a,b,c⟩;by_cases e:j=i
     .subst e;exact .inl c
     .exact .inr ⟨j,by omega,b,c⟩
    .rintro(c|⟨j,a,b,c⟩)
     .exact⟨i,bZ _,by omega,c⟩
     .exact⟨j,by omega,b,c⟩
   have apart:q=dL f i->¬∃j,i+1<=j/\j<n/\q=dL f j:=by
    rintro e ⟨j,a,b,c⟩;have:=aa2 h (by omega) (by omega) (e.symm.trans c);omega
   by_cases r:(findF t<|dL f i).2.1=true/\(findF t<|dL f i).1.2.1=2
   .rw[aV r] at m⊢;rw[l] at m⊢;obtain⟨u,p⟩:=y (i+1) t (by omega) w m;rw[k];obtain⟨x,C,D⟩:=(SE _).1 r;constructor
    .rintro(e|e)
     .rw[p<|apart e,e,C];unfold Md;simp only[aV D]
     .exact u e
    .intro e;exact p λz=>e (.inr z)
   .rw[aX r] at m⊢;by_cases s:(bz t<|fw 493<|dL f i).2=0
    .rw[aV s] at m⊢;rw[l] at m⊢;obtain⟨u,p⟩:=y (i+1) _ (by omega) (uZ s) m;have g:=Wn s q;rw[<-l] at u p;rw[k];have v:¬(fw 493<|dL f i).2.1≠2:=λz=>z rfl;rw[aX λz:ca (parts q) (parts (fw 493<|dL f i).1)=true/\(fw 493<|dL f i).2.1≠2=>v z.2] at g;constructor
     .rintro(e|e)
      .rw[aV<|show q=(fw 493<|dL f i).1 from e] at g;rw[<-l,p (apart e),g];unfold Md;rw[SE] at r;cases E:EC t q with
       | none=>dsimp only;rw[e]
       | some x =>
         dsimp only;rw[aX<|λz=>r ⟨x,by rw[<-e];exact E,z⟩,e]
      .rw[aX λz:q=(fw 493<|dL f i).1=>apart z e] at g;rw[<-l,u e,g]
     .intro e;rw[aX λz:q=(fw 493<|dL f i).1=>e (.inl z)] at g;rw[<-l,p λz=>e (.inr z),g]
    .rw[aX s] at m;exact absurd m s
def acE(a:List ao)(n:Nd)(q:ao)(s:Option Nd):Option Nd :=
 if q=n.1 then some n else if ca (parts q) a=true/\n.2.1≠2 then none else if ca a (parts q)=true/\q≠[] then Md q s else s
theorem Ym{a:List ao}(h:Km a)(q:ao):(∃j,0<=j/\j<a.length-1/\q=dL a j)↔(ca a (parts q)=true/\q≠[]):=by
 constructor
 .rintro⟨j,_,g,rfl⟩;rw[uW h];constructor
  .unfold ca;refine eu ⟨?_,?_⟩
   .rw[fT];omega
   .rw[fT,pc (by omega)]
  .intro e;have:=congrArg (λp=>(parts p).length) e;simp only[uW h,fT,show(parts []).length=0 from rfl] at this;omega
 .rintro⟨b,d⟩;unfold ca at b;obtain⟨i,f⟩:=kH b;have c:0<(parts q).length:=by
   apply Nat.pos_of_ne_zero;intro e;have:=fy q;rw[vU.1 e] at this;exact d this.symm
  refine⟨(parts q).length-1,mK _,by omega,?_⟩;unfold dL;rw[show(parts q).length-1+1=(parts q).length by omega,f,fy]
theorem acF{a:List ao}(h:Km a){t:List Nd}(k:Valid t){n:Nd}(j:n.1=aF a)(c:(qV a t n).2=0)(q:ao):EC (qV a t n).1 q=acE a n q (EC t q):=by
 have d:a.take (a.length-1)=a.dropLast:=List.dropLast_eq_take.symm;have e:aF (a.take 0)=[]:=by simp[aF]
 unfold qV at c⊢;by_cases hd:(iF a.dropLast [] t).2=0
 .rw[aV hd] at c⊢;have b:=acD h (a.length-1) (by omega) q (a.length-1) 0 t (by omega) k (by rw[wK,d,e];exact hd);rw[wK,d,e,Ym h] at b;rw[Wn c q,j,jE a h];unfold acE;rw[j];by_cases f:q=aF a
  .rw[aV f,aV f]
  .rw[aX f,aX f];by_cases g:ca (parts q) a=true/\n.2.1≠2
   .rw[aV g,aV g]
   .rw[aX g,aX g];by_cases i:ca a (parts q)=true/\q≠[]
    .rw[aV i,b.1 i]
    .rw[aX i,b.2 i]
 .rw[aX hd] at c;exact absurd c hd
def Yn(q:ao)(s:Option Nd)(p:Pt):Option Nd:=if(bE p).1=0/\(bE p).2.1≠[] then acE (bE p).2.1 (iE p<|aF (bE p).2.1) q s else s
def Kx(q:ao)(p:Pt):Bool:=(decide ((bE p).1=1)&&(decide (q=aF (bE p).2.1)||ca (parts q) (bE p).2.1))||(decide ((bE p).1=2)&&ca (parts q) (bE p).2.1)
def aa3(q:ao)(a:List Pt)(s:Option Nd):Option Nd:=if a.any (Kx q)=true then none else s
theorem aeo:∀(ps:List Pt) (t:List Nd),Valid t->(wu ps t).2=0->∀q,EC (wu ps t).1 q=ps.foldl (Yn q) (EC t q):=by
 intro ps;induction ps with
 | nil=>intro t _ _ q;rfl
 | cons p r e =>
   intro t d b q;unfold wu at b⊢;by_cases a:(nz t p).2=0
   .rw[aV a] at b⊢;rw[e _ (vL d a) b q,Qt]
    congr 1
    unfold nz Yn at *;by_cases c:(bE p).1=0/\(bE p).2.1≠[]
    .rw[aV c] at a⊢;rw[aV c];exact acF (uX p).1 d rfl a q
    .rw[aX c,aX c]
   .rw[aX a] at b;exact absurd b a
theorem aep{t:List Nd}(h:Valid t)(p:Pt)(q:ao):EC (sN t p) q=if Kx q p=true then none else EC t q:=by
 have i:=uY h p;have j:=uX p;have d:parts (aF (bE p).2.1)=(bE p).2.1:=jE _ j.1;refine Wm λx=>?_;rw[yf i.ord];have key:∀P:Nd->Bool,(∀x,x.1=q->P x=!Kx q p)->((x∈t.filter P/\x.1=q)↔(if Kx q p=true then none else EC t q)=some x):=by
  intro P l;rw[vX];by_cases c:Kx q p=true
  .rw[aV c];constructor
   .rintro⟨⟨_,a⟩,b⟩;rw[l x b,c] at a;cases a
   .intro e;cases e
  .rw[aX c,yf h.ord];constructor
   .rintro⟨⟨a,_⟩,b⟩;exact⟨a,b⟩
   .rintro⟨a,b⟩;exact⟨⟨a,by rw[l x b];simpa using c⟩,b⟩
 unfold sN;by_cases f:(bE p).1=1
 .rw[aV f];refine key _ λy k=>?_;unfold gone Kx;rw[k,d,f];simp
 .rw[aX f];by_cases g:(bE p).1=2
  .rw[aV g];refine key _ λy k=>?_;unfold Kx;rw[k,d,g];simp
  .rw[aX g];have c:Kx q p=false:=by unfold Kx;rw[cU f,cU g];rfl
   rw[aX<|by rw[c];decide,yf h.ord]
theorem Yo:∀(ps:List Pt) (t:List Nd),Valid t->∀q,EC (ps.foldl sN t) q=aa3 q ps (EC t q):=by
 intro ps;induction ps with
 | nil=>intro t _ q;rfl
 | cons p r b =>
   intro t a q;rw[Qt,b _ (uY a p) q,aep a p q];unfold aa3;rw[List.any_cons];cases Kx q p with
   | false=>rfl
   | true =>
     rw[aV rfl];simp
theorem U2{l:List Nd}(b:Valid l){a:List Pt}(e:jF a=true)(c:(lq l a).2=0):Valid (lq l a).1/\∀q,EC (lq l a).1 q=a.foldl (Yn q) (aa3 q a<|EC l q):=by
 have f:lq l a=wu a (a.foldl sN l):=by unfold lq;rw[aV b,aV e]
 rw[f] at c⊢;have d:=vM a l b;refine⟨?_,λq=>?_⟩
 .rcases ye a _ d with ⟨_,h⟩|⟨h,_⟩
  .exact h
  .exact absurd c h
 .rw[aeo a _ d c q,Yo a l b q]
theorem aa4{l:List Nd}(e:Valid l)(a:List Pt):((lq l a).2=0/\jF a=true)\/((lq l a).2≠0/\(lq l a).1=[]/\((lq l a).2=10\/(lq l a).2=5)):=by
 by_cases c:jF a=true
 .have f:lq l a=wu a (a.foldl sN l):=by unfold lq;rw[aV e,aV c]
  rw[f];have g:=vM a l e;rcases ye a _ g with ⟨d,h⟩|⟨d,h⟩
  .exact .inl ⟨d,c⟩
  .rcases SD a _ c g with b|b
   .exact absurd b d
   .exact .inr ⟨d,h,.inr b⟩
 .have f:lq l a=([],10):=by unfold lq;rw[aV e,aX c]
  rw[f];exact .inr ⟨by decide,rfl,.inl rfl⟩
def yg(q:ao)(f:Option Nd->Option Nd):Prop:=(∃c,∀s,f s=c)\/(∀s,f s=Md q s)\/(∀s,f s=s)
theorem NZ(q:ao)(s:Option Nd):Md q (Md q s)=Md q s:=by
 cases s with
 | none=>rfl
 | some x =>
   show Md q (if x.2.1=2 then some x else some (fw 493 q))=if x.2.1=2 then some x else some (fw 493 q)
   by_cases h:x.2.1=2
   .rw[aV h];show(if x.2.1=2 then some x else some (fw 493 q))=_
    rw[aV h]
   .rw[aX h];rfl
theorem yg.comp{q:ao}{f g:Option Nd->Option Nd}(b:yg q f)(a:yg q g):yg q (λs=>f (g s)):=by
 rcases b with ⟨c,d⟩|b|b
 .exact .inl ⟨c,λs=>d _⟩
 .rcases a with ⟨c,d⟩|a|a
  .exact .inl ⟨Md q c,λs=>by show f (g s)=_;rw[b,d]⟩
  .exact .inr (.inl λs=>by show f (g s)=_;rw[b,a,NZ])
  .exact .inr (.inl λs=>by show f (g s)=_;rw[b,a])
 .rcases a with ⟨c,d⟩|a|a
  .exact .inl ⟨c,λs=>by show f (g s)=_;rw[b,d]⟩
  .exact .inr (.inl λs=>by show f (g s)=_;rw[b,a])
  .exact .inr (.inr λs=>by show f (g s)=_;rw[b,a])
theorem yg.afL{q:ao}{f:Option Nd->Option Nd}(a:yg q f)(s:Option Nd):f (f s)=f s:=by
 rcases a with ⟨c,b⟩|a|a
 .rw[b,b]
 .rw[a,a,NZ]
 .rw[a,a]
theorem U3(q:ao)(p:Pt):yg q (λs=>Yn q s p):=by
 unfold Yn;by_cases a:(bE p).1=0/\(bE p).2.1≠[]
 .simp only[aV a];unfold acE;by_cases b:q=(iE p<|aF (bE p).2.1).1
  .simp only[aV b];exact .inl ⟨_,λ_=>rfl⟩
  .simp only[aX b];by_cases c:ca (parts q) (bE p).2.1=true/\(iE p<|aF (bE p).2.1).2.1≠2
   .simp only[aV c];exact .inl ⟨_,λ_=>rfl⟩
   .simp only[aX c];by_cases d:ca (bE p).2.1 (parts q)=true/\q≠[]
    .simp only[aV d];exact .inr (.inl λ_=>rfl)
    .simp only[aX d];exact .inr (.inr λ_=>rfl)
 .simp only[aX a];exact .inr (.inr λ_=>rfl)
theorem SF(q:ao):∀(ps:List Pt),yg q (λs=>ps.foldl (Yn q) s):=by
 intro ps;induction ps with
 | nil=>exact .inr (.inr λ_=>rfl)
 | cons p r a=>exact a.comp (U3 q p)
theorem SG(q:ao)(a:List Pt):yg q (aa3 q a):=by
 unfold aa3;by_cases h:a.any (Kx q)=true
 .simp only[aV h];exact .inl ⟨_,λ_=>rfl⟩
 .simp only[aX h];exact .inr (.inr λ_=>rfl)
theorem aa5{l:List Nd}(b:Valid l){a:List Pt}(c:jF a=true):(lq l a).2=0\/(lq l a).2=5:=by
 have d:lq l a=wu a (a.foldl sN l):=by unfold lq;rw[aV b,aV c]
 rw[d];exact SD a _ c (vM a l b)
theorem Yp{l:List Nd}(d:Valid l){a:List Pt}(b:jF a=true)(e:(lq l a).2=0):lq (lq l a).1 a=((lq l a).1,0)\/(lq (lq l a).1 a).2=5:=by
 obtain⟨c,f⟩:=U2 d b e;rcases aa5 c b with h|h
 .left;obtain⟨g,i⟩:=U2 c b h;have:(lq (lq l a).1 a).1=(lq l a).1:=aen g.ord c.ord λq=>by
   rw[i,f];exact((SF q a).comp<|SG q a).afL (EC l q)
  exact Iy this h
 .exact .inr h
def Bg(s:ao):List Pt×Int:=match e9 (s,()) with
 | some (l,e,_)=>(l,e)
 | none=>([],10)
theorem PN(s:ao):e9 (s,())=some ((Bg s).1,(Bg s).2,())/\Sv (Bg s).1:=by
 obtain⟨d,e,a,b,c,_⟩:=aaO s;unfold Bg;rw[a];exact⟨rfl,acC b c⟩
def fJ(l:List Nd)(s:ao):List Nd×Int:=if(Bg s).2=0 then lq l (Bg s).1 else([],10)
theorem Yq{l:List Nd}(a:Valid l)(s:ao):lL (l,s,())=some ((fJ l s).1,(fJ l s).2,()):=by
 obtain⟨b,c⟩:=PN s;rw[Yj b c a];unfold fJ;by_cases h:(Bg s).2=0
 .rw[aV h,aV h]
 .rw[aX h,aX h]
theorem uc{l:List Nd}(c:Valid l)(s:ao):((fJ l s).2=0/\Valid (fJ l s).1/\(fJ (fJ l s).1 s=((fJ l s).1,0)\/(fJ (fJ l s).1 s).2=5))\/((fJ l s).2≠0/\(fJ l s).1=[]):=by
 unfold fJ;by_cases h:(Bg s).2=0
 .rw[aV h];simp only[aV h];rcases aa4 c (Bg s).1 with ⟨a,b⟩|⟨a,b,_⟩
  .exact .inl ⟨a,(U2 c b a).1,Yp c b a⟩
  .exact .inr ⟨a,b⟩
 .rw[aX h];exact .inr ⟨by decide,rfl⟩
def pU:List ao->List Nd->List Nd×Int
 | [],t=>(t,0)
 | s::r,t=>if(fJ t s).2=0 then pU r (fJ t s).1 else([],(fJ t s).2)
theorem N0:∀(r:List ao) (s:ao) (t u:List Nd),pU r t=(u,0)->pU (r++[s]) t=if(fJ u s).2=0 then((fJ u s).1,0) else([],(fJ u s).2):=by
 intro r;induction r with
 | nil =>
   intro s t u h;have:t=u:=congrArg Prod.fst h;subst this;rfl
 | cons a r c =>
   intro s t u h;rw[y8];unfold pU at h⊢;by_cases b:(fJ t a).2=0
   .rw[aV b] at h⊢;exact c s _ u h
   .rw[aX b] at h;exact absurd (congrArg Prod.snd h) b
theorem acG(r:List ao)(s:r.length<=1000):oH (r,())=some ((pU r []).1,(pU r []).2,()):=by
 have key:∀(d i:Nat) (t:List Nd),i+d=r.length->Valid t->∃z,Loop (fH (r,())) ((([]:List Nd),(0:Int),t,(i:Int),()),())=some z /\
   (((pU (r.drop i) t).2=0/\z.1=0/\z.2.1.2.2.1=(pU (r.drop i) t).1)\/((pU (r.drop i) t).2≠0/\z.1=1/\z.2.1.1=(pU (r.drop i) t).1/\z.2.1.2.1=(pU (r.drop i) t).2)):=by
  intro d;induction d with
  | zero =>
    intro i t o l;obtain rfl:i=r.length:=by omega
    rw[Iv];have p:fH (r,()) ((([]:List Nd),(0:Int),t,(r.length:Int),()),())=some (.inr (0,(([]:List Nd),(0:Int),t,(r.length:Int),()),())):=by
     unfold fH;dsimp only;rw[aC,af]
    exact⟨(0,(([]:List Nd),(0:Int),t,(r.length:Int),()),()),by rw[aI,p];rfl,.inl ⟨rfl,rfl,rfl⟩⟩
  | succ d q =>
    intro i t o l;have hx:r[i]?=some r[i]:=gH (by omega);rw[y7<|by omega];unfold pU;have j:fH (r,()) ((([]:List Nd),(0:Int),t,(i:Int),()),())=some (if(fJ t r[i]).2=0 then .inl ((([]:List Nd),(0:Int),(fJ t r[i]).1,((i+1:Nat):Int),()),()) else .inr (1,(([]:List Nd),(fJ t r[i]).2,t,(i:Int),()),())):=by
     unfold fH;dsimp only;rw[aq<|show i<r.length by omega,ab,ar hx,aa,Yq l,aa,aK (by omega)];dsimp only;by_cases f:(fJ t r[i]).2=0
     .rw[aT f,aV f];rfl
     .rw[aN f,aX f];rfl
    by_cases f:(fJ t r[i]).2=0
    .rw[aV f] at j⊢;have m:Valid (fJ t r[i]).1:=by
      rcases uc l r[i] with ⟨_,h,_⟩|⟨h,_⟩
      .exact h
      .exact absurd f h
     obtain⟨z,n,k⟩:=q (i+1) _ (by omega) m;exact⟨z,by rw[aI,j];exact n,k⟩
    .rw[aX f] at j⊢;exact⟨(1,(([]:List Nd),(fJ t r[i]).2,t,(i:Int),()),()),by rw[aI,j];rfl,.inr ⟨f,rfl,rfl,rfl⟩⟩
 have g:Valid []:=yc US.1;obtain⟨z,n,k⟩:=key r.length 0 [] (by omega) g;rw[wK] at k;unfold oH;rw[show Loop (fH (r,())) ((([]:List Nd),(0:Int),([]:List Nd),(0:Int),()),())=_ from n,aa];rcases k with ⟨a,b,c⟩|⟨a,b,c,e⟩
 .rw[b,c,a];rfl
 .rw[b,c,e];rfl
theorem N3(b:ao)(l:b.length<=100000):tH (b,())=some (decide (b.length=512/\∀x∈b,x=0),()):=by
 have e0:∀y:UInt8,aZ (u8 y) 0=decide (y=0):=λy=>BB (n:=0);have h:=aaV (f:=jc (b,())) b (λi=>((false,(i:Int),()),())) (λx=>!decide (x=0)) (λj=>(1,(false,(j:Int),()),())) (0,(false,(b.length:Int),()),()) (λi x a=>by
  have hi:=aD a;unfold jc;dsimp only;rw[aq hi,ab,ar a,aa,e0,aK (by omega)];cases decide (x=0)<;>rfl) (by
  unfold jc;dsimp only;rw[aC,af]) b.length 0 (by omega)
 unfold tH;rcases h with ⟨j,x,_,a,g,_,d⟩|⟨k,d⟩
 .rw[show Loop (jc (b,())) ((false,(0:Int),()),())=_ from d,aa,eC,af];have e:x≠0:=by simpa using g
  rw[cU λq:b.length=512/\∀x∈b,x=0=>e (q.2 x<|eF a)]
 .rw[show Loop (jc (b,())) ((false,(0:Int),()),())=_ from d,aa,bV,ab];have c:∀x∈b,x=0:=λx a=>by
   obtain⟨i,hi⟩:=bR.1 a;simpa using k i x (mK _) hi
  have:aZ (len b) 512=decide (b.length=512/\∀x∈b,x=0):=by
   unfold aZ len;apply jV.2;constructor
   .intro h;exact⟨by omega,c⟩
   .intro h;omega
  rw[this]
theorem Yr(b:ao)(o:b.length<=100000):tI (b,())=some (decide (1024<=b.length/\b.length % 512=0/\∀x∈b,x=0),()):=by
 have e0:∀y:UInt8,aZ (u8 y) 0=decide (y=0):=λy=>BB (n:=0);have h:=aaV (f:=jd (b,())) b (λi=>((false,(i:Int),()),())) (λx=>!decide (x=0)) (λj=>(1,(false,(j:Int),()),())) (0,(false,(b.length:Int),()),()) (λi x a=>by
  have hi:=aD a;unfold jd;dsimp only;rw[aq hi,ab,ar a,aa,e0,aK (by omega)];cases decide (x=0)<;>rfl) (by
  unfold jd;dsimp only;rw[aC,af]) b.length 0 (by omega)
 unfold tI;dsimp only;by_cases g:1024<=b.length
 case neg =>
  rw[aJ<|by rw[br];omega,aE,af,aa,ab,cU λq:1024<=b.length/\b.length % 512=0/\∀x∈b,x=0=>g q.1]
 rw[aA<|by rw[br];omega,az,ab,show aZ 512 0=false from rfl,af,show iR (len b) 512=((b.length % 512:Nat):Int) from rfl];by_cases k:b.length % 512=0
 case neg =>
  rw[aN<|by omega,az,aa,ab,cU λq:1024<=b.length/\b.length % 512=0/\∀x∈b,x=0=>k q.2.1]
 rw[aT<|by omega,aE,aa,af];rcases h with ⟨j,x,_,a,l,_,d⟩|⟨m,d⟩
 .rw[show Loop (jd (b,())) ((false,(0:Int),()),())=_ from d,aa,eC,af];have e:x≠0:=by simpa using l
  rw[cU λq:1024<=b.length/\b.length % 512=0/\∀x∈b,x=0=>e (q.2.2 x<|eF a)]
 .rw[show Loop (jd (b,())) ((false,(0:Int),()),())=_ from d,aa,bV,ab];have c:∀x∈b,x=0:=λx a=>by
   obtain⟨i,hi⟩:=bR.1 a;simpa using m i x (mK _) hi
  rw[eu (⟨g,k,c⟩:1024<=b.length/\b.length % 512=0/\∀x∈b,x=0)]
abbrev PS:=(ao×(List Pt×(Bool×(ah×ah))))×(List Pt×ah)
def ps0(r:ao)(a:List Pt):PS:=((r,([]:List Pt),false,(),()),a,())
theorem N4(r:ao)(c:List Pt)(C:r.length<=8192):∃p g h,bI ((),rd r (c.length:Int),())=some ((p,g,()),h,()) /\
  ((g=false/\∃b z,h=zV (c.length:Int) b/\dX (ps0 r c)=some (.inr z)/\((z.1=0/\b=true)\/(z.1=1/\z.2.1.2.1=c/\z.2.1.2.2.1=!b))) \/
   (g=true/\∃l,h=rd l ((c.length+1:Nat):Int)/\l.length+512<=r.length/\c.length<64/\dX (ps0 r c)=some (.inl<|ps0 l<|c++[p]))):=by
 by_cases d:r.length<512
 .refine⟨_,_,_,J9 r c.length d,.inl ⟨rfl,true,(0,ps0 r c),rfl,?_,.inl ⟨rfl,rfl⟩⟩⟩;unfold dX ps0;dsimp only;rw[fu<|by rw[br];omega,af]
 have m:(r.take 512).length=512:=by rw[fT];omega
 have f:inside (0:Int) (512:Int) (len r)=true:=aP (by decide) (by decide) (by rw[br];omega);by_cases o:∀x∈r.take 512,x=0
 .refine⟨_,_,_,FA r c.length (by omega) (by omega) o,.inl ⟨rfl,_,(1,(r,c,decide (1024<=r.length/\r.length % 512=0/\∀x∈r,x=0),(),()),c,()),rfl,?_,.inr ⟨rfl,rfl,by simp⟩⟩⟩;unfold dX ps0;dsimp only;rw[dc<|by rw[br];omega,ab,f,ab,show sub r 0 (minus 512 0)=r.take 512 from iC r 512,N3 _ (by omega),aa,eu (⟨m,o⟩:(r.take 512).length=512/\∀x∈r.take 512,x=0),ab,Yr r (by omega),aa]
 have e:=λb=>D9 r (c.length:Int) b;obtain⟨x,v,u,w⟩:=Wd (r.take 512) m;have t3:=(take_same (r.take 512) m).trans u;have y:(r.drop 512).length=r.length-512:=j8;unfold bI dX ps0;dsimp only[rd] at e⊢;rw[aE,az,ab,af,aA (by rw[br];omega),af,f,ab,show sub r 0 (minus 512 0)=r.take 512 from iC r 512];rw[JZ (r.take 512)<|by omega,aa,dc (a:=512) (b:=len r) (by rw[br];omega),ab,ab,N3 _ (by omega),aa];dsimp only;rw[cU (λq:(r.take 512).length=512/\∀x∈r.take 512,x=0=>o q.2),af,af,ab,ab,u,t3,aa,aa,aP (i:=512) (j:=len r) (n:=len r) (by decide) (by rw[br];omega) (qJ _),ab,show sub r 512 (minus (len r) 512)=r.drop 512 from oN r 512 (by omega)];dsimp only;by_cases s:v=0
 case neg =>
  rw[aN s,az,ab,e,aa];exact⟨_,_,_,rfl,.inl ⟨rfl,_,_,rfl,rfl,.inr ⟨rfl,rfl,rfl⟩⟩⟩
 rw[aT s,aE,af];have t:=w s;obtain⟨A,D⟩:=t.2.2.2.1;obtain⟨k,B⟩:=ade A;rw[B];by_cases E:8192<k
 .rw[aJ (a:=len (r.drop 512))<|by rw[br];omega,ab,e,aa,aJ (a:=8192) (b:=(k:Int)) (by omega)];exact⟨_,_,_,rfl,.inl ⟨rfl,_,_,rfl,rfl,.inr ⟨rfl,rfl,rfl⟩⟩⟩
 have F:=Sd k;rw[aA (a:=8192) (b:=(k:Int))<|by omega,show l4 ((k:Int),())=_ from Sf k (by omega),aa];dsimp only;rw[show aB .i64 512 ((k+mA k:Nat):Int)=((512+(k+mA k):Nat):Int) from uO (a:=512) (by omega)];by_cases G:(r.drop 512).length<k
 .rw[aJ (a:=len (r.drop 512))<|by rw[br];omega,ab,e,aa,aJ (a:=len r) (by rw[br];omega)];exact⟨_,_,_,rfl,.inl ⟨rfl,_,_,rfl,rfl,.inr ⟨rfl,rfl,rfl⟩⟩⟩
 .rw[aA (a:=len (r.drop 512))<|by rw[br];omega,af,Se k (by omega),aa,fk (a:=(k:Int)) (by omega) (by omega)];dsimp only;by_cases H:(r.drop 512).length<k+mA k
  .rw[aJ (a:=len (r.drop 512))<|by rw[br];omega,ab,e,aa,aJ (a:=len r) (by rw[br];omega)];exact⟨_,_,_,rfl,.inl ⟨rfl,_,_,rfl,rfl,.inr ⟨rfl,rfl,rfl⟩⟩⟩
  .rw[aA (a:=len (r.drop 512))<|by rw[br];omega,af,aA (a:=len r) (by rw[br];omega)];by_cases I:64<=c.length
   .rw[dc (b:=(c.length:Int))<|by omega,ab,e,aa,dc (b:=len c) (by rw[br];omega)];exact⟨_,_,_,rfl,.inl ⟨rfl,_,_,rfl,rfl,.inr ⟨rfl,rfl,rfl⟩⟩⟩
   .rw[fu (b:=(c.length:Int))<|by omega,af,aa,fk (a:=(k:Int)) (by omega) (by omega),aP (i:=(k:Int)+(mA k:Int)) (by omega) (by rw[br];omega) (qJ _),ab,aP (i:=0) (j:=(k:Int)) (by omega) (by omega) (by rw[br];omega),ab];rw[show sub (r.drop 512) 0 (minus (k:Int) 0)=(r.drop 512).take k from iC _ k,show(k:Int)+(mA k:Int)=((k+mA k:Nat):Int) by omega,oN _ (k+mA k) (by omega),aK (by omega)];rw[fu (b:=len c)<|by rw[br];omega];have es:sub r 512 (minus ((512+k:Nat):Int) 512)=(r.drop 512).take k:=by
     unfold sub minus;rw[show(((512+k:Nat):Int)-512).toNat=k by omega];rfl
    refine⟨_,_,_,rfl,.inr ⟨rfl,_,rfl,?_,by omega,?_⟩⟩
    .rw[j8];omega
    .rw[show aB .i64 512 ((k:Nat):Int)=((512+k:Nat):Int) from uO (a:=512) (by omega),es];rw[show aj (nt<|aj (nt false) false true) (some false) (some true)=some false from rfl];rw[aa,az,ab,af,aP (i:=512) (by decide) (by omega) (by rw[br];omega),ab,bP (by simp only[dh,eG];omega),ab,aa];dsimp only;rw[show aB .i64 512 ((k+mA k:Nat):Int)=((512+(k+mA k):Nat):Int) from uO (a:=512) (by omega),aP (by omega) (by rw[br];omega) (qJ _),ab,oN r (512+(k+mA k)) (by omega),vb];rfl
theorem Ys:∀(m:Nat) (r:ao) (out:List Pt) (p:Pt),r.length<=m->r.length<=8192->out.length<=63 ->
  ∃(c:List Pt) (d:Pt) (b:Int×Bool) (z:Nat×PS),Loop gY (((),(),true,()),p,out,rd r ((out.length+1:Nat):Int),())=some (((),(),false,()),d,c,zV b.1 b.2,()) /\
   Loop dX (ps0 r<|out++[p])=some z/\((z.1=0/\b.2=true)\/(z.1=1/\z.2.1.2.1=c/\z.2.1.2.2.1=!b.2)):=by
 intro m;induction m using Nat.strongRecOn with
 | _ m h =>
   intro r out p x i j;obtain⟨e,k,l,f,n⟩:=N4 r (out++[p]) i;have hlen:((out++[p]).length:Int)=((out.length+1:Nat):Int):=by simp
   rw[hlen] at f;have a:=NO p out (rd r ((out.length+1:Nat):Int)) (by omega) f;rcases n with ⟨rfl,b,z,rfl,q,s⟩|⟨rfl,g,rfl,y,A,t⟩
   .refine⟨out++[p],e,(((out++[p]).length:Int),b),z,?_,by rw[aI,q];rfl,s⟩;rw[aI,a];show Loop _ _=_
    rw[aI,ub];rfl
   .obtain⟨o,d,b,z,u,v,w⟩:=h g.length (by omega) g (out++[p]) e (bZ _) (by omega) (by omega);exact⟨o,d,b,z,by rw[aI,a];exact u,by rw[aI,t];exact v,w⟩
theorem N5(s:ao):ld (s,())=e9 (s,()):=by
 by_cases f:8192<s.length
 .rw[NP s f];unfold ld rS;dsimp only;rw[aJ<|by rw[br];omega,ab,aa];rfl
 obtain⟨p,v,w,g,h⟩:=N4 s [] (by omega);have fin:∀(b:Int×Bool) (o:List Pt),(ae (hW ((),zV b.1 b.2,())) λa=>aj a.1.1 (some (([]:List Pt),(10:Int),())) (some (o,(0:Int),())))=some (if b.2=true then(([]:List Pt),(10:Int),()) else(o,(0:Int),())):=λb o=>by
  obtain⟨x,i⟩:=b;cases i<;>rfl
 have parts:∀(o:List Pt) (b:Bool) (z:Nat×PS),Loop dX (ps0 s [])=some z->((z.1=0/\b=true)\/(z.1=1/\z.2.1.2.1=o/\z.2.1.2.2.1=!b))->ld (s,())=some (if b=true then(([]:List Pt),(10:Int),()) else(o,(0:Int),())):=λo b z j k=>by
  unfold ld rS;dsimp only;rw[aA<|by rw[br];omega,af,show Loop dX ((s,([]:List Pt),false,(),()),([]:List Pt),())=_ from j,aa];rcases k with ⟨c,d⟩|⟨c,d,l⟩
  .rw[c,bV,ab,aa,d];rfl
  .rw[c,eC,af,aa,d,l];cases b<;>rfl
 have e0:(([]:List Pt).length:Int)=0:=rfl;unfold e9;dsimp only;rw[aA<|by rw[br];omega,show bI ((),(true,s,(0:Int),false,false,()),())=_ from g,aa];dsimp only;rcases h with ⟨rfl,b,z,rfl,m,n⟩|⟨rfl,e,rfl,y,A,q⟩
 .rw[aI,ub];show _=(ae (hW ((),zV _ _,())) λa=>aj a.1.1 (some (([]:List Pt),(10:Int),())) (some (([]:List Pt),(0:Int),())))
  rw[fin (_,b),parts [] b z (by rw[aI,m];rfl) n]
 .obtain⟨o,B,b,z,r,t,u⟩:=Ys e.length e [] p (bZ _) (by omega) (by simp);rw[show Loop gY (((),(),true,()),p,([]:List Pt),rd e ((([]:List Pt).length+1:Nat):Int),())=_ from r,aa];dsimp only;rw[fin b o];exact parts o b.2 z (by rw[aI,q];exact t) u
theorem Af(s:ao):oF (s,())=some (if(Bg s).2=0/\jF (Bg s).1=true then 0 else 10,()):=by
 obtain⟨d,e⟩:=PN s;unfold oF;dsimp only;rw[N5 s,d,aa];dsimp only;rw[Ad _ e,aa];dsimp only;by_cases a:(Bg s).2=0
 .rw[aT a];by_cases c:jF (Bg s).1=true
  .rw[c,aV ⟨a,rfl⟩];rfl
  .have b:jF (Bg s).1=false:=by simpa using c
   rw[b,aX λq:(Bg s).2=0/\false=true=>Bool.noConfusion q.2];rfl
 .rw[aN a,aX λq:(Bg s).2=0/\jF (Bg s).1=true=>a q.1];rfl
theorem SH{l:List Nd}(b:Valid l){a:List Pt}(c:¬jF a=true):lq l a=([],10):=by unfold lq;rw[aV b,aX c]
def A2(a:List ax)(id:Tx):Option Nat:=a.findIdx? λx=>decide (x.1=id)
def zb(a:List ax)(id:Tx):Int:=match A2 a id with|some i=>(i:Int)|none=>-1
theorem Ky{b:List ax}{id:Tx}{i:Nat}{x:ax}(c:b[i]?=some x)(e:x.1=id)(f:∀(j:Nat) (y:ax),j<i->b[j]?=some y->decide (y.1=id)=false):A2 b id=some i:=by
 unfold A2;rw[acZ];have a:=aD c;refine⟨a,?_,λj d=>?_⟩
 .rw[gH a] at c;rw[aG c,eu e]
 .have:=f j b[j] d (gH<|by omega);rw[this];simp
theorem Ag{a:List ax}{id:Tx}(b:∀(i:Nat) (x:ax),a[i]?=some x->decide (x.1=id)=false):A2 a id=none:=by
 unfold A2;rw[ac6];intro x c;obtain⟨i,d⟩:=bR.1 c;exact b i x d
theorem yh{a:List ax}{id:Tx}{i:Nat}(h:A2 a id=some i):∃x,a[i]?=some x/\x.1=id:=by
 unfold A2 at h;rw[acZ] at h;obtain⟨b,c,_⟩:=h;exact⟨a[i],gH b,kH c⟩
theorem Ih{a:List ax}{id:Tx}:(∃i,A2 a id=some i)↔∃x∈a,x.1=id:=by
 constructor
 .rintro⟨i,h⟩;obtain⟨x,b,c⟩:=yh h;exact⟨x,eF b,c⟩
 .rintro⟨x,b,c⟩;cases h:A2 a id with
  | some i=>exact⟨i,rfl⟩
  | none =>
    unfold A2 at h;rw[ac6] at h;have:=h x b;simp[c] at this
theorem aa6{a:List ax}{id:Tx}:zb a id<0↔¬∃x∈a,x.1=id:=by
 rw[<-Ih];unfold zb;cases h:A2 a id with
 | none=>simp
 | some i=>simp only[sa,exists_eq',not_true_eq_false,iff_false];omega
theorem N6{f:(Int×Int×ah)×ah->Option (((Int×Int×ah)×ah)⊕(Nat×(Int×Int×ah)×ah))}(a:List ax)(id:Tx)(n:a.length<=1000000)
  (d:∀c i:Int,f ((c,i,()),())=aj (ba i<|len a) (ae (idx a i) λy=>aj (bw y.1 id) (some<|.inr (1,(i,i,()),())) (some<|.inl ((c,aB .i64 i 1,()),()))) (some<|.inr (0,(c,i,()),()))) :
  ae (Loop f (((0:Int),(0:Int),()),())) (λe=>aj (du e.1 0) (some ((-1:Int),())) (some (e.2.1.1,())))=some (zb a id,()):=by
 rcases pT (f:=f) a (λi=>(((0:Int),i,()),())) (λ_ x=>decide (x.1=id)) (λi x=>(1,((i:Int),(i:Int),()),())) (0,((0:Int),len a,()),()) (by omega) (λi x b g j=>by
  rw[d,aq g,ab,ar b,aa,sX,j];by_cases h:x.1=id<;>simp[bw,h]) (by rw[d,aC,af];rfl) with ⟨i,x,b,k,l,h⟩|⟨m,h⟩
 .rw[h,aa];unfold zb;rw[Ky b (kH k) l];rfl
 .rw[h,aa];unfold zb;rw[Ag m];rfl
theorem Kz(a:List ax)(id:Tx)(b:a.length<=1000000):xY (a,id,())=some (zb a id,()):=N6 a id b λc i=>rfl
theorem KA(s:bJ)(id:Tx)(a:s.2.2.1.length<=1000000):lf (s,id,())=some (zb s.2.2.1 id,()):=N6 s.2.2.1 id a λc i=>rfl
def yV(ls:List ax):Nat->Tx->List ax->List ax×Int
 | n,id,acc=>match A2 ls id with
   | none=>([],3)
   | some i=>match n,ls[i]? with
     | 0,_=>([],5)
     | n+1,some x=>if x.2.1=[] then(acc++[x],0) else yV ls n x.2.1 (acc++[x])
     | _,none=>([],3)
def b7(ls:List ax)(id:Tx):List ax×Int:=yV ls 16 id []
theorem U4(a:List ax)(c:Tx)(d:a.length<=1000000):∀(n:Nat) (id:Tx) (acc:List ax) (k:Nat),n+k=16->acc.length<=k ->
  ∃f g j,Loop (kz (a,c,())) ((id,([]:List ax),(0:Int),(),(k:Int),()),acc,())=some (1,(f,(yV a n id acc).1,(yV a n id acc).2,g),j):=by
 intro n;induction n with
 | zero =>
   intro id acc k l m;rw[aI];unfold kz;dsimp only;rw[dc<|by omega,ab,Kz a id d,aa];dsimp only;unfold yV zb;cases h:A2 a id with
   | none=>exact⟨_,_,_,rfl⟩
   | some i =>
     dsimp only;rw[aA<|by omega,af,aT (by omega),ab];exact⟨_,_,_,rfl⟩
 | succ n o =>
   intro id acc k l m;rw[aI];unfold kz;dsimp only;rw[dc<|by omega,ab,Kz a id d,aa];dsimp only;unfold yV zb;cases h:A2 a id with
   | none=>exact⟨_,_,_,rfl⟩
   | some i =>
     obtain⟨x,e,p⟩:=yh h;dsimp only;rw[aA<|by omega,af,aN (by omega),af,ar e,aa,show fits (plus (@len ax acc)<|@len ax ([x]:List ax))=true from bP (by show _+1<=_;omega),ab,aa,e];dsimp only;rw[oc];by_cases b:x.2.1=[]
     .rw[eu b,ab,aV b];exact⟨_,_,_,rfl⟩
     .rw[cU b,af,aX b,aa,aK (by omega)];have:=o x.2.1 (acc++[x]) (k+1) (by omega) (by rw[gI];show _+1<=_;omega);exact this
theorem N7(a:List ax)(id:Tx)(b:a.length<=1000000):oK (a,id,())=some ((b7 a id).1,(b7 a id).2,()):=by
 unfold oK;dsimp only;obtain⟨d,e,f,h⟩:=U4 a id b 16 id [] 0 rfl (bZ _);have c:Loop (kz (a,id,())) ((id,([]:List ax),(0:Int),(),(0:Int),()),([]:List ax),())=_:=h;rw[c,aa];rfl
theorem acI{ls:List ax}:∀{n:Nat} {id:Tx} {acc:List ax},(∀x∈acc,x∈ls)->(∀x∈(yV ls n id acc).1,x∈ls)/\(yV ls n id acc).1.length<=n+acc.length:=by
 intro n;induction n with
 | zero =>
   intro id acc h;unfold yV;cases A2 ls id<;>simp
 | succ n e =>
   intro id acc h;unfold yV;cases f:A2 ls id with
   | none=>simp
   | some i =>
     dsimp only;cases hx:ls[i]? with
     | none=>simp
     | some x =>
       dsimp only;have d:∀y∈acc++[x],y∈ls:=λy c=>by
        rcases ra.1 c with c|c
        .exact h y c
        .rw[EF] at c;subst c;exact eF hx
       split
       .exact⟨d,by rw[gI];show _+1<=_;omega⟩
       .obtain⟨a,b⟩:=e (id:=x.2.1) d;refine⟨a,?_⟩;rw[gI] at b;have:([x]:List ax).length=1:=rfl;omega
theorem ry{ls:List ax}{id:Tx}:(∀x∈(b7 ls id).1,x∈ls)/\(b7 ls id).1.length<=16:=by
 obtain⟨a,b⟩:=acI (ls:=ls) (n:=16) (id:=id) (acc:=[]) (λx c=>by cases c);exact⟨a,by unfold b7;simpa using b⟩
theorem KB{l:List Nd}(a:Valid l)(s:ao):oG (l,s,())=some ((fJ l s).1,(fJ l s).2,()):=by
 obtain⟨d,e⟩:=PN s;obtain⟨v,f,g⟩:=rr l (kE a);unfold oG;dsimp only;rw[f,aa,g.2 a];dsimp only;rw[aE,af,Af s,aa,N5 s,d];dsimp only;unfold fJ;by_cases b:(Bg s).2=0
 .rw[aV b];by_cases c:jF (Bg s).1=true
  .rw[aV (⟨b,c⟩:(Bg s).2=0/\jF (Bg s).1=true),show nt (aZ 0 0)=false from rfl,af,aa,U0 l _ (kE a) e,aa]
  .rw[aX (λq:(Bg s).2=0/\jF (Bg s).1=true=>c q.2),SH a c];rfl
 .rw[aX b,aX λq:(Bg s).2=0/\jF (Bg s).1=true=>b q.1];rfl
theorem Yt(a:List Tx)(s:a.length<=1000000):vE (a,())=some ((pU a []).1,(pU a []).2,()):=by
 unfold vE;have key:∀(r:List Tx) (t:List Nd) (k:Nat),a=a.take k++r->k+r.length=a.length->Valid t->∃q,(Loop (fY (a,())) ((([]:List Nd),(0:Int),t,(k:Int),()),())=some (1,(([]:List Nd),(pU r t).2,q),())/\(pU r t).1=[]) \/
   ∃m n o,Loop (fY (a,())) ((([]:List Nd),(0:Int),t,(k:Int),()),())=some (0,(m,n,(pU r t).1,o),())/\(pU r t).2=0:=by
  intro r;induction r with
  | nil =>
    intro t k e b f;rw[eG,wL] at b;refine⟨((t,(k:Int),()):List Nd×Int×ah),.inr ⟨[],0,((k:Int),()),?_,rfl⟩⟩;rw[aI];unfold fY;dsimp only;rw[b,aC,af];rfl
  | cons d r p =>
    intro t k e b f;rw[dh] at b;have hx:a[k]?=some d:=by
     rw[e,Ik (by rw[fT];omega),fT];simp[pc<|show k<=a.length by omega]
    have step:fY (a,()) ((([]:List Nd),(0:Int),t,(k:Int),()),())=some (if(fJ t d).2=0 then .inl ((([]:List Nd),(0:Int),(fJ t d).1,((k+1:Nat):Int),()),()) else .inr (1,(([]:List Nd),(fJ t d).2,t,(k:Int),()),())):=by
     unfold fY;dsimp only;rw[aq<|by omega,ab,ar hx,aa,KB f d,aa,aK (by omega)];dsimp only;by_cases c:(fJ t d).2=0
     .rw[aT c,aE,af,aV c]
     .rw[aN c,az,ab,aX c]
    rw[aI,step];unfold pU;by_cases c:(fJ t d).2=0
    .rw[aV c,aV c];have g:Valid (fJ t d).1:=by
      rcases uc f d with ⟨_,h,_⟩|⟨h,_⟩
      .exact h
      .exact absurd c h
     exact p (fJ t d).1 (k+1) (by rw[Ba,hx];simpa using e) (by omega) g
    .rw[aX c,aX c];exact⟨(t,(k:Int),()),.inl ⟨rfl,rfl⟩⟩
 have i:Valid []:=yc US.1;obtain⟨q,⟨h,j⟩|⟨m,n,o,h,j⟩⟩:=key a [] 0 (by simp) (by simp) i
 .have l:Loop (fY (a,())) ((([]:List Nd),(0:Int),([]:List Nd),(0:Int),()),())=_:=h;rw[l,aa,j];rfl
 .have l:Loop (fY (a,())) ((([]:List Nd),(0:Int),([]:List Nd),(0:Int),()),())=_:=h;rw[l,aa,j];rfl
def qA(ls:List ax)(a:List Tx)(id:Tx):Tx:=match A2 ls id with|some i=>(a[i]?).getD []|none=>[]
def cS(ls:List ax)(a:List Tx)(id:Tx):List Nd×Int :=
 if(b7 ls id).2=0 then pU ((b7 ls id).1.reverse.map λx=>qA ls a x.1) [] else([],(b7 ls id).2)
theorem U5(s:bJ)(i:Nat):tM (s,(i:Int),())=some ((s.2.2.2.1[i]?).getD [],()):=by
 unfold tM;dsimp only;by_cases h:i<s.2.2.2.1.length
 .have hx:s.2.2.2.1[i]?=some s.2.2.2.1[i]:=gH h;rw[aq h,ab,ar hx,aa,hx];rfl
 .have hx:s.2.2.2.1[i]?=none:=Oh (by omega);rw[aA<|by unfold len;omega,af,hx];rfl
theorem U6(s:bJ)(id:Tx)(g:s.2.2.1.length<=1000000):tN (s,id,())=some ((cS s.2.2.1 s.2.2.2.1 id).1,(cS s.2.2.1 s.2.2.2.1 id).2,()):=by
 obtain⟨h,b⟩:=ry (ls:=s.2.2.1) (id:=id);unfold tN cS;dsimp only;rw[N7 _ id g,aa];dsimp only;by_cases a:(b7 s.2.2.1 id).2=0
 .rw[aT a,aE,af,aV a];generalize (b7 s.2.2.1 id).1=c at h b;generalize k:(c,(b7 s.2.2.1 id).2,())=q;have d:q.1=c:=by rw[<-k]
  have key:∀(n:Nat) (acc:List Tx),n<=c.length->acc.length+n<=1000->∃z,Loop (lN (s,id,()) q) (((),(n:Int)-1,()),acc,())=some (z,(acc++(c.take n).reverse.map λx=>qA s.2.2.1 s.2.2.2.1 x.1,())):=by
   intro n;induction n with
   | zero =>
     intro acc _ _;refine⟨((),((0:Nat):Int)-1,()),?_⟩;rw[aI];unfold lN;dsimp only;rw[fu<|by omega,af];simp[dK]
   | succ n l =>
     intro acc m o;obtain⟨x,e⟩:∃x,c[n]?=some x:=⟨_,gH (show n<c.length by omega)⟩;obtain⟨i,j⟩:=Ih.2 ⟨x,h x (eF e),rfl⟩;have hd:qA s.2.2.1 s.2.2.2.1 x.1=(s.2.2.2.1[i]?).getD []:=by unfold qA;rw[j]
     obtain⟨z,f⟩:=l (acc++[qA s.2.2.1 s.2.2.2.1 x.1]) (by omega) (by rw[gI];show _+1+n<=_;omega);refine⟨z,?_⟩;have step:lN (s,id,()) q (((),(n:Int),()),acc,())=some (.inl (((),(n:Int)-1,()),acc++[qA s.2.2.1 s.2.2.2.1 x.1],())):=by
      unfold lN;dsimp only;rw[dc<|by omega,ab,d,ar e,aa,KA s x.1 g,aa];dsimp only;rw[show zb s.2.2.1 x.1=(i:Int) by unfold zb;rw[j],U5 s i,aa,<-hd];dsimp only;rw[show fits (plus (@len Tx acc)<|@len Tx ([qA s.2.2.1 s.2.2.2.1 x.1]:List Tx))=true from bP (by show _+1<=_;omega),ab,dx (by omega) (by omega)];rfl
     rw[show((n+1:Nat):Int)-1=(n:Int) by omega,aI,step];refine s9 f ?_;rw[Ba,e];simp
  obtain⟨z,f⟩:=key c.length [] (bZ _) (by simp;omega);have hlen:cd .i64 (len c) 1=(c.length:Int)-1:=dx (by unfold len;omega) (by unfold len;omega);rw[hlen,f,aa];dsimp only;rw[wI,sd,Yt _ (by rw[sR,MQ];omega),aa]
 .rw[aN a,az,ab,aX a]
def Ah(s:Tx):Prop:=(Bg s).2=0/\jF (Bg s).1=true
structure Ai (ls:List ax) (ds:List Tx):Prop where
 same:ds.length=ls.length
 chain:∀x∈ls,(b7 ls x.1).2=0
 each:∀(i:Nat) (x:ax) (d:Tx),ls[i]?=some x->ds[i]?=some d->x.2.2.2.2.2.2.1=true/\x.2.2.2.2.2.1=0/\x.2.2.2.2.1=(d.length:Int)/\x.2.2.2.1=rq d/\Ah d/\(cS ls ds x.1).2=0
open Classical in
theorem PO(s:bJ)(E:s.2.2.1.length<=100)(B:∀d∈s.2.2.2.1,d.length<=8192):∃b,qq (s,())=some (b,())/\(b=true↔Ai s.2.2.1 s.2.2.2.1):=by
 have n:rV (s.2.2.1,())=some (if(∀x∈s.2.2.1,(b7 s.2.2.1 x.1).2=0) then 0 else 2,()):=by
  unfold rV;rcases pT (f:=nZ (s.2.2.1,())) s.2.2.1 (λi=>(((0:Int),i,()),())) (λ_ x=>decide ((b7 s.2.2.1 x.1).2≠0)) (λi x=>(1,((2:Int),(i:Int),()),())) (0,((0:Int),len s.2.2.1,()),()) (by omega) (λi x c o y=>by
   unfold nZ;dsimp only;rw[aq o,ab,ar c,aa,N7 _ x.1 (by omega),aa,y];dsimp only;by_cases h:(b7 s.2.2.1 x.1).2=0
   .rw[aT h];simp[h,nt,aj]
   .rw[aN h];simp[h,nt,aj]) (by unfold nZ;dsimp only;rw[aC,af];rfl) with ⟨i,x,c,z,_,h⟩|⟨A,h⟩
  .rw[h,aa,aX λq=>by simp[q x<|eF c] at z];rfl
  .rw[h,aa,aV λx c=>by
   obtain⟨i,o⟩:=bR.1 c;have:=A i x o;simpa using this];rfl
 unfold qq;dsimp only;rw[n,aa];by_cases g:s.2.2.2.1.length=s.2.2.1.length
 .rw[aT<|show @len Tx s.2.2.2.1=@len ax s.2.2.1 by unfold len;omega,aE,az,ab,aa];by_cases k:∀x∈s.2.2.1,(b7 s.2.2.1 x.1).2=0
  .rw[aV k,show nt (aZ (0:Int) 0)=false from rfl,af];obtain⟨l,j⟩:∃l:Nat->ax->Prop,∀i x,l i x↔¬∃d,s.2.2.2.1[i]?=some d/\x.2.2.2.2.2.2.1=true/\x.2.2.2.2.2.1=0/\x.2.2.2.2.1=(d.length:Int)/\x.2.2.2.1=rq d/\Ah d/\(cS s.2.2.1 s.2.2.2.1 x.1).2=0:=⟨_,λ_ _=>Iff.rfl⟩;rcases pT (f:=mw (s,())) s.2.2.1 (λi=>((false,i,()),())) (λi x=>decide (l i x)) (λi x=>(1,(false,(i:Int),()),())) (0,(false,len s.2.2.1,()),()) (by omega) (λi x c o y=>by
    obtain⟨d,a⟩:∃d,s.2.2.2.1[i]?=some d:=⟨_,gH (show i<s.2.2.2.1.length by omega)⟩;have C:=B d (eF a);unfold mw;dsimp only;rw[aq o,ab,aq (by omega),ab,ar c,aa,ar a,aa,aa,Ft d (by omega),aa,aa,Af d,aa,U6 s x.1 (by omega),aa,y];dsimp only;have m:l i x↔¬(x.2.2.2.2.2.2.1=true/\x.2.2.2.2.2.1=0/\x.2.2.2.2.1=(d.length:Int)/\x.2.2.2.1=rq d/\Ah d/\(cS s.2.2.1 s.2.2.2.1 x.1).2=0):=by
     rw[j];constructor
     .intro h q;exact h ⟨d,a,q⟩
     .rintro h ⟨D,e,q⟩;rw[a] at e;obtain rfl:=aG e;exact h q
    by_cases p:x.2.2.2.2.2.2.1=true
    rotate_left
    .rw[aV<|eu<|m.2 λq=>p q.1,show x.2.2.2.2.2.2.1=false by simpa using p];rfl
    rw[p,aE,af];by_cases r:x.2.2.2.2.2.1=0
    .rw[aT r,aE,af];by_cases t:x.2.2.2.2.1=(d.length:Int)
     .rw[show aZ x.2.2.2.2.1 (@len UInt8 d)=true from aT t,aE,af,oc];by_cases u:x.2.2.2.1=rq d
      .rw[eu u,aE,af];by_cases v:Ah d
       .rw[aV<|show(Bg d).2=0/\jF (Bg d).1=true from v,show nt (aZ (0:Int) 0)=false from rfl,af];by_cases w:(cS s.2.2.1 s.2.2.2.1 x.1).2=0
        .rw[aT w,aE,af,aX (by rw[FW];exact λq=>m.1 q ⟨p,r,t,u,v,w⟩)]
        .rw[aN w,az,ab,aV (eu<|m.2 λq=>w q.2.2.2.2.2)]
       .rw[aX<|show ¬((Bg d).2=0/\jF (Bg d).1=true) from v,show nt (aZ (10:Int) 0)=true from rfl,ab,aV (eu<|m.2 λq=>v q.2.2.2.2.1)]
      .rw[cU u,az,ab,aV (eu<|m.2 λq=>u q.2.2.2.1)]
     .rw[show aZ x.2.2.2.2.1 (@len UInt8 d)=false from aN t,az,ab,aV (eu<|m.2 λq=>t q.2.2.1)]
    .rw[aN r,az,ab,aV (eu<|m.2 λq=>r q.2.1)]) (by
    unfold mw;dsimp only;rw[aC,af,af];rfl) with ⟨i,x,c,z,_,h⟩|⟨A,h⟩
   .rw[h,aa];refine⟨false,rfl,λq=>(by cases q),λq=>?_⟩;obtain⟨d,a⟩:∃d,s.2.2.2.1[i]?=some d:=⟨_,gH (show i<s.2.2.2.1.length by have:=aD c;omega)⟩;exact absurd ⟨d,a,q.each i x d c a⟩ ((j i x).1<|kH z)
   .rw[h,aa];refine⟨true,rfl,λ_=>⟨g,k,λi x d c a=>?_⟩,λ_=>rfl⟩;have:=A i x c;simp only[GK,j,Classical.not_not] at this;obtain⟨D,e,q⟩:=this;rw[a] at e;obtain rfl:=aG e;exact q
  .rw[aX k,show nt (aZ (2:Int) 0)=true from rfl,ab];exact⟨false,rfl,λq=>(by cases q),λq=>absurd q.chain k⟩
 .rw[aN<|show @len Tx s.2.2.2.1≠@len ax s.2.2.1 by unfold len;omega,az,aE,af,aa,ab];exact⟨false,rfl,λq=>(by cases q),λq=>absurd q.same g⟩
structure Wo (s:bJ):Prop where
 ll:s.2.2.1.length<=40
 il:s.2.1.length<=40
 bl:s.1.length<=40
 xl:∀x∈s.2.2.1,BdL x
 xi:∀x∈s.2.1,BdI x
 xb:∀x∈s.1,BdB x
 dl:∀d∈s.2.2.2.1,d.length<=8192
 ml:s.2.2.2.2.1.length<=1000000
theorem Wo.afM{s:bJ}(h:Wo s):BdX (0,s.2.2.1,[],[],()) :=
 ⟨⟨h.ll,λx a=>(h.xl x a).2.2.1,by simp,λx a=>(by cases a),by simp,λx a=>(by cases a)⟩,h.xl,λx a=>(by cases a),λx a=>(by cases a)⟩
theorem Wo.afN{s:bJ}(h:Wo s):BdX (0,[],s.2.1,[],()) :=
 ⟨⟨by simp,λx a=>(by cases a),h.il,λx a=>(h.xi x a).2.1,by simp,λx a=>(by cases a)⟩,λx a=>(by cases a),h.xi,λx a=>(by cases a)⟩
theorem Wo.afO{s:bJ}(h:Wo s):BdX (0,[],[],s.1,()) :=
 ⟨⟨by simp,λx a=>(by cases a),by simp,λx a=>(by cases a),h.bl,λx a=>(h.xb x a).2.1⟩,λx a=>(by cases a),λx a=>(by cases a),h.xb⟩
def N8(s:bJ)(x:nu):Prop:=x.2.2.1=[]\/∃y∈s.2.2.1,y.1=x.2.2.1
def xy(s:bJ)(x:zK):Prop:=(x.2.2.1=[]\/∃y∈s.2.1,y.1=x.2.2.1)/\∃y∈s.2.2.1,y.1=x.2.2.2.1
def PQ(s:bJ)(x:fI):Prop:=(∃y∈s.2.2.1,y.1=x.1)/\1<=x.2.1/\x.2.1<=1000
structure Wp (s:bJ):Prop where
 b:ya 1 (0,[],[],s.1,())
 i:ya 2 (0,[],s.2.1,[],())
 l:ya 3 (0,s.2.2.1,[],[],())
 lays:Ai s.2.2.1 s.2.2.2.1
 aeq:s.2.2.2.2.1.length<=32
 tops:∀x∈s.2.1,N8 s x
 refs:∀x∈s.1,xy s x
 mts:∀x∈s.2.2.2.2.1,PQ s x
 ady:(s.2.2.2.2.1.map (·.1)).Pairwise λx y=>gf x y=true
theorem aer{p:Prop}[Decidable p](h:p):¬decide (¬p)=true:=by simpa using h
theorem aes{p:Prop}[Decidable p](h:¬p):decide (¬p)=true:=eu h
theorem aa7(s:bJ)(x:zK)(b:s.2.1.length<=1000000)(c:Bool):∃q,Loop (nk (s,()) x) ((c,(0:Int),()),())=some ((c||s.2.1.any (λy=>decide (y.1=x.2.2.1)),q),()):=by
 obtain⟨t,_,h,d⟩:=AV (f:=nk (s,()) x) s.2.1 (λ(c:Bool) i=>((c,i,()),())) (λc _ y=>c||decide (y.1=x.2.2.1)) (λc=>((c,(s.2.1.length:Int),()),())) (λ_ _=>True) (by omega) (λc i y e b g _=>by
  refine⟨?_,trivial⟩;unfold nk;dsimp only;rw[aq b,ab,g];cases c with
  | true=>rfl
  | false =>
    rw[af,ar e,aa,oc];by_cases q:y.1=x.2.2.1<;>simp[q,dK]) (λc _=>by
  unfold nk;dsimp only;rw[aC,af];rfl) c trivial
 refine⟨((s.2.1.length:Int),()),h.trans ?_⟩;have:t=(c||s.2.1.any λy=>decide (y.1=x.2.2.1)):=by
  rw[d];have key:∀(l:List nu) (k:Nat) (c:Bool),(l.zipIdx k).foldl (λa p=>a||decide (p.1.1=x.2.2.1)) c=(c||l.any λy=>decide (y.1=x.2.2.1)):=by
   intro l;induction l with
   | nil=>intro k c;simp
   | cons y r j=>intro k c;rw[List.zipIdx_cons,Qt,j];simp[Vx]
  exact key _ _ _
 rw[this]
open Classical in
theorem Yu(s:bJ)(h:Wo s):∃b,sz (s,())=some (b,())/\(b=true↔Wp s):=by
 have U:=h.ll;obtain⟨V,W,N⟩:=zU 1 (0,[],[],s.1,()) (.inl rfl) rfl h.afO;obtain⟨X,Y,O⟩:=zU 2 (0,[],s.2.1,[],()) (.inr<|.inl rfl) rfl h.afN;obtain⟨Z,c3,P⟩:=zU 3 (0,s.2.2.1,[],[],()) (.inr<|.inr rfl) rfl h.afM;obtain⟨Q,c4,R⟩:=PO s (by omega) h.dl;have H:ba (32:Int) (@len fI s.2.2.2.2.1)=decide (32<s.2.2.2.2.1.length):=by unfold ba len;apply jV.2;omega
 unfold sz;dsimp only;rw[W,aa,Ct (by rw[Y,aa]),Ct (by rw[c3,aa]),Ct (by rw[c4,aa]),H];by_cases p:V=0
 rotate_left
 .rw[aN p];exact⟨false,rfl,λq=>(by cases q),λq=>absurd (N.2 q.b) p⟩
 by_cases u:X=0
 rotate_left
 .rw[aT p,aN u];exact⟨false,rfl,λq=>(by cases q),λq=>absurd (O.2 q.i) u⟩
 by_cases A:Z=0
 rotate_left
 .rw[aT p,aT u,aN A];exact⟨false,rfl,λq=>(by cases q),λq=>absurd (P.2 q.l) A⟩
 by_cases B:Q=true
 rotate_left
 .have:Q=false:=by simpa using B
  rw[aT p,aT u,aT A,this];exact⟨false,rfl,λq=>(by cases q),λq=>absurd (R.2 q.lays) B⟩
 by_cases S:32<s.2.2.2.2.1.length
 .rw[aT p,aT u,aT A,B,eu S];exact⟨false,rfl,λq=>(by cases q),λq=>by have:=q.aeq;omega⟩
 rw[aT p,aT u,aT A,B,cU S];rw[show aj (nt<|!(nt<|!(nt<|!(nt<|nt true)||nt true)||nt true)||nt true) false true=false from rfl,af];have e:∀id,lf (s,id,())=some (zb s.2.2.1 id,()):=λid=>KA s id (by omega);have g:∀id,ba (zb s.2.2.1 id) 0=decide (¬∃y∈s.2.2.1,y.1=id):=λid=>by unfold ba;exact jV.2 aa6
 rcases pT (f:=qs (s,())) s.2.1 (λi=>((false,i,()),())) (λ_ x=>decide (¬N8 s x)) (λi x=>(1,(false,(i:Int),()),())) (0,(false,len s.2.1,()),()) (by have:=h.il;omega) (λi x d j r=>by
  unfold qs;dsimp only;rw[aq j,ab,ar d,aa,oc,r];by_cases q:x.2.2.1=[]
  .rw[eu q,aE,af,aX (aer<|show N8 s x from .inl q)]
  .rw[cU q,az,ab,aa,e,aa,g];by_cases z:∃y∈s.2.2.1,y.1=x.2.2.1
   .rw[cU<|λw=>w z,af,aX (aer<|show N8 s x from .inr z)]
   .rw[eu z,ab,aV (aes<|show ¬N8 s x by rintro(w|w);exact q w;exact z w)]) (by
  unfold qs;dsimp only;rw[aC,af];rfl) with ⟨i,x,d,C,_,m⟩|⟨D,m⟩
 .rw[m,aa];exact⟨false,rfl,λq=>(by cases q),λq=>absurd (q.tops x<|eF d) (kH C)⟩
 have t1:∀x∈s.2.1,N8 s x:=λx d=>by
  obtain⟨i,j⟩:=bR.1 d;have:=D i x j;simpa using this
 rw[m,aa];dsimp only;rw[bV,ab];rcases pT (f:=qt (s,())) s.1 (λi=>((false,i,()),())) (λ_ x=>decide (¬xy s x)) (λi x=>(1,(false,(i:Int),()),())) (0,(false,len s.1,()),()) (by have:=h.bl;omega) (λi x d j r=>by
  obtain⟨q,hq⟩:=aa7 s x (by have:=h.il;omega) (bw x.2.2.1 []);unfold qt;dsimp only;rw[aq j,ab,ar d,aa,hq,aa,r];dsimp only;rw[Ct<|by rw[e,aa,g]];have I:(bw x.2.2.1 []||s.2.1.any λy=>decide (y.1=x.2.2.1))=decide (x.2.2.1=[]\/∃y∈s.2.1,y.1=x.2.2.1):=by
   rw[oc,Bool.decide_or]
   congr 1
   rw[EH,Za,FW];simp
  rw[I];by_cases n:x.2.2.1=[]\/∃y∈s.2.1,y.1=x.2.2.1
  .by_cases t:∃y∈s.2.2.1,y.1=x.2.2.2.1
   .rw[eu n,cU (λw=>w t),aX (aer<|show xy s x from⟨n,t⟩)];rfl
   .rw[eu n,eu t,aV (aes<|show ¬xy s x from λw=>t w.2)];rfl
  .rw[cU n,aV (aes<|show ¬xy s x from λw=>n w.1)];rfl) (by
  unfold qt;dsimp only;rw[aC,af];rfl) with ⟨i,x,d,C,_,m⟩|⟨D,m⟩
 .rw[m,aa];exact⟨false,rfl,λq=>(by cases q),λq=>absurd (q.refs x<|eF d) (kH C)⟩
 have t2:∀x∈s.1,xy s x:=λx d=>by
  obtain⟨i,j⟩:=bR.1 d;have:=D i x j;simpa using this
 rw[m,aa];dsimp only;rw[bV,ab];obtain⟨v,c⟩:∃v:Nat->fI->Prop,∀i x,v i x↔¬(PQ s x/\∀(k:Nat) (y:fI),k+1=i->s.2.2.2.2.1[k]?=some y->gf y.1 x.1=true):=⟨_,λ_ _=>Iff.rfl⟩;rcases pT (f:=qu (s,())) s.2.2.2.2.1 (λi=>((false,i,()),())) (λi x=>decide (v i x)) (λi x=>(1,(false,(i:Int),()),())) (0,(false,len s.2.2.2.2.1,()),()) (by have:=h.ml;omega) (λi x d j r=>by
  unfold qu;dsimp only;rw[aq j,ab,ar d,aa,e,aa,g,r];by_cases n:∃y∈s.2.2.1,y.1=x.1
  rotate_left
  .rw[eu n,ab,aV (eu<|(c i x).2 λw=>n w.1.1)]
  rw[cU<|λw=>w n,af];by_cases t:1<=x.2.1
  rotate_left
  .rw[aJ<|by omega,ab,aV (eu<|(c i x).2 λw=>t w.1.2.1)]
  rw[aA<|by omega,af];by_cases J:x.2.1<=1000
  rotate_left
  .rw[aJ<|by omega,ab,aV (eu<|(c i x).2 λw=>J w.1.2.2)]
  rw[aA<|by omega,af];cases i with
  | zero =>
    rw[show ba (0:Int) ((0:Nat):Int)=false from rfl,af,aX (by rw[FW,c];exact λw=>w ⟨⟨n,t,J⟩,λk y K=>by omega⟩)]
  | succ k =>
    obtain⟨y,E⟩:∃y,s.2.2.2.2.1[k]?=some y:=⟨_,gH (show k<s.2.2.2.2.1.length by omega)⟩;rw[aJ<|by omega,ab,dx (by omega) (by omega),show((k+1:Nat):Int)-1=(k:Int) by omega,ar E,aa];by_cases G:gf y.1 x.1=true
    .rw[G,aE,af,aX (by
     rw[FW,c];refine λw=>w ⟨⟨n,t,J⟩,λk' y' K F=>?_⟩;obtain rfl:k'=k:=by omega
     rw[E] at F;obtain rfl:=aG F;exact G)]
    .rw[show gf y.1 x.1=false by simpa using G,az,ab,aV (eu<|(c _ x).2 λw=>G (w.2 k y rfl E))]) (by
  unfold qu;dsimp only;rw[aC,af];rfl) with ⟨i,x,d,C,_,m⟩|⟨D,m⟩
 .rw[m,aa];refine⟨false,rfl,λq=>(by cases q),λq=>absurd ⟨q.mts x<|eF d,λk y K E=>?_⟩ ((c i x).1<|kH C)⟩;subst K;exact J7.1 q.ady k y.1 x.1 (by rw[wH,E];rfl) (by rw[wH,d];rfl)
 rw[m,aa];have o:∀(i:Nat) (x:fI),s.2.2.2.2.1[i]?=some x->PQ s x/\∀(k:Nat) (y:fI),k+1=i->s.2.2.2.2.1[k]?=some y->gf y.1 x.1=true:=λi x d=>by
  have:=D i x d;simp only[GK,c,Classical.not_not] at this;exact this
 refine⟨true,rfl,λ_=>⟨N.1 p,O.1 u,P.1 A,R.1 B,by omega,t1,t2,λx d=>?_,J7.2 λi a b r T=>?_⟩,λ_=>rfl⟩
 .obtain⟨i,j⟩:=bR.1 d;exact(o i x j).1
 .rw[wH] at r T;obtain⟨a',L,rfl⟩:=r9.1 r;obtain⟨b',M,rfl⟩:=r9.1 T;exact(o (i+1) b' M).2 i a' rfl L
theorem KC{b:Type}{p:b->Bool}:∀{l:List b} {x:b},x∈l.takeWhile p->p x=true:=by
 intro l;induction l with
 | nil=>intro x h;cases h
 | cons a r c =>
   intro x h;rw[Ir] at h;split at h
   .rename_i d;rcases gd.1 h with rfl|h
    .exact d
    .exact c h
   .cases h
section
variable {α:Type} (key:α->Tx)
def qB(l:List α)(x:α):List α:=l.takeWhile (λy=>gf (key y) (key x))++[x]++l.dropWhile (λy=>gf (key y) (key x))
def cK(l:List α)(p:Tx):Nat:=(l.takeWhile λy=>gf (key y) p).length
def CA(l:List α):Prop:=(l.map key).Pairwise λx y=>gf x y=true
theorem ud(l:List α)(p:Tx):cK key l p<=l.length:=by
 unfold cK;have:=congrArg List.length (Lg (p:=λy:α=>gf (key y) p) (l:=l));rw[gI] at this;omega
theorem yi(l:List α)(x:α):l.take (cK key l<|key x)=l.takeWhile (λy=>gf (key y) (key x))/\l.drop (cK key l<|key x)=l.dropWhile (λy=>gf (key y) (key x)):=by
 have e:=Lg (p:=λy:α=>gf (key y) (key x)) (l:=l);refine⟨?_,?_⟩
 .unfold cK
  conv=>lhs;rw[<-e]
  rw[CK];rw[e]
 .unfold cK
  conv=>lhs;rw[<-e]
  rw[CI];rw[e]
theorem KD(l:List α)(x:α)(a:l.length<=1000000):Fc l ((cK key l (key x):Nat):Int) [x]=some (qB key l x):=by
 have b:=ud key l (key x);unfold Fc qB;rw[show inside 0 ((cK key l (key x):Nat):Int) (len l)=true from aP (by decide) (by omega) (by unfold len;omega),bP (by simp only[dh,eG];omega)];rw[sQ,(yi key l x).1,(yi key l x).2];rfl
theorem KE{S R:Type}{f:S->Option (S⊕R)}(l:List α)(p:Tx)(z:l.length<=1000000)(g:Int->S)(c:Nat->R)(d:R)
  (t:∀(i:Nat) (y:α),l[i]?=some y->f (g (i:Int))=some (if gf (key y) p=true then .inl (g ((i+1:Nat):Int)) else .inr (c i))) (u:f (g (l.length:Int))=some (.inr d)) :
  Loop f (g 0)=some (if cK key l p<l.length then c (cK key l p) else d):=by
 have m:∀k:Nat,k<=l.length->(∀(j:Nat) (y:α),j<k->l[j]?=some y->gf (key y) p=true)->(∀y,l[k]?=some y->gf (key y) p=false)->cK key l p=k:=by
  intro k n o q;have e:l.takeWhile (λy=>gf (key y) p)=l.take k:=by
   clear t u
   revert k
   induction l with
   | nil=>intro k n _ _;simp
   | cons a r A =>
     intro k n o q;cases k with
     | zero=>rw[Ir,q a rfl];rfl
     | succ k =>
       rw[Ir,o 0 a (by omega) rfl,aV rfl,Vp,A (by simp at z;omega) k (by simp at n;omega) (λj y v b=>o (j+1) y (by omega) b) λy b=>q y b]
  unfold cK;rw[e,fT];omega
 rcases pT (f:=f) l g (λ_ y=>!gf (key y) p) (λi _=>c i) d (by omega) (λi y b w D=>by
  rw[t i y b];cases gf (key y) p<;>rfl) u with ⟨i,x,hx,B,v,h⟩|⟨C,h⟩
 .have w:=aD hx;have:=m i (by omega) (λj y s b=>by simpa using v j y s b) (λy b=>by
   rw[hx] at b;obtain rfl:=aG b;simpa using B)
  rw[h,this,aV w]
 .have:=m l.length (bZ _) (λj y _ b=>by simpa using C j y b) (λy b=>by rw[Oh<|bZ _] at b;cases b);rw[h,this,aX (by omega)]
theorem FI(l:List α)(x:α):(qB key l x).Perm (x::l):=by
 unfold qB;have e:=Lg (p:=λy:α=>gf (key y) (key x)) (l:=l);have h:(l.takeWhile (λy=>gf (key y) (key x))++[x]++l.dropWhile λy=>gf (key y) (key x)).Perm (x::(l.takeWhile (λy=>gf (key y) (key x))++l.dropWhile λy=>gf (key y) (key x))):=by
  rw[kP];exact List.perm_middle
 rw[e] at h;exact h
theorem KF{l:List α}{x y:α}:y∈qB key l x↔y=x\/y∈l:=by rw[(FI key l x).mem_iff,gd]
theorem KG(l:List α)(x:α):(qB key l x).length=l.length+1:=by rw[(FI key l x).length_eq,dh]
theorem CA.inj{l:List α}(h:CA key l){x y:α}(f:x∈l)(g:y∈l)(e:key x=key y):x=y:=by
 unfold CA at h;rw[Vs] at h;obtain⟨i,a⟩:=bR.1 f;obtain⟨j,b⟩:=bR.1 g;have c:=aD a;have d:=aD b;rw[gH c] at a;rw[gH d] at b;obtain rfl:=aG a;obtain rfl:=aG b;rcases MT i j with q|q|q
 .have:=ED.1 h i j c d q;rw[e,jS] at this;cases this
 .subst q;rfl
 .have:=ED.1 h j i d c q;rw[e,jS] at this;cases this
theorem PR{l:List α}(h:CA key l){x:α}(g:∀y∈l,key y≠key x):CA key (qB key l x):=by
 unfold CA at h⊢;rw[Vs] at h⊢;unfold qB;have e:=Lg (p:=λy:α=>gf (key y) (key x)) (l:=l);have hA:∀y∈l.takeWhile (λy=>gf (key y) (key x)),gf (key y) (key x)=true:=λy c=>KC (p:=λy=>gf (key y) (key x)) c;have i:∀y∈l.dropWhile (λy=>gf (key y) (key x)),gf (key x) (key y)=true:=by
  clear e hA;induction l with
  | nil=>intro y c;cases c
  | cons a r j =>
    intro y c;rw[FU] at c;rw[Iu] at h;split at c
    .exact j h.2 (λz k=>g z (oh _ k)) y c
    .rename_i m;have d:gf (key x) (key a)=true:=by
      rcases AU (key a) (key x) with q|q|q
      .exact absurd q m
      .exact absurd q (g a<|mJ ..)
      .exact q
     rcases gd.1 c with rfl|c
     .exact d
     .exact AR d (h.1 y c)
 rw[<-e] at h;rw[List.pairwise_append] at h;obtain⟨n,o,s⟩:=h;rw[kP,List.pairwise_append];refine⟨n,?_,λa d b f=>?_⟩
 .rw[YX,Iu];exact⟨i,o⟩
 .rw[YX] at f;rcases gd.1 f with rfl|f
  .exact hA a d
  .exact s a d b f
def YJ(l:List α)(p:Tx):List α:=l.filter λx=>decide (key x≠p)
theorem acJ{l:List α}{p:Tx}{x:α}:x∈YJ key l p↔x∈l/\key x≠p:=by unfold YJ;rw[vX,FW]
theorem acK(l:List α)(p:Tx):(YJ key l p).Sublist l:=List.filter_sublist
theorem SI{l:List α}{p:Tx}(h:∀x∈l,key x≠p):YJ key l p=l:=by
 unfold YJ;rw[Im];intro x a;exact eu (h x a)
end
abbrev afP:=Int×Tx×Int×Tx×ah
def afQ(id:Tx):afP:=(0,id,0,[],())
def nmL(s:bJ):List Nm:=s.2.2.1.flatMap ofL
structure HdS (s:bJ):Prop where
 ll:s.2.2.1.length<=40
 il:s.2.1.length<=40
 bl:s.1.length<=40
 ln:∀x∈s.2.2.1,vg x.2.2.1
 qL:∀x∈s.2.1,vg x.2.1
 bn:∀x∈s.1,vg x.2.1
 it:∀x∈s.2.1,D5 x.2.2.2.2.1
theorem Wo.hd{s:bJ}(h:Wo s):HdS s:=⟨h.ll,h.il,h.bl,λx a=>(h.xl x a).2.2.1,λx a=>(h.xi x a).2.1,λx a=>(h.xb x a).2.1,λx a=>(h.xi x a).2.2.2⟩
theorem Yv(l:List Tx)(h:l.length<=4294967296):cg (l,())=some (l,()):=JX l h
theorem yj(l:List Tx)(h:l.length<=4294967296):eh (l,l,())=some (true,()):=by rw[Hz l l h,eu rfl]
theorem KH(l:List Item)(h:D5 l):gm (l,l,())=some (true,()):=J4 l (by have:=h.1;omega)
theorem yk(a:Tx):bw a a=true:=eu rfl
theorem A3{b:Type}{f:(Bool×Int×ah)×ah->Option (((Bool×Int×ah)×ah)⊕(Nat×(Bool×Int×ah)×ah))}(l:List b)(e:l.length<=1000000)
  (c:∀(i:Nat) (x:b),l[i]?=some x->x∈l->i<l.length->f ((false,(i:Int),()),())=some (.inl ((false,aB .i64 (i:Int) 1,()),()))) (d:f ((false,(l.length:Int),()),())=some (.inr (0,(false,(l.length:Int),()),()))) :
  Loop f ((false,(0:Int),()),())=some (0,(false,(l.length:Int),()),()) :=
 cP l.length (λj:Nat=>((false,(j:Int),()),())) (λj a=>by
  have hx:l[j]?=some l[j]:=gH a;rw[c j l[j] hx (Zb a) a,aK (by omega)]) d
theorem U7(l:List zK)(b:l.length<=1000000)(h:∀x∈l,vg x.2.1/\D5 x.2.2.2.2.2.1):mx (l,l,())=some (true,()):=by
 unfold mx;dsimp only;rw[gx,aE,af,A3 (f:=jA (l,l,())) l b (λi x c a d=>by
  unfold jA;dsimp only;rw[aq d,ab,ar c,aa,aa];simp only[yk,ab,af,aE,az,aa,yj _ (h x a).1.small,KH _ (h x a).2]) (by unfold jA;dsimp only;rw[aC,af];rfl),aa]
 rfl
theorem SJ(l:List nu)(b:l.length<=1000000)(h:∀x∈l,vg x.2.1/\D5 x.2.2.2.2.1):lg (l,l,())=some (true,()):=by
 unfold lg;dsimp only;rw[gx,aE,af,A3 (f:=iO (l,l,())) l b (λi x c a d=>by
  unfold iO;dsimp only;rw[aq d,ab,ar c,aa,aa];simp only[yk,ab,af,aE,az,aa,yj _ (h x a).1.small,KH _ (h x a).2]) (by unfold iO;dsimp only;rw[aC,af];rfl),aa]
 rfl
theorem GB(l:List ax)(a:l.length<=1000000)(h:∀x∈l,x.2.2.1.length<=4294967296):iA (l,l,())=some (true,()):=by
 unfold iA;dsimp only;rw[gx,aE,af,A3 (f:=iP (l,l,())) l a (λi x b c d=>by
  unfold iP;dsimp only;rw[aq d,ab,ar b,aa,aa];have eb:WD x.2.2.2.2.2.2.1 x.2.2.2.2.2.2.1=true:=by unfold WD;simp
  simp only[yk,gx,eb,ab,af,aE,az,aa,yj _ (h x c)]) (by unfold iP;dsimp only;rw[aC,af];rfl),aa]
 rfl
theorem SK(l:List fI)(a:l.length<=1000000):lh (l,l,())=some (true,()):=by
 unfold lh;dsimp only;rw[gx,aE,af,A3 (f:=iQ (l,l,())) l a (λi x b d c=>by
  unfold iQ;dsimp only;rw[aq c,ab,ar b,aa,aa];simp only[yk,gx,ab,af,aE,az];rfl) (by unfold iQ;dsimp only;rw[aC,af];rfl),aa]
 rfl
theorem SL(s:bJ)(h:Wo s)(b:s.2.2.2.1.length<=1000000):tO (s,s,())=some (true,()):=by
 unfold tO;dsimp only;rw[U7 _ (by have:=h.bl;omega)<|λx a=>⟨(h.xb x a).2.1,(h.xb x a).2.2.2.2⟩,aa];dsimp only;rw[ab,SJ _ (by have:=h.il;omega) (λx a=>⟨(h.xi x a).2.1,(h.xi x a).2.2.2⟩),aa,aa,ab,GB _ (by have:=h.ll;omega) (λx a=>(h.xl x a).2.2.1.small),aa,aa,ab,yj _ (by omega),aa,aa,ab,SK _ h.ml,aa];rfl
theorem Wp.upL{s:bJ}(h:Wp s):CA (·.1) s.2.2.1:=by
 have:=h.l.ids;unfold R8 at this;simpa [CA] using this
theorem KI:¬J3 []:=λh=>by have:=h.2;cases this
structure BkS (s:bJ):Prop where
 il:∀x∈s.2.1,x.1.length<=1048576/\x.2.2.1.length<=1048576
 bl:∀x∈s.1,x.1.length<=1048576/\x.2.2.1.length<=1048576/\x.2.2.2.1.length<=1048576
 dg:∀x∈s.2.2.1,x.2.2.2.1.length<=1048576
theorem aaJ.bd{s:bJ}(h:aaJ s)(k:BkS s):Wo s where
 ll:=h.base.ll
 il:=h.base.il
 bl:=h.base.bl
 xl:=λx a=>⟨by have:=h.ids x a;omega,by have:=h.ids x a;omega,h.base.ln x a,k.dg x a⟩
 xi:=λx a=>⟨(k.il x a).1,h.base.qL x a,(k.il x a).2,(h.base.im x a).2⟩
 xb:=λx a=>⟨(k.bl x a).1,h.base.bn x a,(k.bl x a).2.1,(k.bl x a).2.2,(h.base.bm x a).2⟩
 dl:=h.ah6
 ml:=by have:=h.mts;omega
end Go.Ge
namespace Go.Ge
abbrev PT:Ty:=.pair .str (.pair .str<|.pair .str .unit)
abbrev N9:Ty:=.pair .str (.pair (.slice .str)<|.pair .str<|.pair .str<|.pair .str<|.pair (.slice PT) .unit)
abbrev A4:Ty:=.pair .str (.pair (.slice .str)<|.pair .str<|.pair .str<|.pair (.slice PT) .unit)
abbrev vN:Ty:=.pair .str (.pair .str<|.pair (.slice .str)<|.pair .str<|.pair (.int .i64)<|.pair (.int .i64)<|.pair .bool .unit)
abbrev Wq:Ty:=.pair .str (.pair (.int .i64) .unit)
abbrev acL:Ty:=.pair (.slice N9) (.pair (.slice A4)<|.pair (.slice vN)<|.pair (.slice .str)<|.pair (.slice Wq) .unit)
theorem KJ{b:Type}{f:b->Nat}{l:List b}{x:b}(h:x∈l):f x<=qN f l:=by
 induction l with
 | nil=>cases h
 | cons a r c =>
   unfold qN;rcases gd.1 h with rfl|h
   .omega
   .have:=c h;omega
theorem aet{s:bJ}(h:acL.bulk s<=1048576):BkS s:=by
 obtain⟨b,c,d,i,j,u⟩:=s;have k:(qN N9.bulk b+1)+((qN A4.bulk c+1)+((qN vN.bulk d+1)+((qN Ty.str.bulk i+1)+((qN Wq.bulk j+1)+0))))<=1048576:=h;refine⟨λx a=>?_,λx a=>?_,λx a=>?_⟩
 .have e:A4.bulk x<=qN A4.bulk c:=KJ (f:=A4.bulk) a;have g:A4.bulk x=(x.1.length+1)+((qN Ty.str.bulk x.2.1+1)+((x.2.2.1.length+1)+((x.2.2.2.1.length+1)+((qN PT.bulk x.2.2.2.2.1+1)+0)))):=rfl;omega
 .have e:N9.bulk x<=qN N9.bulk b:=KJ (f:=N9.bulk) a;have g:N9.bulk x=(x.1.length+1)+((qN Ty.str.bulk x.2.1+1)+((x.2.2.1.length+1)+((x.2.2.2.1.length+1)+((x.2.2.2.2.1.length+1)+((qN PT.bulk x.2.2.2.2.2.1+1)+0))))):=rfl;omega
 .have e:vN.bulk x<=qN vN.bulk d:=KJ (f:=vN.bulk) a;have g:vN.bulk x=(x.1.length+1)+((x.2.1.length+1)+((qN Ty.str.bulk x.2.2.1+1)+((x.2.2.2.1.length+1)+(1+(1+(1+0)))))):=rfl;omega
variable [Lp]
theorem CA.idx{α:Type}{a:α->Tx}{l:List α}(h:CA a l){i j:Nat}{x y:α}(f:l[i]?=some x)(g:l[j]?=some y)(e:a x=a y):i=j:=by
 unfold CA at h;rw[Vs] at h;obtain⟨b,rfl⟩:=fU.1 f;obtain⟨c,rfl⟩:=fU.1 g;have d:=ED.1 h;rcases MT i j with q|q|q
 .have:=d i j b c q;rw[e,jS] at this;cases this
 .exact q
 .have:=d j i c b q;rw[e,jS] at this;cases this
theorem Ii{a:List ax}(d:CA (·.1) a){i:Nat}{x:ax}(b:a[i]?=some x):A2 a x.1=some i:=by
 obtain⟨j,c⟩:=Ih.2 ⟨x,eF b,rfl⟩;obtain⟨y,e,f⟩:=yh c;rw[c,d.idx e b f]
theorem aeu{a:List ax}{id:Tx}(h:∀x∈a,x.1≠id):A2 a id=none:=Ag λi x b=>cU (h x<|eF b)
theorem u0{ls:List ax}{id:Tx}(h:∀x∈ls,x.1≠id)(n:Nat)(a:List ax):yV ls n id a=([],3):=by
 unfold yV;rw[aeu h]
theorem Ec{a:List ax}(c:CA (·.1) a){x:ax}(d:x∈a)(b:List ax):yV a 0 x.1 b=([],5):=by
 obtain⟨i,e⟩:=bR.1 d;unfold yV;rw[Ii c e]
theorem lQ{ls:List ax}(c:CA (·.1) ls){x:ax}(d:x∈ls)(n:Nat)(a:List ax):yV ls (n+1) x.1 a=if x.2.1=[] then(a++[x],0) else yV ls n x.2.1 (a++[x]):=by
 obtain⟨i,b⟩:=bR.1 d
 conv=>lhs;unfold yV
 rw[Ii c b];dsimp only;rw[b]
theorem acM{ls c:List ax}(g:CA (·.1) ls)(d:CA (·.1) c){q:Tx}(h:∀x:ax,x.1≠q->(x∈c↔x∈ls))(i:∀x∈ls,x.2.1=[]\/x.2.1≠q) :
  ∀(n:Nat) (id:Tx) (acc:List ax),id≠q->yV c n id acc=yV ls n id acc:=by
 intro n;induction n with
 | zero =>
   intro id acc b;by_cases hx:∃x∈ls,x.1=id
   .obtain⟨x,hx,rfl⟩:=hx;rw[Ec g hx,Ec d ((h x b).2 hx)]
   .rw[u0<|λx a e=>hx ⟨x,a,e⟩,u0 λx a e=>hx ⟨x,(h x<|by rw[e];exact b).1 a,e⟩]
 | succ n j =>
   intro id acc b;by_cases hx:∃x∈ls,x.1=id
   .obtain⟨x,hx,rfl⟩:=hx;rw[lQ g hx,lQ d ((h x b).2 hx)];by_cases f:x.2.1=[]
    .rw[aV f,aV f]
    .rw[aX f,aX f,j _ _ ((i x hx).resolve_left f)]
   .rw[u0<|λx a e=>hx ⟨x,a,e⟩,u0 λx a e=>hx ⟨x,(h x<|by rw[e];exact b).1 a,e⟩]
theorem FJ{ls:List ax}(d:CA (·.1) ls):∀(n:Nat) (id:Tx) (acc:List ax),(yV ls n id acc).2=0 ->
  ∃c,(yV ls n id acc).1=acc++c/\∀(m:Nat) (a:List ax),c.length<=m->yV ls m id a=(a++c,0):=by
 intro n;induction n with
 | zero =>
   intro id acc h;by_cases hx:∃x∈ls,x.1=id
   .obtain⟨x,hx,rfl⟩:=hx;rw[Ec d hx] at h;cases h
   .rw[u0 λx b e=>hx ⟨x,b,e⟩] at h;cases h
 | succ n i =>
   intro id acc h;by_cases hx:∃x∈ls,x.1=id
   .obtain⟨x,hx,rfl⟩:=hx;rw[lQ d hx] at h⊢;by_cases f:x.2.1=[]
    .rw[aV f] at h⊢;refine⟨[x],rfl,λm a g=>?_⟩;cases m with
     | zero=>cases g
     | succ m=>rw[lQ d hx,aV f]
    .rw[aX f] at h⊢;obtain⟨c,j,k⟩:=i _ _ h;refine⟨x::c,by rw[j];simp,λm a g=>?_⟩;cases m with
     | zero=>cases g
     | succ m =>
       rw[lQ d hx,aX f,k m _ (by simpa using g)];simp
   .rw[u0 λx b e=>hx ⟨x,b,e⟩] at h;cases h
theorem Oa{a:List ax}(c:CA (·.1) a){x:ax}(d:x∈a)(h:(b7 a x.1).2=0):x.2.1=[]\/∃y∈a,y.1=x.2.1:=by
 unfold b7 at h;rw[lQ c d] at h;by_cases b:x.2.1=[]
 .exact .inl b
 .rw[aX b] at h;right;apply ML;intro q;rw[u0 λy f e=>q ⟨y,f,e⟩] at h;cases h
def U8(ls:List ax)(a:List Tx)(x:ax)(d:Tx):Prop:=∃i:Nat,ls[i]?=some x/\a[i]?=some d
theorem Wr{a:List ax}{b:List Tx}{x:ax}{d:Tx}:U8 a b x d↔(x,d)∈a.zip b:=by
 unfold U8;rw[bR];constructor
 .rintro⟨i,c,e⟩;exact⟨i,by rw[YN];exact⟨c,e⟩⟩
 .rintro⟨i,h⟩;rw[YN] at h;exact⟨i,h.1,h.2⟩
theorem Ed{a c:List ax}{b f:List Tx}{x y:ax}{d e:Tx}(h:a.length=b.length):U8 (a++[x]++c) (b++[d]++f) y e↔(y=x/\e=d)\/U8 (a++c) (b++f) y e:=by
 rw[Wr,Wr,kP,kP,List.zip_append h,List.zip_append h];simp only[YX,List.zip_cons_cons,ra,gd,CL];constructor
 .rintro(q|q|q)
  .exact .inr (.inl q)
  .exact .inl q
  .exact .inr (.inr q)
 .rintro(q|q|q)
  .exact .inr (.inl q)
  .exact .inl q
  .exact .inr (.inr q)
theorem Ee{ls:List ax}{a:List Tx}(e:a.length=ls.length){x:ax}(c:x∈ls):∃d,U8 ls a x d:=by
 obtain⟨i,b⟩:=bR.1 c;have:=aD b;exact⟨a[i],i,b,gH (by omega)⟩
theorem U8.mem{ls:List ax}{a:List Tx}{x:ax}{d:Tx}(h:U8 ls a x d):x∈ls:=by
 obtain⟨i,b,_⟩:=h;exact eF b
theorem vO{a:List ax}{b:List Tx}(c:CA (·.1) a){x:ax}{d:Tx}(h:U8 a b x d):qA a b x.1=d:=by
 obtain⟨i,e,f⟩:=h;unfold qA;rw[Ii c e];dsimp only;rw[f];rfl
theorem Ob{ls a:List ax}{i b:List Tx}(o:CA (·.1) ls)(f:CA (·.1) a)(p:i.length=ls.length)(j:b.length=a.length){q:Tx}
  (h:∀(x:ax) (d:Tx),x.1≠q->(U8 a b x d↔U8 ls i x d)) (s:∀x∈ls,x.2.1=[]\/x.2.1≠q) (t:(∀x∈ls,x.1≠q)\/(∀x∈a,x.1≠q)) {id:Tx} (l:id≠q) :
  b7 a id=b7 ls id/\cS a b id=cS ls i id:=by
 have u:∀x:ax,x.1≠q->(x∈a↔x∈ls):=λx c=>by
  constructor
  .intro k;obtain⟨d,e⟩:=Ee j k;exact((h x d c).1 e).mem
  .intro k;obtain⟨d,e⟩:=Ee p k;exact((h x d c).2 e).mem
 have m:b7 a id=b7 ls id:=acM o f u s 16 id [] l;refine⟨m,?_⟩;unfold cS;rw[m];have:((b7 ls id).1.reverse.map λx=>qA a b x.1)=((b7 ls id).1.reverse.map λx=>qA ls i x.1):=by
  apply Il;intro x c;rw[Qr] at c;have r:=(ry (ls:=ls) (id:=id)).1 x c;have v:=(ry (ls:=a) (id:=id)).1 x (by rw[m];exact c);have n:x.1≠q:=t.elim (λg=>g x r) (λg=>g x v);obtain⟨d,e⟩:=Ee p r;rw[vO o e,vO f ((h x d n).2 e)]
 rw[this]
end Go.Ge
