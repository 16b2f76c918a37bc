import Derived.Test.YtgklgliokhbcnaaGreatDoorPlF
set_option linter.unusedSectionVars false
set_option linter.unusedVariables false
set_option linter.unusedSimpArgs false
set_option linter.defProp false
noncomputable section
open Option renaming some->aa,none->af
namespace Go.Ge
variable [Lp]
def RP{l:List Nd}{g:Nd->Bool}{i x}(b:l[i]?=aa x)(c:g x=true)(d:∀j y,j<i->l[j]?=aa y->g y=false):l.take i=(l.take<|i+1).filter (λx=>!g x):=by
 rw[xX];have e:(l.take i).filter (λx=>!g x)=l.take i:=Mf.2 λy a=>by
  obtain⟨j,f⟩:=bc.1 a
  grind
 grind
def ac9 l p (a:wX l) (c:p.length<=4096):(∃i x,l[i]?=aa x/\gone p x=true/\(∀(j:Nat) y,j<i->l[j]?=aa y->gone p y=false)/\Loop (lV (l,p,())) ((0,0,()),(),p,())=aa (1,((i:Int),(i:Int),()),(),p,())) \/
  ((∀(i:Nat) x,l[i]?=aa x->gone p x=false)/\Loop (lV (l,p,())) ((0,0,()),(),p,())=aa (0,(0,(l.length:Int),()),(),p,())) :=
 eE l (λi=>((0,i,()),_)) _ _ _ (by have:=a.1;omega) (λi x b d e=>by
  unfold lV;dsimp only;rw[al d,aG ah dR,ao b,ab,AP _ _ (by have:=(a.at b).1;omega) c,vI,e];unfold gone;cases decide (x.1=p)<;>cases ek _ _<;>rfl) (by unfold lV;rw[aq,ag])
def ada l p (d:wX l) (g:p.length<=4096) (i:Nat) x (hx:l[i]?=aa x) (h:gone p x=true) (a:∀j y,j<i->l[j]?=aa y->gone p y=false) :
  ∃(w:Nat) (L:List Nd),Loop (lW) ((i,aw IntKind.i64 i 1,(),()),(),p,l,())=aa (((w:Int),(l.length:Int),(),()),(),p,L,())/\L.length=l.length/\w<=l.length/\L.take w=qR l p:=by
 have hi:=av hx;have s:=d.1;obtain⟨w,L,k,e,m,n⟩:=HV (f:=lW) l _ (λw j L=>((w,j,_),(),p,L,())) (λw L=>((w,L.length,_),(),p,L,())) ah (λw j L x hx b t o q a=>by
  unfold lW;dsimp only;obtain⟨z,r⟩:∃z,L[w]?=aa z:=⟨_,ft ah⟩;have c:ak (nt<|bg x.1 p) (ae (dH (x.1,p,())) λy=>aa y.1) (aa true)=aa (gone p x):=by
   rw[AP _ _ (by have:=(d.at hx).1;omega) g,vI];unfold gone;cases decide (x.1=p)<;>rfl
  rw[al o,aG ah dR,ai,ao b,ab,c,ab,a];cases gone p x with
  | true=>rfl
  | false =>
    rw[ aG ah dR,ao r,q];rfl) (λw L=>by
  unfold lW;rw[aq];rfl) l.length i _ l ah ah ah rfl (RP hx h a) rfl
 refine⟨w,L,?_,e,m,n⟩;rw[aC ah,k,e]
def ZF l p (a:wX l) (c:p.length<=4096) (hv:Valid l):vo (l,p,())=aa (qR l p,()):=by
 obtain⟨e,f,g⟩:=mU l a;obtain rfl:=g.2 hv;unfold vo;dsimp only;rw[f,ab];rw[show nt _=false by rfl,ag,cK (by have:=a.1;omega),ai];rcases ac9 l p a c with ⟨i,x,b,k,d,h⟩|⟨d,h⟩
 .obtain⟨w,L,m,q,r,n⟩:=ada l p a c i x b k d;rw[h,ab];rw[hJ,ag,show aD i (-1)=false by exact cf ah,ag,m,ab];dsimp only;rw[aM ah dR<|uh _,ai,HW L w ah,aM (uh _) ah ah,ai,Dj L w ah,n]
 .have o:qR l p=l:=Mf.2 λx b=>by
   obtain⟨j,s⟩:=bc.1 b
   grind
  rw[h,ab,o];rw[cV,ai,show aD (-1) (-1)=true by rfl,ai]
def Oy(p:bb)(x:Nd):Bool:=ek (parts x.1) (parts p)
def adb l p (a:wX l) (c:p.length<=4096):(∃i x,l[i]?=aa x/\Oy p x=true/\(∀(j:Nat) y,j<i->l[j]?=aa y->Oy p y=false)/\Loop (nh (l,p,())) ((0,0,()),(),p,())=aa (1,((i:Int),(i:Int),()),(),p,())) \/
  ((∀(i:Nat) x,l[i]?=aa x->Oy p x=false)/\Loop (nh (l,p,())) ((0,0,()),(),p,())=aa (0,(0,(l.length:Int),()),(),p,())) :=
 eE l (λi=>((0,i,()),_)) _ _ _ (by have:=a.1;omega) (λi x b d e=>by
  unfold nh;dsimp only;rw[al d,aG ah dR,ao b,ab,AP _ _ (by have:=(a.at b).1;omega) c,e];unfold Oy;cases ek _ _<;>rfl) (by unfold nh;rw[aq,ag])
def ade l p (c:wX l) (e:p.length<=4096) (i:Nat) x (hx:l[i]?=aa x) (g:Oy p x=true) (a:∀j y,j<i->l[j]?=aa y->Oy p y=false) :
  ∃(w:Nat) (L:List Nd),Loop (ni) ((i,aw IntKind.i64 i 1,(),()),(),p,l,())=aa (((w:Int),(l.length:Int),(),()),(),p,L,())/\L.length=l.length/\w<=l.length/\L.take w=l.filter (λx=>!Oy p x):=by
 have hi:=av hx;have r:=c.1;obtain⟨w,L,h,d,k,m⟩:=HV (f:=ni) l _ (λw j L=>((w,j,_),(),p,L,())) (λw L=>((w,L.length,_),(),p,L,())) ah (λw j L x hx b s n o a=>by
  unfold ni;dsimp only;obtain⟨z,q⟩:∃z,L[w]?=aa z:=⟨_,ft ah⟩;rw[al n,aG ah dR,ai,ao b,ab,AP _ _ (by have:=(c.at hx).1;omega) e,ab,a];unfold Oy;cases ek _ _ with
  | true=>rfl
  | false =>
    rw[ aG ah dR,ao q,o];rfl) (λw L=>by
  unfold ni;rw[aq];rfl) l.length i _ l ah ah ah rfl (RP hx g a) rfl
 refine⟨w,L,?_,d,k,m⟩;rw[aC ah,h,d]
def Oz l p:kN l p false=l.filter (λx=>!Oy p x):=by
 unfold kN Oy
 grind
def adf l p (a:wX l) (c:p.length<=4096) (hv:Valid l):xj (l,p,())=aa (kN l p false,()):=by
 obtain⟨e,f,g⟩:=mU l a;obtain rfl:=g.2 hv;rw[Oz];unfold xj;dsimp only;rw[f,ab];rw[show nt _=false by rfl,ag,cK (by have:=a.1;omega),ai];rcases adb l p a c with ⟨i,x,b,k,d,h⟩|⟨d,h⟩
 .obtain⟨w,L,m,q,r,n⟩:=ade l p a c i x b k d;rw[h,ab];rw[hJ,ag,show aD i (-1)=false by exact cf ah,ag,m,ab];dsimp only;rw[aM ah dR<|uh _,ai,HW L w ah,aM (uh _) ah ah,ai,Dj L w ah,n]
 .have o:l.filter (λx=>!Oy p x)=l:=Mf.2 λx b=>by
   obtain⟨j,s⟩:=bc.1 b
   grind
  rw[h,ab,o];rw[cV,ai,show aD (-1) (-1)=true by rfl,ai]
def Dv l p (c:wX l) (hv:Valid l):pJ (l,p,())=aa (findF l p):=by
 obtain⟨e,d,g⟩:=pg l c;obtain rfl:=g.2 hv;unfold pJ;rcases Di l p c with ⟨i,x,f,a,h⟩|⟨b,h⟩
 .rw[h,ab,d];rw[ ao f,BI hv.ord (eG f) a];rfl
 .rw[h,d,F6 b];rfl
def ZG{n}(h:gm n=true):n.1.length<=92/\n.2.2.2.2.1.length<=100/\n.2.2.2.1.length<=8192:=by
 unfold gm at h;simp at h;have b:=h.1.1.1;have a:=h.2;unfold yH at b;simp at b;refine⟨b.1.1.2,?_⟩;unfold RH at a;split at a
 .have:=fy a;exact⟨by rw[this.1];simp,this.2⟩
 .split at a
  .have:=fy a;exact⟨by rw[this.1];simp,by rw[this.2];simp⟩
  .split at a
   .have:=fy a;exact⟨this.2.2.1,by rw[this.1];simp⟩
   .cases a
def fR{l}(h:Valid l):wX l:=⟨by have:=h.few;omega,λx a=>by
 have:=ZG (h.may x a);exact⟨ah,ah,ah⟩⟩
def W7{l}(h:Valid l) p:Valid (qR l p):=by
 refine⟨fB (UQ _ _) h.few,h.ord.filter _,λx d=>h.may x (Aj.1 d).1,λx d=>?_⟩;obtain⟨f,b⟩:=Aj.1 d;by_cases c:(bd x.1).1=[]
 .exact .inl c
 .rcases h.up x f with g|⟨y,i,e,k⟩
  .exact absurd g c
  .refine .inr ⟨y,Aj.2 ⟨i,?_⟩,e,k⟩;cases a:gone p y with
   | false=>rfl
   | true =>
     have:gone p x=true:=by
      unfold gone at a⊢;rw[Mk] at a⊢;rcases a with a|a
      .right;rw[<-fy a,e];exact F7 c
      .exact .inr (Ol c e a)
     rw[this] at b;cases b
def OA{l}(h:Valid l) p:Valid (kN l p false):=by
 refine⟨fB (UQ _ _) h.few,h.ord.filter _,λx b=>h.may x (Aj.1 b).1,λx b=>?_⟩;obtain⟨c,a⟩:=Aj.1 b;by_cases d:(bd x.1).1=[]
 .exact .inl d
 .rcases h.up x c with f|⟨y,g,e,k⟩
  .exact absurd f d
  .refine .inr ⟨y,Aj.2 ⟨g,?_⟩,e,k⟩;cases i:ek _ _ with
   | false=>rfl
   | true =>
     rw[Ol d e i] at a;cases a
def Ud l p:kN l p true=qR l p:=by
 unfold kN qR gone
 congr 1
 funext x;cases decide (x.1=p)<;>cases ek _ _<;>rfl
def yM p:Ko (bW p).2.1:=by
 have a:Ko []:=⟨λx c=>(by cases c),aT,(by simp[aS])⟩;unfold bW;split
 .rename_i b;dsimp only;split
  .rename_i d;exact(Jk b d).2
  .split
   .exact Eb (Dq b)
   .split
    .exact Dq b
    .exact a
 .exact a
def yN(t:List Nd)(p:Pt):List Nd:=if(bW p).1=1 then qR t (aS (bW p).2.1) else if(bW p).1=2 then kN t (aS (bW p).2.1) false else t
def yO{t}(h:Valid t) p:Valid (yN t p):=by
 unfold yN;split
 .exact W7 h _
 .split
  .exact OA h _
  .exact h
def Qr{t}(h:Valid t) p:xn (zD p,t,())=aa (yN t p,()):=by
 have a:=yM p;have hs:=fR h;unfold zD abi yN;by_cases b:(bW p).1=1
 .rw[aQ b,aQ b];show jL _=_
  unfold jL;dsimp only;rw[ZF t _ hs (by have:=a.2.2;omega) h,ab]
 .rw[aK b,aK b];by_cases c:(bW p).1=2
  .rw[aQ c,aQ c];show gY _=_
   unfold gY;dsimp only;rw[adf t _ hs (by have:=a.2.2;omega) h,ab]
  .rw[aK c,aK c];by_cases d:(bW p).2.1=[]
   .rw[aQ d];rfl
   .rw[aK d];rfl
def OB{t}(h:Valid t) p (a:p.length<=4096):ti (t,p,())=aa (qR t p,()):=by
 obtain⟨b,c,d⟩:=pg t (fR h);unfold ti;rw[c,ab,d.2 h];rw[aW,ag,Dk t p true (fR h) a,ab,Ud]
def Qs{t}(h:Valid t) p (a:p.length<=4096):vp (t,p,())=aa (kN t p false,()):=by
 obtain⟨b,c,d⟩:=pg t (fR h);unfold vp;rw[c,ab,d.2 h];rw[aW,ag,Dk t p false (fR h) a,ab]
def RQ{a c:Type}(f:c->a->c)(l:List a) b {i x} (hx:l[i]?=aa x):(l.take<|i+1).foldl f b=f ((l.take i).foldl f b) x:=by
 rw[xX,hx,List.foldl_append];rfl
def ZH(l:List Pt) ok t0 (e:Valid t0) (j:l.length<=10000):Loop (lX (l.map zD,ok,())) ((t0,0,()),())=aa ((l.foldl yN t0,(l.length:Int),()),())/\Valid (l.foldl yN t0):=by
 obtain⟨t,b,g,_⟩:=qe (f:=lX (l.map zD,_)) l (λt i=>((t,i,()),())) _ _ (λt i=>t=(l.take i).foldl yN t0/\Valid t) ah (λt i x d h a c=>by
  constructor
  .unfold lX;rw[al<|by rw[zK];exact h,ao (by rw[KI,d];rfl),ab,a];rw[show xn _=_ from Qr c.2 x];rfl
  .exact⟨by rw[RQ yN l t0 d,<-c.1],yO c.2 x⟩) (λt _=>by
  unfold lX;rw[show aL l.length _=false by rw[<-zK];exact aq];rfl) t0 ⟨rfl,e⟩
 rw[zJ] at b;rw[<-b.1];exact⟨g,b.2⟩
def Qt a l (j:Uc l) (m:Valid a):Loop (oX (a,l,())) ((a,0,()),())=aa ((l.foldl yN a,(l.length:Int),()),()):=by
 have n:=j.1;obtain⟨t,k,b,_⟩:=qe (f:=oX (a,l,())) l (λt i=>((t,i,()),())) (λt _ x=>yN t x) _ (λt i=>t=(l.take i).foldl yN a/\Valid t) ah (λt i x h o c e=>by
  have d:=yM x;constructor
  .unfold oX;rw[al o,ao h,ab,Dr x (j.2 x<|eG h),ab,c];dsimp only;rw[OB e.2 _ (by have:=d.2.2;omega),ab,Qs e.2 _ (by have:=d.2.2;omega)];unfold yN;by_cases b:(bW x).1=1
   .rw[au b,aQ b];rfl
   .rw[ar b,aK b];by_cases g:(bW x).1=2
    .rw[au g,aQ g];rfl
    .rw[ar g,aK g];rfl
  .exact⟨by rw[RQ yN l a h,<-e.1],yO e.2 x⟩) (λt _=>by
  unfold oX;rw[aq];rfl) a ⟨rfl,m⟩
 rw[zJ] at k;rw[<-k.1];exact b
def yP{t n}(h:(bI t n).2=0):Valid (bI t n).1:=by
 rcases Om t n with ⟨_,a⟩|⟨b,a,c,r,d,e,f⟩
 .grind
 .rw[f];exact RM b a c d e
def jF:List bb->bb->List Nd->List Nd×Int
 | [],_,t=>(t,0)
 | nm::r,at',t =>
   if(findF t<|sB at' nm).2.1=true/\(findF t<|sB at' nm).1.2.1=2 then jF r (sB at' nm) t
   else if(bI t<|gS 493<|sB at' nm).2=0 then jF r (sB at' nm) (bI t<|gS 493<|sB at' nm).1
   else([],(bI t<|gS 493<|sB at' nm).2)
def Dw:∀r a t,Valid t->(jF r a t).2=0->Valid (jF r a t).1:=by
 intro r;induction r with
 | nil=>intro a t h _;exact h
 | cons nm r d =>
   intro a t h b;unfold jF at b⊢;split at b
   .grind
   .rename_i e;rw[aK e];split at b
    .rename_i c;rw[aQ c];exact d _ _ (yP c) b
    .grind
abbrev DS:=((List Nd×(List Nd×(Int×(bb×(Int×aj)))))×aj)
def W9{f:DS->Option (DS⊕(Nat×DS))} b (h:Ko b) n (hn:n<=b.length)
  (c:∀i x t,i<n->b[i]?=aa x->Valid t ->
   f ((t,[],0,aS<|b.take i,i,()),()) =
    aa (if(findF t<|eW b i).2.1=true/\(findF t<|eW b i).1.2.1=2 then .inl ((t,[],0,eW b i,((i+1:Nat):Int),()),())
     else if(bI t<|gS 493<|eW b i).2=0 then .inl (((bI t<|gS 493<|eW b i).1,[],0,eW b i,((i+1:Nat):Int),()),())
     else .inr (1,(t,[],(bI t<|gS 493<|eW b i).2,eW b i,i,()),())))
  (g:∀t a,f ((t,[],0,a,n,()),())=aa (.inr (0,(t,[],0,a,n,()),()))) :
  ∀d i t,i+d=n->Valid t->∃z,Loop f ((t,[],0,aS<|b.take i,i,()),())=aa z /\
   (((jF ((b.take n).drop i) (aS<|b.take i) t).2=0/\z.1=0/\z.2.1.1=(jF ((b.take n).drop i) (aS<|b.take i) t).1) \/
    ((jF ((b.take n).drop i) (aS<|b.take i) t).2≠0/\z.1=1/\z.2.1.2.1=[]/\z.2.1.2.2.1=(jF ((b.take n).drop i) (aS<|b.take i) t).2)):=by
 intro d;induction d with
 | zero =>
   intro i t q k;obtain rfl:i=n:=ah;refine⟨_,by rw[aN,g];rfl,.inl ?_⟩;rw[Gn<|by rw[dw];omega];exact⟨rfl,rfl,rfl⟩
 | succ d p =>
   intro i t q k;have hx:b[i]?=aa b[i]:=ft ah;have hs:=c i b[i] t ah hx k;have e:(b.take n).drop i=b[i]::(b.take n).drop (i+1):=by
    rw[Cv<|by rw[dw];omega,aeo]
   rw[e];unfold jF;rw[(sg h.1 hx)];split
   .rename_i l;rw[aQ l] at hs;obtain⟨z,m,o⟩:=p (i+1) t ah k;refine⟨z,?_,by exact o⟩;rw[aN,hs];exact m
   .rename_i l;rw[aK l] at hs;split
    .rename_i j;rw[aQ j] at hs;obtain⟨z,m,o⟩:=p (i+1) _ ah (yP j);refine⟨z,?_,by exact o⟩;rw[aN,hs];exact m
    .rename_i j;rw[aK j] at hs;refine⟨_,by rw[aN,hs];rfl,.inr ⟨j,rfl,rfl,rfl⟩⟩
def agu m {ns} (h:Ko ns) i:Sm (gS m<|eW ns i):=⟨h.ub _,by simp[gS],by simp[gS]⟩
def uz(a:List bb)(t:List Nd)(n:Nd):List Nd×Int:=if(jF a.dropLast [] t).2=0 then bI (jF a.dropLast [] t).1 n else([],(jF a.dropLast [] t).2)
def Ue{ns}(h:Ko ns){n}(w:n.1=aS ns)(y:Sm n){t}(r:Valid t):lz ((n,()),t,())=aa ((uz ns t n).1,(uz ns t n).2,()):=by
 have hd:=Eb h;unfold lz;rw[w,sf _ (by have:=h.2.2;omega),ab,zC h.1];dsimp only;rw[sz _ (by have:=hd.2.2;omega),ab,kM _ hd.1];obtain⟨z,A,g⟩:=W9 (f:=fG (ns.dropLast,())) ns.dropLast hd ns.dropLast.length (b0 _) (λi x u B j s=>by
  have c:=fR s;have C:=hd.L7 (eG j);have D:=hd.ub i;have v:=hd.ub (i+1);have E:=hd.2.1;unfold fG;dsimp only;rw[al B,ao j,ab,Je _ _ ah ah,ab,sg hd.1 j];dsimp only;rw[ac6 u _ c (by unfold eW;omega) s,ab,aC ah];have F:=Kn u _ c (agu 493 hd i);rw[show uK (u,(eW ns.dropLast i,_),())=_ from F,ab];by_cases k:(findF u<|eW ns.dropLast i).2.1=true
  .by_cases d:(findF u<|eW ns.dropLast i).1.2.1=2
   .rw[k,au d,aQ ⟨rfl,d⟩];rfl
   .rw[k,ar d,aK λq=>d q.2];by_cases b:(bI u<|gS 493<|eW ns.dropLast i).2=0
    .rw[au b,aQ b];rfl
    .rw[ar b,aK b];rfl
  .rw[show(findF u _).2.1=false by simpa using k];by_cases b:(bI u<|gS 493<|eW ns.dropLast i).2=0
   .rw[au b,aQ b];rfl
   .rw[ar b,aK b];rfl) (λu a=>by
  unfold fG;rw[aq,ag]) ns.dropLast.length 0 t ah r
 rw[zJ,EA] at g;rw[show Loop (fG _) ((t,([]),0,([]),0,()),())=_ from A,ab];have l:aS (ns.dropLast.take 0)=[]:=by simp[aS]
 rw[l] at g;unfold uz;rcases g with ⟨e,m,o⟩|⟨e,m,o,G⟩
 .have p:=Dw _ _ _ r e;rw[m,show cm 0 0=true from rfl,ai,o,aQ e,Kn _ n (fR p) y,ab]
 .rw[m,show cm 1 0=false from rfl,ag,o,G,aK e]
def Xa{ns}(h:Ko ns){t}(r:Valid t):xo (t,aS ns,())=aa ((if(jF ns.dropLast [] t).2=0 then(jF ns.dropLast [] t).1 else []),(jF ns.dropLast [] t).2,()):=by
 unfold xo;dsimp only;rw[iG _ (by have:=h.2.2;omega),ab,kM _ h.1];obtain⟨z,s,g⟩:=W9 (f:=nr (ns,())) ns h (ns.length-1) ah (λi x u B j p=>by
  have c:=fR p;have v:=h.L7 (eG j);have w:=h.ub i;have k:=h.2.1;unfold nr;dsimp only;rw[aC ah,al ah,ao j,ab,BF _ _ ah ah,ab,sg h.1 j];rw[Dv u _ c p,ab];have y:=Dn u _ c (agu 493 h i);rw[show oV (u,(eW ns i,_),())=_ from y,ab];by_cases l:(findF u<|eW ns i).2.1=true
  .by_cases d:(findF u<|eW ns i).1.2.1=2
   .rw[l,au d,aQ ⟨rfl,d⟩];rfl
   .rw[l,ar d,aK λq=>d q.2];by_cases b:(bI u<|gS 493<|eW ns i).2=0
    .rw[au b,aQ b];rfl
    .rw[ar b,aK b];rfl
  .rw[show(findF u _).2.1=false by simpa using l];by_cases b:(bI u<|gS 493<|eW ns i).2=0
   .rw[au b,aQ b];rfl
   .rw[ar b,aK b];rfl) (λu a=>by
  unfold nr;have k:=h.2.1;rw[aC ah,show aL _ (len ns)=false from aB dR,ag]) (ns.length-1) 0 t ah r
 rw[EA,List.dropLast_eq_take.symm] at g;rw[show Loop (nr _) ((t,([]),0,([]),0,()),())=_ from s,ab];have m:aS (ns.take 0)=[]:=by simp[aS]
 rw[m] at g;rcases g with ⟨e,n,o⟩|⟨e,n,o,A⟩
 .rw[n,show cm 0 0=true from rfl,ai,o,aQ e,e]
 .rw[n,show cm 1 0=false from rfl,ag,o,A,aK e]
def ZI p:(bW p).1=0\/(bW p).1=1\/(bW p).1=2:=by
 unfold bW
 grind
def qo(t:List Nd)(p:Pt):List Nd×Int:=if(bW p).1=0/\(bW p).2.1≠[] then uz (bW p).2.1 t (mV p<|aS (bW p).2.1) else(t,0)
def Ae:List Pt->List Nd->List Nd×Int
 | [],t=>(t,0)
 | p::r,t=>if(qo t p).2=0 then Ae r (qo t p).1 else([],(qo t p).2)
def Xb{a t n}(h:(uz a t n).2=0):Valid (uz a t n).1:=by
 unfold uz at h⊢;split at h
 .rename_i b;rw[aQ b];exact yP h
 .grind
def zE{t p}(b:Valid t)(h:(qo t p).2=0):Valid (qo t p).1:=by
 unfold qo at h⊢;split at h
 .rename_i a;rw[aQ a];exact Xb h
 .grind
def BL:∀l t,Valid t->(((Ae l t).2=0/\Valid (Ae l t).1)\/((Ae l t).2≠0/\(Ae l t).1=[])):=by
 intro l;induction l with
 | nil=>intro t h;exact .inl ⟨rfl,h⟩
 | cons p r a =>
   intro t h;unfold Ae;split
   .rename_i b;exact a _ (zE h b)
   .grind
def abk{p}(a:SmP p){ns}(h:Ko ns):Sm (mV p<|aS ns):=⟨h.2.2,a.2.1,a.2.2⟩
def Xc{t}(h:Valid t) p (d:SmP p):Bn (zD p,t,())=aa ((qo t p).1,(qo t p).2,()):=by
 have b:=yM p;unfold zD abi qo;rcases ZI p with a|a|a
 .rw[aK<|by rw[a];decide,aK (by rw[a];decide)];by_cases c:(bW p).2.1=[]
  .rw[aQ c,aK λq=>q.2 c];rfl
  .rw[aK c,aQ ⟨a,c⟩];exact Ue b rfl (abk d b) h
 .rw[aQ a,aK λq=>by rw[a] at q;exact absurd q.1 aF];rfl
 .rw[aK<|by rw[a];decide,aQ a,aK λq=>by rw[a] at q;exact absurd q.1 aF];rfl
def runs{S R f}(l:List Pt)(h:List Nd->Nat->S)(b:List Nd->R)(c:Int->List Nd->Nat->R)
  (a:∀i x t,l[i]?=aa x->Valid t->f (h t i)=aa (if(qo t x).2=0 then .inl (h (qo t x).1<|i+1) else .inr (c (qo t x).2 t i)))
  (e:∀t,f (h t l.length)=aa (.inr<|b t)) :
  ∀d i t,i+d=l.length->Valid t->∃z,Loop f (h t i)=aa z /\
   (((Ae (l.drop i) t).2=0/\z=b (Ae (l.drop i) t).1)\/((Ae (l.drop i) t).2≠0/\∃k m,z=c (Ae (l.drop i) t).2 k m)):=by
 intro d;induction d with
 | zero =>
   intro i t n j;obtain rfl:i=l.length:=ah;refine⟨_,by rw[aN,e];rfl,.inl ?_⟩;rw[JQ];exact⟨rfl,rfl⟩
 | succ d o =>
   intro i t n j;have hs:=a i l[i] t (ft ah) j;rw[Cv ah];unfold Ae;split
   .rename_i g;rw[aQ g] at hs;obtain⟨z,p,q⟩:=o (i+1) _ ah (zE j g);exact⟨z,by rw[aN,hs];exact p,q⟩
   .rename_i g;rw[aK g] at hs;exact⟨_,by rw[aN,hs];rfl,.inr ⟨g,t,i,rfl⟩⟩
open Classical in
def ph(l:List Nd)(a:List Pt):List Nd×Int:=if Valid l then(if jE a=true then Ae a (a.foldl yN l) else([],10)) else([],1)
def zF(a:List Pt):∀l,Valid l->Valid (a.foldl yN l):=by
 induction a with
 | nil=>intro l h;exact h
 | cons p r b=>intro l h;exact b _ (yO h p)
def aiC l ps (h:wX l) (c:Uc ps):vq (l,ps,())=aa ((ph l ps).1,(ph l ps).2,()):=by
 obtain⟨e,o,j⟩:=mU l h;have v:=h.1;have w:=c.1;unfold vq ph;rw[o,ab];by_cases hv:Valid l
 .rw[j.2 hv,aQ hv,RO ps c,ab];by_cases a:jE ps=true
  .rw[aQ a,aQ a];rw[ aJ cR,show app ([]) l=l from rfl];obtain⟨p,k⟩:=ZH ps true l hv ah;rw[p,ab];obtain⟨z,r,m⟩:=runs (f:=lY (ps.map zD,true,())) ps (λt i=>(([],0,t,i,()),())) _ (λe t i=>(1,([],e,t,i,()),())) (λi x t d s=>by
    have hi:=av d;unfold lY;rw[al<|by rw[zK];exact hi,ao (by rw[KI,d];rfl),ab,aC ah];rw[show Bn _=_ from Xc s x (c.2 x<|eG d),ab];by_cases b:(qo t x).2=0
    .rw[au b,aQ b];rfl
    .rw[ar b,aK b];rfl) (λt=>by
    unfold lY;rw[show aL ps.length _=false by rw[<-zK];exact aq,ag]) ps.length 0 _ ah k
   rw[EA] at m;rw[show Loop (lY _) (([],0,ps.foldl yN l,0,()),())=_ from r];rcases m with ⟨n,g⟩|⟨n,y,A,g⟩
   .rw[g,n];rfl
   .rw[g];rcases BL ps _ k with ⟨B,_⟩|⟨_,u⟩
    .grind
    .rw[u];rfl
  .rw[aK a,aK a];rfl
 .have:=λq=>hv (j.1 q);rw[ar this,aE,ai,aK hv]
def ZJ l ps (v:wX l) (h:Uc ps):zn (l,ps,())=aa ((ph l ps).1,(ph l ps).2,()):=by
 obtain⟨e,w,y⟩:=pg l v;have C:=h.1;unfold zn ph;rw[w,ab];by_cases hv:Valid l
 .rw[y.2 hv,aQ hv,Du ps h,ab];by_cases k:jE ps=true
  .rw[aQ k,k];have o:=zF ps l hv;rw[(Qt l ps h hv),ab];obtain⟨z,A,p⟩:=runs (f:=oY (l,ps,())) ps (λt i=>((t,[],0,i,()),())) _ (λe t i=>(1,(t,[],e,i,()),())) (λi x t m r=>by
    have hi:=av m;have d:=h.2 x (eG m);have b:=yM x;unfold oY;rw[al hi,ao m,ab,Dr x d,ab,aC ah];rw[Xa b r,ab,ab];unfold tl;rw[ab];by_cases g:(bW x).1=0
    .have s:=uY b.1;by_cases hn:(bW x).2.1=[]
     .have a:qo t x=(t,0):=by unfold qo;rw[aK λq=>q.2 hn]
      rw[a,au g,ch (s.2 hn)];rfl
     .have a:qo t x=uz (bW x).2.1 t (mV x<|aS (bW x).2.1):=by unfold qo;rw[aQ ⟨g,hn⟩]
      rw[a,au g,aY λq=>hn (s.1 q)];by_cases hd:(jF (bW x).2.1.dropLast [] t).2=0
      .have c:uz (bW x).2.1 t (mV x<|aS (bW x).2.1)=bI (jF (bW x).2.1.dropLast [] t).1 (mV x<|aS (bW x).2.1):=by unfold uz;rw[aQ hd]
       rw[c,au hd,aQ hd];rw[show oV ((jF (bW x).2.1.dropLast [] t).1,(aS (bW x).2.1,_),())=_ from(Dn (jF (bW x).2.1.dropLast [] t).1 (mV x<|aS (bW x).2.1) (fR<|Dw _ _ _ r hd)<|abk d b),ab];by_cases j:(bI (jF (bW x).2.1.dropLast [] t).1<|mV x<|aS (bW x).2.1).2=0
       .rw[au j,aQ j];rfl
       .rw[ar j,aK j];rfl
      .have c:uz (bW x).2.1 t (mV x<|aS (bW x).2.1)=([],(jF (bW x).2.1.dropLast [] t).2):=by unfold uz;rw[aK hd]
       rw[c,ar hd,aK hd,aK hd];rfl
    .have a:qo t x=(t,0):=by unfold qo;rw[aK λq=>g q.1]
     rw[a,ar g];rfl) (λt=>by
    unfold oY;rw[aq,ag]) ps.length 0 _ ah o
   rw[EA] at p;rw[show Loop (oY _) ((ps.foldl yN l,[],0,0,()),())=_ from A];rcases p with ⟨u,n⟩|⟨u,D,E,n⟩
   .rw[n,u];rfl
   .rw[n];rcases BL ps _ o with ⟨F,_⟩|⟨_,B⟩
    .grind
    .rw[B];rfl
  .rw[ show jE ps=false by simpa using k];rfl
 .have:e=false:=by
   grind
  rw[this,aK hv];rfl
def Has(t:List Nd)(p:bb):Prop:=p=[]\/∃x∈t,x.1=p/\x.2.1=2
def Xd{t n}(c:Valid t)(d:gm n=true)(h:Has t (bd n.1).1):((bI t n).2=0/\n∈(bI t n).1)\/(bI t n).2=5:=by
 unfold bI;rw[aK λq=>q.elim (λq=>q c) λq=>by rw[d] at q;cases q];have f:¬((bd n.1).1≠[]/\∀x∈t,x.1≠(bd n.1).1):=λq=>by
  rcases h with h|⟨x,a,e,_⟩
  .exact q.1 h
  .exact q.2 x a e
 have b:¬((bd n.1).1≠[]/\∀x∈t,x.1=(bd n.1).1->x.2.1≠2):=λq=>by
  rcases h with h|⟨x,a,e,k⟩
  .exact q.1 h
  .exact q.2 x a e k
 rw[aK f,aK b];have key:∀r,((if 64<=r.length then(([]),(5:Int)) else(wq r n,0)).2=0/\n∈(if 64<=r.length then(([]),(5:Int)) else(wq r n,0)).1)\/(if 64<=r.length then(([]),(5:Int)) else(wq r n,0)).2=5:=λr=>by
  split
  .exact .inr rfl
  .exact .inl ⟨rfl,wu.2 (.inl rfl)⟩
 apply key
def adg{t p}(h:(findF t p).2.1=true):(findF t p).1∈t/\(findF t p).1.1=p:=by
 unfold findF at h⊢;cases a:t.find? λx=>decide (x.1=p) with
 | none=>rw[a] at h;cases h
 | some x=>exact⟨UM a,by have:=aat a;simpa using this⟩
def agv{p}(h:gm (gS 0 p)=true):gm (gS 493 p)=true:=by
 unfold gm at h⊢;simp at h⊢;exact⟨⟨⟨h.1.1.1,by simp[gS]⟩,by simp[gS]⟩,by simp[RH,gS]⟩
def adh{ns}(h:Ko ns) n (hn:n<=ns.length) (j:preB ns n=true):∀d i t,i+d=n->Valid t->Has t (aS<|ns.take i) ->
  ((jF ((ns.take n).drop i) (aS<|ns.take i) t).2=0/\Has (jF ((ns.take n).drop i) (aS<|ns.take i) t).1 (aS<|ns.take n))\/(jF ((ns.take n).drop i) (aS<|ns.take i) t).2=5:=by
 intro d;induction d with
 | zero =>
   intro i t q k l;obtain rfl:i=n:=ah;rw[Gn<|by rw[dw];omega];exact .inl ⟨rfl,l⟩
 | succ d o =>
   intro i t q k l;have b:(ns.take n).drop i=ns[i]::(ns.take n).drop (i+1):=by
    rw[Cv<|by rw[dw];omega,aeo]
   have c:eW ns i=aS _:=rfl;rw[b];unfold jF;rw[(sg h.1<|ft ah)];split
   .rename_i p;obtain⟨m1,r⟩:=adg p.1;exact o _ t ah k (.inr ⟨_,m1,by rw[r,c],p.2⟩)
   .have e:gm (gS 493<|eW ns i)=true:=by
     unfold preB at j;rw[w8] at j;exact agv (j i<|Mm.2 ah)
    have a:=Xd k e (by
     show Has t (bd<|eW ns i).1
     rw[Oo h.1 ah];exact l)
    split
    .rename_i f;rcases a with ⟨_,g⟩|m
     .rw[c];exact o _ _ ah (yP f) (.inr ⟨_,g,rfl,rfl⟩)
     .rw[m] at f;cases f
    .rename_i f;rcases a with ⟨s,_⟩|m
     .exact absurd s f
     .exact .inr m
def adi{ns}(h:Ko ns){n}(g:n.1=aS ns)(i:gm n=true)(a:wv ns=true){t}(d:Valid t):(uz ns t n).2=0\/(uz ns t n).2=5:=by
 have b:preB ns (ns.length-1)=true:=by
  unfold wv at a;simp at a;rw[Ub a.2] at a;simp at a;exact a.1.1
 have hd:=adh h _ ah b (ns.length-1) 0 t ah d (.inl<|by simp[aS]);have c:aS (ns.take 0)=[]:=by simp[aS]
 rw[EA,List.dropLast_eq_take.symm,c] at hd;unfold uz;rcases hd with ⟨e,j⟩|f
 .rw[aQ e];rcases Xd (Dw _ _ _ d e) i (by rw[g,zC h.1];exact j) with ⟨k,_⟩|l
  .exact .inl k
  .exact .inr l
 .rw[aK<|by rw[f];decide];exact .inr f
def ZK{p}(a:(bW p).2.2=true)(c:(bW p).1=0)(b:(bW p).2.1≠[]):gm (mV p<|aS (bW p).2.1)=true/\wv (bW p).2.1=true:=by
 have key:∀d q,d≠[]->((decide _&&q)||(gm (mV p<|aS d)&&wv d))=true->gm _=true/\wv d=true:=λd q e h=>by
  rw[cf e,Bool.false_and,aeA,gO] at h;exact h
 unfold bW at a c b⊢;split at c
 .rename_i f;rw[aQ f] at a b⊢;dsimp only at a c b⊢;split at c
  .cases c
  .rename_i i;rw[aK i] at a b⊢;split at c
   .cases c
   .rename_i j;rw[aK j] at a b⊢;split at c
    .rename_i g;rw[aQ g] at a b⊢;exact key _ _ b a
    .rename_i g;rw[aK g] at b;exact absurd rfl b
 .rename_i f;rw[aK f] at b;exact absurd rfl b
def Xe:∀b t,jE b=true->Valid t->(Ae b t).2=0\/(Ae b t).2=5:=by
 intro b;induction b with
 | nil=>intro t _ _;exact .inl rfl
 | cons p r f =>
   intro t d e;unfold jE at d;simp only[aeB,gO] at d;unfold Ae;split
   .rename_i a;exact f _ d.2 (zE e a)
   .rename_i a;right;unfold qo at a⊢;split
    .rename_i c;rw[aQ c] at a;obtain⟨m1,g⟩:=ZK d.1 c.1 c.2;rcases adi (yM p) rfl m1 g e with h|i
     .exact absurd h a
     .exact i
    .rename_i c;rw[aK c] at a;exact absurd rfl a
def aiD{l}(c:l.length<=64)(a:∀q∈l,RdP q):Uc l:=⟨ah,λp b=>a p b⟩
def adj{s}{l:List Pt}{e}(h:gr (s,())=aa (l,e,()))(c:Uc l):hS (s,())=aa (if e=0/\jE l=true then 0 else 10,()):=by
 unfold hS;rw[h,ab];rw[RO l c];by_cases a:e=0
 .by_cases b:jE l=true
  .rw[au a,aQ b,aQ ⟨a,b⟩];rfl
  .rw[au a,aK b,aK λq=>b q.2];rfl
 .rw[ar a,aK (show ¬(e=0/\jE l=true) from λq=>a q.1)];by_cases b:jE l=true
  .rfl
  .rfl
def adk{s}{a:List Pt}{e}(h:gr (s,())=aa (a,e,()))(f:Uc a){l}(d:Valid l):kb (l,s,())=aa (if e=0 then((ph l a).1,(ph l a).2,()) else([],10,())):=by
 obtain⟨c,g,i⟩:=mU l (fR d);unfold kb;rw[h,ab,g];rw[aiC l a (fR d) f,i.2 d];by_cases b:e=0
 .rw[au b,aQ b];rfl
 .rw[ar b,aK b];rfl
def L8(t:List Nd)(q:bb):Option Nd:=t.find? λx=>decide (x.1=q)
def abl t q:findF t q=match L8 t q with
 | some x=>(x,true,())
 | none=>(abg,false,()):=rfl
def at_mem{t q x}(h:L8 t q=aa x):x∈t/\x.1=q:=by
 unfold L8 at h
 grind
def BM{t}(a:Ord t){q x}:L8 t q=aa x↔x∈t/\x.1=q:=by
 refine⟨at_mem,?_⟩
 .rintro⟨b,c⟩;have:=BI a b c;rw[abl] at this
  grind
def abm{a b:Option Nd}(h:∀x,a=aa x↔b=aa x):a=b:=by
 cases a with
 | none =>
   cases b with
   | none=>rfl
   | some y=>exact absurd ((h y).2 rfl) aT
 | some x=>exact((h x).1 rfl).symm
def adl:∀{l m:List Nd},(l.Pairwise λx y=>cmpL (key x) (key y)<0)->(m.Pairwise λx y=>cmpL (key x) (key y)<0)->(∀c,c∈l↔c∈m)->l=m:=by
 intro l;induction l with
 | nil =>
   intro m _ _ h;cases m with
   | nil=>rfl
   | cons d m=>exact absurd ((h d).2 aT) aT
 | cons c l k =>
   intro m g i h;cases m with
   | nil=>exact absurd ((h c).1 aT) aT
   | cons d m =>
     rw[Gq] at g i;have a:∀x,¬cmpL _ (key x)<0:=λx=>by rw[kk];omega
     have j:c=d:=by
      have b:c=d\/c∈m:=by simpa using(h c).1 aT
      have f:d=c\/d∈l:=by simpa using(h d).2 aT
      rcases b with e|b
      .exact e
      .rcases f with e|f
       .grind
       .exact absurd (mT (g.1 d f)<|i.1 c b) (a c)
     grind
def akx{s t}(d:Ord s)(e:Ord t)(h:∀q,L8 s q=L8 t q):s=t :=
 adl (AT.1 d) (AT.1 e) λc=>by
  have a:=BM d (q:=c.1) (x:=c);have b:=BM e (q:=c.1) (x:=c)
  grind
def adm{l}(j:Valid l){p}(v:p≠[]):∀m x,x∈l->(parts x.1).length<=m->ek (parts x.1) (parts p)=true->∃y∈l,y.1=p/\y.2.1=2:=by
 intro m;induction m with
 | zero =>
   intro x d k f;unfold ek at f
   grind
 | succ m z =>
   intro x d k f;by_cases n:∃y∈l,y.1=p
   .by_cases o:(bd x.1).1=[]
    .exfalso;have q:=(fy f).1;have c:=j.may x d;unfold gm yH at c;simp only[gO] at c;have w:(parts x.1).length<=1:=by
      rcases sA x.1 with ⟨a,_⟩|⟨a,b,A,C,e⟩
      .unfold parts;split
       .simp
       .rw[qh _ a];simp
      .rw[e] at o;subst o;have:=w8.1 c.1.1.1.1.1.1.1.2 [] (by
        unfold parts;rw[A];rw[F1 [] aT];simp)
       exact absurd this aF
     have r:parts p=[]:=zI.1 ah;have:=dV p;rw[r] at this;exact v this.symm
    .rcases j.up x d with e|⟨y,h,s,t⟩
     .grind
     .have u:=yI o;rw[<-s] at u;obtain⟨q,i⟩:=fy f;rw[u] at q i;rw[ad9<|by simp at q;omega] at i;rcases ug (parts p).length (parts y.1).length with g|g
      .exact z y h (by rw[u] at k;simp at k;omega) (cW ⟨g,i⟩)
      .have B:parts p=parts y.1:=by rw[<-i,KE ah]
       exact⟨y,h,by rw[<-dV y.1,<-B,dV],t⟩
   .have:=Oi j v (λy h e=>n ⟨y,h,e⟩) _ x d (b0 _)
    grind
def abn{t n}(h:(bI t n).2=0) q :
  L8 (bI t n).1 q=if q=n.1 then aa n else if ek (parts q) (parts n.1)=true/\n.2.1≠2 then af else L8 t q:=by
 rcases Om t n with ⟨_,f⟩|⟨e,f,o,r,g,p,s⟩
 .exact absurd h f
 rw[s];refine abm λx=>?_;rw[BM (RM e f o g p).ord,wu];obtain⟨l,_⟩:=g.sub;by_cases u:q=n.1
 .grind
 .rw[aK u];have i:(x=n\/x∈r)/\x.1=q↔x∈r/\x.1=q:=by
   grind
  rw[i];rcases g with ⟨⟨⟨d,A,v,w⟩,j⟩,rfl⟩|⟨y,rfl⟩
  .rw[aK<|λz=>z.2 j,BM e.ord]
   grind
  .unfold qR;rw[Aj];by_cases k:ek (parts q) (parts n.1)=true
   .by_cases m:n.2.1=2
    .rw[aK<|λz=>z.2 m,BM e.ord];constructor
     .grind
     .rintro⟨a,c⟩;have:=adm e (abf f) _ x a (b0 _) (by rw[c];exact k)
      grind
    .rw[aQ ⟨k,m⟩];constructor
     .rintro⟨⟨a,b⟩,c⟩;unfold gone at b
      grind
     .grind
   .rw[aK<|λz=>k z.1,BM e.ord];constructor
    .grind
    .rintro⟨a,c⟩;unfold gone
     grind
def Qu(q:bb)(s:Option Nd):Option Nd:=match s with
 | some x=>if x.2.1=2 then aa x else aa (gS 493 q)
 | none=>aa (gS 493 q)
def Xf{t} p:((findF t p).2.1=true/\(findF t p).1.2.1=2)↔∃x,L8 t p=aa x/\x.2.1=2:=by
 rw[abl]
 grind
def agw{ns}(h:On ns){i j}(a:i<ns.length)(b:j<ns.length)(e:eW ns i=eW ns j):i=j:=by
 have:=congrArg (λp=>(parts p).length) e;simp only[yK h,dw] at this;omega
def aiE{ns}(h:On ns) n (hn:n<=ns.length) q:∀d i t,i+d=n->Valid t ->
  (jF ((ns.take n).drop i) (aS<|ns.take i) t).2=0 ->
  ((∃j,i<=j/\j<n/\q=eW ns j)->L8 (jF ((ns.take n).drop i) (aS<|ns.take i) t).1 q=Qu q (L8 t q)) /\
  ((¬∃j,i<=j/\j<n/\q=eW ns j)->L8 (jF ((ns.take n).drop i) (aS<|ns.take i) t).1 q=L8 t q):=by
 intro d;induction d with
 | zero =>
   intro i t v r _;obtain rfl:i=n:=ah;rw[Gn<|by rw[dw];omega];exact⟨λ⟨j,a,b,_⟩=>absurd a ah,λ_=>rfl⟩
 | succ d s =>
   intro i t v r k;have l:(ns.take n).drop i=ns[i]::(ns.take n).drop (i+1):=by
    rw[Cv<|by rw[dw];omega,aeo]
   have o:eW ns i=aS _:=rfl;rw[l] at k⊢;unfold jF at k⊢;rw[(sg h<|ft ah)] at k⊢;have f:(∃j,i<=j/\j<n/\q=eW ns j)↔(q=eW ns i\/∃j,i+1<=j/\j<n/\q=eW ns j):=by
    grind
   have apart:q=eW ns i->¬∃j,i+1<=j/\j<n/\q=eW ns j:=by
    rintro e ⟨j,a,b,c⟩;have:=agw h ah ah (e.symm.trans c);omega
   by_cases m:(findF t<|eW ns i).2.1=true/\(findF t<|eW ns i).1.2.1=2
   .rw[aQ m] at k⊢;rw[o] at k⊢;obtain⟨w,u⟩:=s _ t ah r k;rw[f];obtain⟨x,A,B⟩:=(Xf _).1 m;constructor
    .rintro(e|e)
     .rw[u<|apart e];unfold Qu
      grind
     .grind
    .grind
   .rw[aK m] at k⊢;by_cases p:(bI t<|gS 493<|eW ns i).2=0
    .rw[aQ p] at k⊢;obtain⟨w,u⟩:=s _ _ ah (yP p) k;have g:=abn p q;rw[f];have y:¬(gS 493<|eW ns i).2.1≠2:=λz=>z rfl;constructor
     .rintro(e|e)
      .rw[aQ<|show q=(gS 493<|eW ns i).1 from e] at g;unfold Qu;rw[Xf] at m
       grind
      .rw[aK λz:q=(gS 493<|eW ns i).1=>apart z e] at g
       grind
     .intro e;rw[aK λz:q=(gS 493<|eW ns i).1=>e (.inl z)] at g
      grind
    .grind
def aiF(a:List bb)(n:Nd)(q:bb)(s:Option Nd):Option Nd :=
 if q=n.1 then aa n else if ek (parts q) a=true/\n.2.1≠2 then af else if ek a (parts q)=true/\q≠[] then Qu q s else s
def adn{ns}(h:On ns) q:(∃j,0<=j/\j<ns.length-1/\q=eW ns j)↔(ek ns (parts q)=true/\q≠[]):=by
 constructor
 .rintro⟨j,_,f,rfl⟩;rw[yK h];constructor
  .unfold ek
   grind
  .intro e;have:=congrArg (λp=>(parts p).length) e;simp only[yK h,dw,show(parts []).length=0 from rfl] at this;omega
 .rintro⟨b,c⟩;obtain⟨g,d⟩:=fy b;have a:0<(parts q).length:=by
   apply Nat.pos_of_ne_zero;intro e;have:=dV q;rw[zI.1 e] at this;exact c this.symm
  refine⟨(parts q).length-1,pq _,ah,?_⟩;unfold eW;rw[show(parts q).length-1+1=(parts q).length by omega,d,dV]
def aiG{ns}(h:On ns){t}(d:Valid t){n}(e:n.1=aS ns)(a:(uz ns t n).2=0) q:L8 (uz ns t n).1 q=aiF ns n q (L8 t q):=by
 have b:ns.take _=ns.dropLast:=List.dropLast_eq_take.symm;have f:aS (ns.take 0)=[]:=by simp[aS]
 unfold uz at a⊢;by_cases hd:(jF ns.dropLast [] t).2=0
 .rw[aQ hd] at a⊢;have c:=aiE h (ns.length-1) ah q (ns.length-1) 0 t ah d (by rw[ b];exact hd);rw[ adn h] at c;rw[abn a q,e,kM ns h];unfold aiF
  grind
 .grind
def ado(q:bb)(s:Option Nd)(p:Pt):Option Nd:=if(bW p).1=0/\(bW p).2.1≠[] then aiF (bW p).2.1 (mV p<|aS (bW p).2.1) q s else s
def Qv(q:bb)(p:Pt):Bool:=(decide ((bW p).1=1)&&(decide (q=aS (bW p).2.1)||ek (parts q) (bW p).2.1))||(decide ((bW p).1=2)&&ek (parts q) (bW p).2.1)
def agx(q:bb)(a:List Pt)(s:Option Nd):Option Nd:=if a.any (Qv q)=true then af else s
def aky:∀a t,Valid t->(Ae a t).2=0->∀q,L8 (Ae a t).1 q=a.foldl (ado q) (L8 t q):=by
 intro a;induction a with
 | nil=>intro t _ _ q;rfl
 | cons p r f =>
   intro t d c q;unfold Ae at c⊢;by_cases b:(qo t p).2=0
   .rw[aQ b] at c⊢;rw[f _ (zE d b) c q,aeu]
    congr 1
    unfold qo ado at *;by_cases e:(bW p).1=0/\(bW p).2.1≠[]
    .rw[aQ e] at b⊢;rw[aQ e];exact aiG (yM p).1 d rfl b q
    .grind
   .grind
def akz{t}(a:Valid t) p q:L8 (yN t p) q=if Qv q p=true then af else L8 t q:=by
 have e:=kM _ (yM p).1;refine abm λx=>?_;rw[BM (yO a p).ord];have key:∀P,(∀x,x.1=q->P x=!Qv q p)->((x∈t.filter P/\x.1=q)↔(if Qv q p=true then af else L8 t q)=aa x):=by
  by_cases b:Qv q p=true
  .grind
  .rw[aK b,BM a.ord]
   grind
 unfold yN;by_cases c:(bW p).1=1
 .rw[aQ c];refine key _ λy f=>?_;unfold gone Qv
  grind
 .rw[aK c];by_cases d:(bW p).1=2
  .rw[aQ d];refine key _ λy f=>?_;unfold Qv
   grind
  .rw[aK d];have b:Qv q p=false:=by unfold Qv;rw[cf c,cf d];rfl
   rw[aK<|by rw[b];decide,BM a.ord]
def adp:∀a t,Valid t->∀q,L8 (a.foldl yN t) q=agx q a (L8 t q):=by
 intro a;induction a with
 | nil=>intro t _ q;rfl
 | cons p r c =>
   intro t b q;rw[aeu,c _ (yO b p) q,akz b p q];unfold agx
   grind
def ZL{l}(a:Valid l){ps}(d:jE ps=true)(b:(ph l ps).2=0):Valid (ph l ps).1/\∀q,L8 (ph l ps).1 q=ps.foldl (ado q) (agx q ps<|L8 l q):=by
 have e:ph l ps=Ae ps (ps.foldl yN l):=by unfold ph;rw[aQ a,aQ d]
 rw[e] at b⊢;have c:=zF ps l a;refine⟨?_,λq=>?_⟩
 .rcases BL ps _ c with ⟨_,h⟩|⟨h,_⟩
  .exact h
  .grind
 .rw[aky ps _ c b q,adp ps l a q]
def agy{l:List Nd}(e:Valid l)(a:List Pt):((ph l a).2=0/\jE a=true)\/((ph l a).2≠0/\(ph l a).1=[]/\((ph l a).2=10\/(ph l a).2=5)):=by
 by_cases c:jE a=true
 .have f:ph l a=Ae a (a.foldl yN l):=by unfold ph;rw[aQ e,aQ c]
  rw[f];have g:=zF a l e;rcases BL a _ g with ⟨d,h⟩|⟨d,h⟩
  .exact .inl ⟨d,c⟩
  .rcases Xe a _ c g with b|b
   .exact absurd b d
   .exact .inr ⟨d,h,.inr b⟩
 .have f:ph l a=([],10):=by unfold ph;rw[aQ e,aK c]
  rw[f];exact .inr ⟨aF,rfl,.inl rfl⟩
def BN(q:bb)(f:Option Nd->Option Nd):Prop:=(∃c,∀s,f s=c)\/(∀s,f s=Qu q s)\/(∀s,f s=s)
def RR q s:Qu q (Qu q s)=Qu q s:=by
 cases s with
 | none=>rfl
 | some x =>
   show Qu q (if x.2.1=2 then aa x else aa (gS 493 q))=if x.2.1=2 then aa x else aa (gS 493 q)
   by_cases h:x.2.1=2
   .rw[aQ h];show(if x.2.1=2 then aa x else aa _)=_
    rw[aQ h]
   .rw[aK h];rfl
def BN.comp{q f g}(b:BN q f)(a:BN q g):BN q (λs=>f (g s)):=by
 rcases b with ⟨c,d⟩|b|b
 .exact .inl ⟨c,λs=>d _⟩
 .rcases a with ⟨c,d⟩|a|a
  .exact .inl ⟨Qu q c,λs=>by show f _=_;rw[b,d]⟩
  .exact .inr (.inl λs=>by show f (g s)=_;rw[b,a,RR])
  .exact .inr (.inl λs=>by show f (g s)=_;rw[b,a])
 .rcases a with ⟨c,d⟩|a|a
  .exact .inl ⟨c,λs=>by show f _=_;rw[b,d]⟩
  .exact .inr (.inl λs=>by show f _=_;rw[b,a])
  .exact .inr (.inr λs=>by show f _=_;rw[b,a])
def BN.amf{q f}(a:BN q f) s:f (f s)=f s:=by
 rcases a with ⟨c,b⟩|a|a
 .rw[b,b]
 .rw[a,a,RR]
 .rw[a]
def ZM q p:BN q (λs=>ado q s p):=by
 unfold ado;by_cases a:(bW p).1=0/\(bW p).2.1≠[]
 .simp only[aQ a];unfold aiF;by_cases b:q=(mV p<|aS (bW p).2.1).1
  .simp only[aQ b];exact .inl ⟨_,λ_=>rfl⟩
  .simp only[aK b];by_cases c:ek (parts q) (bW p).2.1=true/\(mV p<|aS (bW p).2.1).2.1≠2
   .simp only[aQ c];exact .inl ⟨_,λ_=>rfl⟩
   .simp only[aK c];by_cases d:ek (bW p).2.1 (parts q)=true/\q≠[]
    .simp only[aQ d];exact .inr (.inl λ_=>rfl)
    .simp only[aK d];exact .inr (.inr λ_=>rfl)
 .simp only[aK a];exact .inr (.inr λ_=>rfl)
def Xg q:∀(ps:List Pt),BN q (λs=>ps.foldl (ado q) s):=by
 intro ps;induction ps with
 | nil=>exact .inr (.inr λ_=>rfl)
 | cons p r a=>exact a.comp (ZM q p)
def Xh q ps:BN q (agx q ps):=by
 unfold agx;by_cases h:ps.any (Qv q)=true
 .simp only[aQ h];exact .inl ⟨_,λ_=>rfl⟩
 .simp only[aK h];exact .inr (.inr λ_=>rfl)
def agz{l}(a:Valid l){ps}(b:jE ps=true):(ph l ps).2=0\/(ph l ps).2=5:=by
 have c:ph l ps=Ae ps (ps.foldl yN l):=by unfold ph;rw[aQ a,aQ b]
 rw[c];exact Xe ps _ b (zF ps l a)
def adq{l}(c:Valid l){ps}(a:jE ps=true)(d:(ph l ps).2=0):ph (ph l ps).1 ps=((ph l ps).1,0)\/(ph (ph l ps).1 ps).2=5:=by
 obtain⟨b,e⟩:=ZL c a d;rcases agz b a with h|h
 .left;obtain⟨f,g⟩:=ZL b a h;have:=akx f.ord b.ord λq=>by
   rw[g,e];exact((Xg q ps).comp<|Xh q ps).amf _
  exact Prod.ext this h
 .exact .inr h
def Kq(s:bb):List Pt×Int:=match gr (s,()) with
 | some (l,e,_)=>(l,e)
 | none=>([],10)
def L9 s:gr (s,())=aa ((Kq s).1,(Kq s).2,())/\Uc (Kq s).1:=by
 obtain⟨d,e,a,b,c,_⟩:=agj s;unfold Kq;rw[a];exact⟨rfl,aiD b c⟩
def mW(l:List Nd)(s:bb):List Nd×Int:=if(Kq s).2=0 then ph l (Kq s).1 else([],10)
def RS{l}(a:Valid l) s:kb (l,s,())=aa ((mW l s).1,(mW l s).2,()):=by
 obtain⟨b,c⟩:=L9 s;rw[adk b c a];unfold mW;by_cases h:(Kq s).2=0
 .rw[aQ h,aQ h]
 .rw[aK h,aK h]
def Jn{l}(c:Valid l) s:((mW l s).2=0/\Valid (mW l s).1/\(mW (mW l s).1 s=((mW l s).1,0)\/(mW (mW l s).1 s).2=5))\/((mW l s).2≠0/\(mW l s).1=[]):=by
 unfold mW;by_cases h:(Kq s).2=0
 .rw[aQ h];simp only[aQ h];rcases agy c (Kq s).1 with ⟨a,b⟩|⟨a,b,_⟩
  .exact .inl ⟨a,(ZL c b a).1,adq c b a⟩
  .exact .inr ⟨a,b⟩
 .rw[aK h];exact .inr ⟨aF,rfl⟩
def Af:List bb->List Nd->List Nd×Int
 | [],t=>(t,0)
 | s::r,t=>if(mW t s).2=0 then Af r (mW t s).1 else([],(mW t s).2)
def aiH r (p:r.length<=1000):qG (r,())=aa ((Af r []).1,(Af r []).2,()):=by
 have key:∀d i t,i+d=r.length->Valid t->∃z,Loop (gu (r,())) ((([]:List Nd),(0:Int),t,(i:Int),()),())=aa z /\
   (((Af (r.drop i) t).2=0/\z.1=0/\z.2.1.2.2.1=(Af (r.drop i) t).1)\/((Af (r.drop i) t).2≠0/\z.1=1/\z.2.1.1=(Af (r.drop i) t).1/\z.2.1.2.1=(Af (r.drop i) t).2)):=by
  intro d;induction d with
  | zero =>
    intro i t m j;obtain rfl:i=r.length:=ah;rw[JQ];have n:gu (r,()) ((([]:List Nd),(0:Int),t,(r.length:Int),()),())=aa (.inr (0,(([]),0,t,r.length,()),())):=by
     unfold gu;dsimp only;rw[aq,ag]
    exact⟨(0,_),by rw[aN,n];rfl,.inl ⟨rfl,rfl,rfl⟩⟩
  | succ d o =>
    intro i t m j;rw[Cv ah];unfold Af;have hs:gu (r,()) ((([]),0,t,i,()),())=aa (if(mW t r[i]).2=0 then .inl ((([]),0,(mW t r[i]).1,((i+1):Int),()),()) else .inr (1,(([]),(mW t r[i]).2,t,i,()),())):=by
     unfold gu;dsimp only;rw[al ah,ao (ft ah),ab,RS j,ab,aC ah];by_cases f:(mW t r[i]).2=0
     .rw[au f,aQ f];rfl
     .rw[ar f,aK f];rfl
    by_cases f:(mW t r[i]).2=0
    .rw[aQ f] at hs⊢;have k:Valid (mW t r[i]).1:=by
      rcases Jn j r[i] with ⟨_,h,_⟩|⟨h,_⟩
      .exact h
      .exact absurd f h
     obtain⟨z,l,g⟩:=o (i+1) _ ah k;exact⟨z,by rw[aN,hs];exact l,g⟩
    .rw[aK f] at hs⊢;exact⟨(1,_),by rw[aN,hs];rfl,.inr ⟨f,rfl,rfl,rfl⟩⟩
 obtain⟨z,l,g⟩:=key r.length 0 [] ah (BJ ZC.1);rw[EA] at g;unfold qG;rw[show Loop (gu _) ((([]),0,([]),0,()),())=_ from l,ab];rcases g with ⟨a,b,c⟩|⟨a,b,c,e⟩
 .rw[b,c,a];rfl
 .rw[b,c,e];rfl
def RT b (l:b.length<=100000):xp (b,())=aa (decide (b.length=512/\∀x∈b,x=0),()):=by
 have g:∀y:UInt8,aD _ 0=decide (y=0):=λy=>E4 (n:=0);have h:=ago (f:=rb (b,())) b (λi=>((false,i,()),())) (λx=>!decide _) _ _ (λi x a=>by
  have hi:=av a;unfold rb;rw[al hi,ao a,ab,g,aC ah];cases decide (x=0)<;>rfl) (by
  unfold rb;rw[aq,ag]) b.length 0 ah
 unfold xp;rcases h with ⟨j,x,_,a,k,_,c⟩|⟨m,c⟩
 .rw[show Loop _ ((false,(0:Int),()),())=_ from c,ab,hJ,ag];have d:x≠0:=by simpa using k
  rw[cf λq:b.length=512/\∀x∈b,x=0=>d (q.2 x<|eG a)]
 .rw[show Loop _ ((false,(0:Int),()),())=_ from c,ab,cV,ai];have e:∀x∈b,x=0:=λx a=>by
   obtain⟨i,hi⟩:=bc.1 a
   grind
  have:aD (len b) 512=decide (b.length=512/\∀x∈b,x=0):=by
   unfold aD len
   grind
  grind
def adr b (o:b.length<=100000):xq (b,())=aa (decide (1024<=b.length/\b.length % 512=0/\∀x∈b,x=0),()):=by
 have g:∀y:UInt8,aD _ 0=decide (y=0):=λy=>E4 (n:=0);have h:=ago (f:=re (b,())) b (λi=>((false,i,()),())) (λx=>!decide _) _ _ (λi x a=>by
  have hi:=av a;unfold re;rw[al hi,ao a,ab,g,aC ah];cases decide (x=0)<;>rfl) (by
  unfold re;rw[aq,ag]) b.length 0 ah
 unfold xq;dsimp only;by_cases k:1024<=b.length
 case neg =>
  rw[aH<|by rw[bz];omega,aW,ag,ab,ai,cf λq:1024<=b.length/\b.length % 512=0/\∀x∈b,x=0=>k q.1]
 rw[aB<|by rw[bz];omega,aE,ai,show aD 512 0=false from rfl,ag,show gx _ 512=((b.length % 512):Int) from rfl];by_cases l:b.length % 512=0
 case neg =>
  rw[ar ah,aE,ab,ai,cf λq:1024<=b.length/\b.length % 512=0/\∀x∈b,x=0=>l q.2.1]
 rw[au ah,aW,ab,ag];rcases h with ⟨j,x,_,a,m,_,c⟩|⟨p,c⟩
 .rw[show Loop _ ((false,(0:Int),()),())=_ from c,ab,hJ,ag];have d:x≠0:=by simpa using m
  rw[cf λq:1024<=b.length/\b.length % 512=0/\∀x∈b,x=0=>d (q.2.2 x<|eG a)]
 .rw[show Loop _ ((false,(0:Int),()),())=_ from c,ab,cV,ai];have e:∀x∈b,x=0:=λx a=>by
   obtain⟨i,hi⟩:=bc.1 a
   grind
  grind
abbrev PS:=(bb×(List Pt×(Bool×(aj×aj))))×(List Pt×aj)
def ps0(r:bb)(a:List Pt):PS:=((r,([]:List Pt),false,(),()),a,())
def RU r out (v:r.length<=8192):∃p f g,cc ((),rd r (out.length:Int),())=aa ((p,f,()),g,()) /\
  ((f=false/\∃b z,g=HS (out.length:Int) b/\eB (ps0 r out)=aa (.inr z)/\((z.1=0/\b=true)\/(z.1=1/\z.2.1.2.1=out/\z.2.1.2.2.1=!b))) \/
   (f=true/\∃h,g=rd h ((out.length+1:Nat):Int)/\h.length+512<=r.length/\out.length<64/\eB (ps0 r out)=aa (.inl<|ps0 h<|out++[p]))):=by
 by_cases c:r.length<512
 .refine⟨_,_,_,Oa r out.length c,.inl ⟨rfl,true,(0,ps0 r out),rfl,?_,.inl ⟨rfl,rfl⟩⟩⟩;unfold eB ps0;dsimp only;rw[cO<|by rw[bz];omega,ag]
 have i:(r.take 512).length=512:=by rw[dw];omega
 have d:inside 0 512 (len r)=true:=aM aF aF (by rw[bz];omega);by_cases j:∀x∈r.take 512,x=0
 .refine⟨_,_,_,RE r out.length ah ah j,.inl ⟨rfl,_,(1,(r,out,decide (1024<=r.length/\r.length % 512=0/\∀x∈r,x=0),(),()),out,()),rfl,?_,.inr ⟨rfl,rfl,aT⟩⟩⟩;unfold eB ps0;dsimp only;rw[bA<|by rw[bz];omega,ai,d,ai,show sub r 0 (minus 512 0)=r.take 512 from gl r 512,RT _ ah,ab,cW ⟨i,j⟩,ai,adr r ah,ab]
 have e:=λb=>HT r out.length b;obtain⟨x,n,m,o⟩:=abc _ i;have s:(r.drop 512).length=r.length-512:=rV;unfold cc eB ps0;dsimp only[rd] at e⊢;rw[aW,aE,ai,ag,aB (by rw[bz];omega),ag,d,show sub r 0 (minus 512 0)=r.take 512 from gl r 512];rw[N1 _ ah,ab,bA (a:=512) (by rw[bz];omega),RT _ ah,ab];rw[cf (λq:(r.take 512).length=512/\∀x∈r.take 512,x=0=>j q.2),m,((take_same _ i).trans m),ab,ab,aM aF (by rw[bz];omega) (uh _),ai,show sub r 512 (minus _ 512)=r.drop 512 from jB r 512 ah];by_cases l:n=0
 case neg =>
  rw[ar l];exact⟨_,_,_,rfl,.inl ⟨rfl,_,_,rfl,rfl,.inr ⟨rfl,rfl,rfl⟩⟩⟩
 rw[au l];obtain⟨t,w⟩:=(o l).2.2.2.1;obtain⟨k,u⟩:=UN t;rw[u];by_cases y:8192<k
 .rw[aH<|by rw[bz];omega,ai,e,ab,aH ah];exact⟨_,_,_,rfl,.inl ⟨rfl,_,_,rfl,rfl,.inr ⟨rfl,rfl,rfl⟩⟩⟩
 have A:=WR k;rw[aB (a:=8192) ah,show nO _=_ from WV k ah,ab];rw[show aw .i64 512 _=_ from AM (a:=512) ah];by_cases B:(r.drop 512).length<k
 .rw[aH<|by rw[bz];omega,ai,e,ab,aH (by rw[bz];omega)];exact⟨_,_,_,rfl,.inl ⟨rfl,_,_,rfl,rfl,.inr ⟨rfl,rfl,rfl⟩⟩⟩
 .rw[aB<|by rw[bz];omega,ag,WS k ah,ab,eV ah ah];by_cases C:(r.drop 512).length<k+Cb k
  .rw[aH<|by rw[bz];omega,aH (by rw[bz];omega)];exact⟨_,_,_,rfl,.inl ⟨rfl,_,_,rfl,rfl,.inr ⟨rfl,rfl,rfl⟩⟩⟩
  .rw[aB<|by rw[bz];omega,aB (by rw[bz];omega)];by_cases D:64<=out.length
   .rw[bA ah,bA (by rw[bz];omega)];exact⟨_,_,_,rfl,.inl ⟨rfl,_,_,rfl,rfl,.inr ⟨rfl,rfl,rfl⟩⟩⟩
   .rw[cO ah,ab,eV ah ah,aM ah (by rw[bz];omega) (uh _),ai,aM ah ah (by rw[bz];omega),ai];rw[ show _+_=((k+Cb k:Nat):Int) by omega,jB _ _ ah,aC ah];rw[cO<|by rw[bz];omega];have es:sub r 512 (minus ((512+k:Nat):Int) 512)=(r.drop 512).take k:=by
     unfold sub minus
     grind
    refine⟨_,_,_,rfl,.inr ⟨rfl,_,rfl,?_,ah,?_⟩⟩
    .grind
    .rw[show aw .i64 512 _=_ from AM (a:=512) ah,es];rw[show ak _ _ _=aa false from rfl];rw[ab,aM aF ah (by rw[bz];omega),aJ cR,ab];rw[show aw .i64 512 _=_ from AM (a:=512) ah,aM ah (by rw[bz];omega) (uh _),jB r _ ah,A7];rfl
def ads:∀m r (out:List Pt) (p:Pt),r.length<=m->r.length<=8192->out.length<=63 ->
  ∃(c:List Pt) (d:Pt) (b:Int×Bool) (z:Nat×PS),Loop kV (((),(),true,()),p,out,rd r ((out.length+1:Nat):Int),())=aa (((),(),false,()),d,c,HS b.1 b.2,()) /\
   Loop eB (ps0 r<|out++[p])=aa z/\((z.1=0/\b.2=true)\/(z.1=1/\z.2.1.2.1=c/\z.2.1.2.2.1=!b.2)):=by
 intro m;induction m using Nat.strongRecOn with
 | _ m h =>
   intro r out p x i j;obtain⟨e,k,l,f,n⟩:=RU r _ i;have hlen:((out++[p]).length:Int)=((out.length+1:Nat):Int):=aT;rw[hlen] at f;have a:=RF p out _ ah f;rcases n with ⟨rfl,b,z,rfl,q,s⟩|⟨rfl,g,rfl,y,A,t⟩
   .refine⟨out++[p],e,(((out++[p]).length:Int),b),z,?_,by rw[aN,q];rfl,s⟩;rw[aN,a];show Loop _ _=_
    rw[aN];rfl
   .obtain⟨o,d,b,z,u,v,w⟩:=h g.length ah g (out++[p]) e (b0 _) ah ah;exact⟨o,d,b,z,by rw[aN,a];exact u,by rw[aN,t];exact v,w⟩
def RV s:mJ (s,())=gr (s,()):=by
 by_cases f:8192<s.length
 .rw[RG s f];unfold mJ vr;dsimp only;rw[aH<|by rw[bz];omega];rfl
 obtain⟨p,v,w,g,h⟩:=RU s [] ah;have fin:∀(b:Int×Bool) (o:List Pt),(ae (iR ((),HS b.1 b.2,())) λa=>ak a.1.1 (aa _) (aa (o,_)))=aa (if b.2=true then(([]),(10:Int),()) else(o,0,())):=λb o=>by
  obtain⟨x,i⟩:=b;cases i<;>rfl
 have parts:∀o b z,Loop eB (ps0 s [])=aa z->((z.1=0/\b=true)\/(z.1=1/\z.2.1.2.1=o/\z.2.1.2.2.1=!b))->mJ (s,())=aa (if b=true then _ else _):=λo b z j k=>by
  unfold mJ vr;dsimp only;rw[aB<|by rw[bz];omega,show Loop eB ((s,_),_)=_ from j,ab];rcases k with ⟨c,d⟩|⟨c,d,l⟩
  .rw[c,d];rfl
  .rw[c,d,l];cases b<;>rfl
 unfold gr;dsimp only;rw[aB<|by rw[bz];omega,show cc ((),(true,s,0,_),())=_ from g,ab];rcases h with ⟨rfl,b,z,rfl,m,n⟩|⟨rfl,e,rfl,y,A,q⟩
 .rw[aN];show _=(ae (iR _) λa=>ak a.1.1 _ _)
  rw[fin (_,b),parts [] b z (by rw[aN,m];rfl) n]
 .obtain⟨o,B,b,z,r,t,u⟩:=ads e.length e [] p (b0 _) ah aT;rw[show Loop kV _=_ from r,ab];rw[fin b o];exact parts o b.2 z (by rw[aN,q];exact t) u
def Dx s:nP (s,())=aa (if(Kq s).2=0/\jE (Kq s).1=true then 0 else 10,()):=by
 obtain⟨d,e⟩:=L9 s;unfold nP;rw[RV s,d,ab];rw[Du _ e];by_cases a:(Kq s).2=0
 .rw[au a];by_cases c:jE (Kq s).1=true
  .rw[c,aQ ⟨a,rfl⟩];rfl
  .have b:jE (Kq s).1=false:=by simpa using c
   rw[b,aK λq=>Bool.noConfusion q.2];rfl
 .rw[ar a,aK λq=>a q.1];rfl
def Xi{l}(a:Valid l){ps}(b:¬jE ps=true):ph l ps=([],10):=by unfold ph;rw[aQ a,aK b]
def F9(a:List cA)(id:Tx):Option Nat:=a.findIdx? λx=>decide (x.1=id)
def EL(a:List cA)(id:Tx):Int:=match F9 a id with|some i=>(i:Int)|none=>-1
def Dy{ls id i x}(a:ls[i]?=aa x)(b:x.1=id)(c:∀j y,j<i->ls[j]?=aa y->decide (y.1=id)=false):F9 ls id=aa i:=by
 unfold F9;rw[Ya]
 grind
def OC{ls id}(b:∀(i:Nat) x,ls[i]?=aa x->decide (x.1=id)=false):F9 ls id=none:=by
 unfold F9;rw[aai];intro x a;obtain⟨i,c⟩:=bc.1 a
 grind
def BO{ls id i}(h:F9 ls id=aa i):∃x,ls[i]?=aa x/\x.1=id:=by
 unfold F9 at h;rw[Ya] at h
 grind
def aiJ{ls id}:(∃i,F9 ls id=aa i)↔∃x∈ls,x.1=id:=by
 constructor
 .rintro⟨i,h⟩;obtain⟨x,a,b⟩:=BO h
  grind
 .rintro⟨x,a,b⟩;cases h:F9 ls id with
  | some i=>exact⟨i,rfl⟩
  | none =>
    unfold F9 at h
    grind
def RW{f} ls (id:Tx) (l:ls.length<=1000000)
  (b:∀c i,f ((c,i,()),())=ak (aL i<|len ls) (ae (idx ls i) λy=>ak (bg y.1 id) (aa<|.inr (1,(i,i,()),())) (aa<|.inl ((c,aw .i64 i 1,()),()))) (aa<|.inr (0,(c,i,()),()))) :
  ae (Loop f ((0,0,()),())) (λd=>ak (cm d.1 0) (aa ((-1:Int),())) (aa (d.2.1.1,())))=aa (EL ls id,()):=by
 rcases eE (f:=f) ls (λi=>((0,i,()),())) (λ_ x=>decide (x.1=id)) (λi x=>(1,(i,i,()),())) _ ah (λi x a e g=>by
  rw[b,al e,ai,ao a,ab,di,g];by_cases h:x.1=id<;>simp[bg,h]) (by rw[b,aq];rfl) with ⟨i,x,a,j,k,h⟩|⟨hn,h⟩
 .rw[h];unfold EL;rw[Dy a (fy j) k];rfl
 .rw[h];unfold EL;rw[OC hn];rfl
def OD(a:List cA)(id:Tx)(b:a.length<=1000000):Bo (a,id,())=aa (EL a id,()):=RW a id b λc i=>rfl
def Ga(s:aO)(id:Tx)(a:s.2.2.1.length<=1000000):tu (s,id,())=aa (EL s.2.2.1 id,()):=RW s.2.2.1 id a λc i=>rfl
def Lo(a:List cA):Nat->Tx->List cA->List cA×Int
 | n,id,acc=>match F9 a id with
   | none=>([],3)
   | some i=>match n,a[i]? with
     | 0,_=>([],5)
     | n+1,aa x=>if x.2.1=[] then(acc++[x],0) else Lo a n x.2.1 (acc++[x])
     | _,af=>([],3)
def dF(a:List cA)(id:Tx):List cA×Int:=Lo a 16 id []
def ZN(a:List cA)(c:Tx)(d:a.length<=1000000):∀n (id:Tx) (acc:List cA) k,n+k=16->acc.length<=k ->
  ∃f g j,Loop (l8 (a,c,())) ((id,([]:List cA),0,(),k,()),acc,())=aa (1,(f,(Lo a n id acc).1,(Lo a n id acc).2,g),j):=by
 intro n;induction n with
 | zero =>
   intro id acc k l m;rw[aN];unfold l8;dsimp only;rw[bA ah,ai,OD a id d,ab];unfold Lo EL;cases h:F9 a id with
   | none=>exact⟨_,_,_,rfl⟩
   | some i =>
     dsimp only;rw[aB ah,ag,au ah,ai];simp_all
 | succ n o =>
   intro id acc k l m;rw[aN];unfold l8;dsimp only;rw[bA ah,OD a id d,ab];unfold Lo EL;cases h:F9 a id with
   | none=>exact⟨_,_,_,rfl⟩
   | some i =>
     obtain⟨x,e,p⟩:=BO h;dsimp only;rw[ ar ah,ao e,ab,show fits _=true from aJ (by show _+1<=_;omega),ab,e];dsimp only;rw[dz];by_cases b:x.2.1=[]
     .rw[cW b,aQ b];exact⟨_,_,_,rfl⟩
     .rw[cf b,aK b,aC ah];have:=o x.2.1 (acc++[x]) (k+1) ah (by rw[iU];show _+1<=_;omega);exact this
def Ec(a:List cA)(id:Tx)(b:a.length<=1000000):nR (a,id,())=aa ((dF a id).1,(dF a id).2,()):=by
 unfold nR;obtain⟨d,e,f,h⟩:=ZN a id b 16 id [] 0 rfl (b0 _);have c:Loop (l8 _) ((id,([]),0,(),0,()),_)=_:=h;rw[c];rfl
def aiK{ls}:∀{n id acc},(∀x∈acc,x∈ls)->(∀x∈(Lo ls n id acc).1,x∈ls)/\(Lo ls n id acc).1.length<=n+acc.length:=by
 intro n;induction n with
 | zero =>
   unfold Lo
   grind
 | succ n a =>
   intro id acc h;unfold Lo;cases b:F9 ls id with
   | none=>simp
   | some i =>
     grind
def RX{ls id}:(∀x∈(dF ls id).1,x∈ls)/\(dF ls id).1.length<=16:=by
 obtain⟨a,b⟩:=aiK (acc:=[]) Cu;exact⟨a,by unfold dF;simpa using b⟩
def OE{l}(a:Valid l) s:qF (l,s,())=aa ((mW l s).1,(mW l s).2,()):=by
 obtain⟨d,e⟩:=L9 s;obtain⟨v,f,g⟩:=pg l (fR a);unfold qF;rw[f,ab,g.2 a];rw[aW,ag,Dx s,ab,RV s,d];unfold mW;by_cases b:(Kq s).2=0
 .rw[aQ b];by_cases c:jE (Kq s).1=true
  .rw[aQ ⟨b,c⟩,show nt _=false from rfl,ag,ab,ZJ l _ (fR a) e,ab]
  .rw[aK<|λq=>c q.2,Xi a c];rfl
 .rw[aK b,aK λq=>b q.1];rfl
def adt(b:List Tx)(p:b.length<=1000000):zv (b,())=aa ((Af b []).1,(Af b []).2,()):=by
 unfold zv;have key:∀r t k,b=b.take k++r->k+r.length=b.length->Valid t->∃q,(Loop (jm (b,())) ((([]:List Nd),(0:Int),t,(k:Int),()),())=aa (1,(([]),(Af r t).2,q),())/\(Af r t).1=[]) \/
   ∃j l m,Loop (jm (b,())) ((([]:List Nd),(0:Int),t,(k:Int),()),())=aa (0,(j,l,(Af r t).1,m),())/\(Af r t).2=0:=by
  intro r;induction r with
  | nil =>
    intro t k n a e;rw[qv,Gr] at a;refine⟨((t,k,()):List Nd×Int×aj),.inr ⟨[],0,(k,()),?_,rfl⟩⟩;rw[aN];unfold jm;rw[a,aq];rfl
  | cons d r o =>
    intro t k n a e;rw[iV] at a;have hx:b[k]?=aa d:=by
     grind
    have step:jm (b,()) ((([]),0,t,k,()),())=aa (if(mW t d).2=0 then .inl ((([]),0,(mW t d).1,((k+1:Nat):Int),()),()) else .inr (1,(([]),(mW t d).2,t,k,()),())):=by
     unfold jm;dsimp only;rw[al ah,ai,ao hx,ab,OE e d,ab,aC ah];by_cases c:(mW t d).2=0
     .rw[au c,aW,ag,aQ c]
     .rw[ar c,aE,ai,aK c]
    rw[aN,step];unfold Af;by_cases c:(mW t d).2=0
    .rw[aQ c,aQ c];have f:Valid (mW t d).1:=by
      rcases Jn e d with ⟨_,h,_⟩|⟨h,_⟩
      .exact h
      .grind
     exact o (mW t d).1 _ (by rw[xX,hx];simpa using n) ah f
    .grind
 obtain⟨q,⟨h,g⟩|⟨j,l,m,h,g⟩⟩:=key b [] 0 aT aT (BJ ZC.1)
 .have i:Loop _ ((([]),(0:Int),([]),(0:Int),()),())=_:=h;rw[i,ab,g];rfl
 .have i:Loop (jm _) ((([]),0,([]),0,()),())=_:=h;rw[i,g];rfl
def OF(a:List cA)(b:List Tx)(id:Tx):Tx:=match F9 a id with|some i=>(b[i]?).getD []|none=>[]
def nF(a:List cA)(b:List Tx)(id:Tx):List Nd×Int :=
 if(dF a id).2=0 then Af ((dF a id).1.reverse.map λx=>OF a b x.1) [] else([],(dF a id).2)
def BP(s:aO)(i:Nat):kD (s,i,())=aa ((s.2.2.2.1[i]?).getD [],()):=by
 unfold kD;dsimp only;by_cases h:i<s.2.2.2.1.length
 .have hx:=ft h;rw[al h,ao hx,hx];rfl
 .have hx:s.2.2.2.1[i]?=none:=Ev ah;rw[aB dR,hx];rfl
def BQ(s:aO)(id:Tx)(h:s.2.2.1.length<=1000000):mO (s,id,())=aa ((nF s.2.2.1 s.2.2.2.1 id).1,(nF s.2.2.1 s.2.2.2.1 id).2,()):=by
 obtain⟨j,d⟩:=RX;unfold mO nF;rw[Ec _ id h,ab];by_cases b:(dF s.2.2.1 id).2=0
 .rw[au b,aW,ag,aQ b];generalize (dF s.2.2.1 id).1=c at j d;generalize l:(c,_)=q;have e:q.1=c:=by rw[<-l]
  have key:∀n a,n<=c.length->a.length+n<=1000->∃z,Loop (nw (s,id,()) q) (((),n-1,()),a,())=aa (z,(a++(c.take n).reverse.map λx=>OF s.2.2.1 s.2.2.2.1 x.1,())):=by
   intro n;induction n with
   | zero =>
     intro a _ _;rw[aN];unfold nw;dsimp only;rw[cO ah,ag];simp[cr]
   | succ n m =>
     intro a hn o;obtain⟨x,f⟩:∃x,c[n]?=aa x:=⟨_,ft ah⟩;obtain⟨i,k⟩:=aiJ.2 ⟨x,j x (eG f),rfl⟩;have hd:OF s.2.2.1 s.2.2.2.1 x.1=(s.2.2.2.1[i]?).getD []:=by unfold OF;rw[k]
     obtain⟨z,g⟩:=m (a++[OF s.2.2.1 s.2.2.2.1 x.1]) ah (by rw[iU];show _+1+n<=_;omega);refine⟨z,?_⟩;have step:nw (s,id,()) q (((),n,()),a,())=aa (.inl (((),n-1,()),a++[OF s.2.2.1 s.2.2.2.1 x.1],())):=by
      unfold nw;dsimp only;rw[ e,ao f,ab,Ga s x.1 h,ab];rw[show EL s.2.2.1 x.1=i by unfold EL;rw[k],BP s i,ab,<-hd];rw[show fits _=true from aJ (by show _+1<=_;omega),du ah ah];rfl
     rw[show((n+1:Nat):Int)-1=n by omega,aN,step];refine U9 g ?_;rw[xX,f];simp
  obtain⟨z,g⟩:=key c.length [] (b0 _) cR;have hlen:cG .i64 (len c) 1=c.length-1:=du dR dR;rw[hlen,g,ab];rw[zJ,Mj,adt _ (by rw[zK,QN];omega),ab]
 .rw[ar b,aE,ai,aK b]
def Dz(s:Tx):Prop:=(Kq s).2=0/\jE (Kq s).1=true
section
variable {α:Type} (key:α->Tx)
def qu(l:List α)(x:α):List α:=l.takeWhile (λy=>fZ (key y) (key x))++[x]++l.dropWhile (λy=>fZ (key y) (key x))
def dv(l:List α)(p:Tx):Nat:=(l.takeWhile λy=>fZ (key y) p).length
def mj l p:dv key l p<=l.length:=by
 unfold dv;have:=congrArg List.length (Cm (p:=λy=>fZ (key y) p) (l:=l));rw[iU] at this;omega
def BR(l:List α) x:l.take (dv key l<|key x)=l.takeWhile (λy=>fZ (key y) (key x))/\l.drop (dv key l<|key x)=l.dropWhile (λy=>fZ (key y) (key x)):=by
 have e:=Cm (p:=λy=>fZ (key y) (key x)) (l:=l);refine⟨?_,?_⟩
 .unfold dv
  conv=>lhs;rw[<-e]
  rw[List.take_left'];rw[e]
 .unfold dv
  conv=>lhs;rw[<-e]
  rw[List.drop_left'];rw[e]
def uZ l x (a:l.length<=1000000):uI l ((dv key l (key x):Nat):Int) [x]=aa (qu key l x):=by
 have b:=mj key l (key x);unfold uI qu;rw[show inside 0 _ _=true from aM aF ah dR,aJ cR];rw[uB,(BR key l x).1,(BR key l x).2];rfl
def mX{S R f} l (p:Tx) (u:l.length<=1000000) (mk:Int->S) (c:Nat->R) fin
  (hs:∀(i:Nat) y,l[i]?=aa y->f (mk i)=aa (if fZ (key y) p=true then .inl (mk ((i+1:Nat):Int)) else .inr (c i))) (o:f (mk (l.length:Int))=aa (.inr fin)) :
  Loop f (mk 0)=aa (if dv key l p<l.length then c (dv key l p) else fin):=by
 have d:∀k,k<=l.length->(∀j y,j<k->l[j]?=aa y->fZ (key y) p=true)->(∀y,l[k]?=aa y->fZ (key y) p=false)->dv key l p=k:=by
  intro k q g m;have e:l.takeWhile (λy=>fZ (key y) p)=l.take k:=by
   clear hs o
   revert k
   induction l with
   | nil=>simp
   | cons a r v =>
     intro k q g m;cases k with
     | zero=>rw[aao,m a rfl];rfl
     | succ k =>
       rw[aao,g 0 a ah rfl,aQ rfl,aap,v (by simp at u;omega) k (by simp at q;omega) (λj y s b=>g (j+1) y ah b) λy b=>m y b]
  unfold dv;rw[e,dw];omega
 rcases eE l mk (λ_ y=>!fZ _ p) _ fin ah (λi y b t z=>by
  rw[hs i y b];cases fZ _ p<;>rfl) o with ⟨i,x,hx,w,s,h⟩|⟨hn,h⟩
 .have t:=av hx;have:=d i ah (λj y n b=>by simpa using s j y n b) (λy b=>by
   rw[hx] at b;obtain rfl:=aI b;simpa using w)
  rw[h,this,aQ t]
 .have:=d l.length (b0 _) (λj y _ b=>by simpa using hn j y b) (λy b=>by rw[Ev<|b0 _] at b;cases b);rw[h,aK ah]
def RY l x:(qu key l x).Perm (x::l):=by
 have h:(l.takeWhile (λy=>fZ (key y) (key x))++[x]++l.dropWhile λy=>fZ (key y) (key x)).Perm (x::(l.takeWhile (λy=>fZ (key y) (key x))++l.dropWhile λy=>fZ (key y) (key x))):=by
  rw[xW];exact List.perm_middle
 rw[(Cm (p:=λy=>fZ (key y) (key x)) (l:=l))] at h;exact h
def yQ{l x y}:y∈qu key l x↔y=x\/y∈l:=by rw[(RY key l x).mem_iff,fA]
def wx l x:(qu key l x).length=l.length+1:=by rw[(RY key l x).length_eq,iV]
def ZO(l:List α)(p:Tx):List α:=l.filter λx=>decide (key x≠p)
def aiL{l p x}:x∈ZO key l p↔x∈l/\key x≠p:=by unfold ZO;rw[Aj,QO]
def Ma l p:(ZO key l p).Sublist l:=List.filter_sublist
def agA{l p}(h:∀x∈l,key x≠p):ZO key l p=l:=by
 unfold ZO;rw[Mf];intro x a;exact cW (h x a)
end
abbrev ur:=Int×Tx×Int×Tx×aj
def jQ(e:Int):ur:=(e,[],0,[],())
def Fa(id:Tx):ur:=(0,id,0,[],())
def y7(s:aO):List Nm:=s.2.1.flatMap ofI
def iP(s:aO):List Nm:=s.2.2.1.flatMap ofL
def Ed(s:aO):List Nm:=s.1.flatMap ofB
structure qS (s:aO):Prop where
 ll:s.2.2.1.length<=60
 il:s.2.1.length<=60
 bl:s.1.length<=60
 ln:∀x∈s.2.2.1,mq x.2.2.1
 sH:∀x∈s.2.1,mq x.2.1
 bn:∀x∈s.1,mq x.2.1
 it:∀x∈s.2.1,qQ x.2.2.2.2.1
def qS.adu{s}(h:qS s):TT (0,s.2.2.1,[],[],()):=⟨h.ll,h.ln,aT,λx a=>(by cases a),aT,λx a=>(by cases a)⟩
def qS.akA{s}(h:qS s):TT (0,[],s.2.1,[],()):=⟨aT,λx a=>(by cases a),h.il,h.sH,aT,λx a=>(by cases a)⟩
def qS.akB{s}(h:qS s):TT (0,[],[],s.1,()):=⟨aT,λx a=>(by cases a),aT,λx a=>(by cases a),h.bl,h.bn⟩
def Ee{s}(h:qS s):Small (iP s):=D9 3 _ h.adu
def Ef{s}(h:qS s):Small (y7 s):=D9 2 _ h.akA
def Mb{s}(h:qS s):(iP s).length<=60:=fB (mw LZ _) h.ll
def Uf{s}(h:qS s):(y7 s).length<=60:=fB (mw HI _) h.il
def AU s (h:qS s):l7 (s,())=aa (iP s,()):=by
 unfold l7;rw[xG 3 _ h.adu];rfl
def AV s (h:qS s):gJ (s,())=aa (y7 s,()):=by
 unfold gJ;rw[xG 2 _ h.akA];rfl
def km s (ref:Tx) (h:qS s):eP (s,ref,())=aa (aU (iP s) ref):=by
 unfold eP;rw[AU s h,ab,nE _ _ (Ee h) (by have:=Mb h;omega),ab]
def Cc s (ref:Tx) (h:qS s):nQ (s,ref,())=aa (aU (y7 s) ref):=by
 unfold nQ;rw[AV s h,ab,nE _ _ (Ef h) (by have:=Uf h;omega),ab]
def sF(l:List Tx)(h:l.length<=4294967296):aX (l,())=aa (l,()):=yA l h
def sG(l:List Item)(h:l.length<=4294967296):bN (l,())=aa (l,()):=by
 unfold bN;rw[cK h];rfl
def DA(s:aO)(x:jZ)(l:s.2.1.length<=1000000)(v:x.2.1.length<=4294967296)(e:x.2.2.2.2.1.length<=4294967296)(g:∀y∈s.2.1,y.1≠x.1) :
  gD (s,x,())=aa ((s.1,(qu (·.1) s.2.1 x,s.2.2)),()):=by
 obtain⟨w,b,c⟩:=s;obtain⟨a,m,n,o,p,u⟩:=x;dsimp only at l v e g;unfold gD;dsimp only;rw[sF _ v,ab,sG _ e,ab];unfold dU;rw[ab,cK ah,ai];have r:Loop (eZ ((w,b,c),(a,m,n,o,p,u),())) ((0,0,()),(),a,())=aa (0,(0,len b,()),(),a,()):=by
  rcases eE (f:=eZ ((w,b,c),_)) b (λi=>((0,i,()),(),a,())) (λ_ y=>decide (y.1=a)) (λi _=>(1,(i,i,()),(),a,())) _ ah (λi y j e A=>by
   unfold eZ dU;rw[al e,ai,ao j,ab,ab,dz,di,A];by_cases q:y.1=a<;>simp[q]) (by unfold eZ;rw[aq];rfl) with ⟨i,y,j,B,_,_⟩|⟨_,h⟩
  .grind
  .exact h
 rw[r,ab];rw[cV,ai,show cl 0 (-1)=false from rfl,ag,ab];have k:=mX (f:=rk (((),()),b,())) _ b a l (λi=>((0,i,()),(),(a,m,n,o,p,u),())) _
  _ (λi y j=>by
   have e:=av j;unfold rk dU;dsimp only;rw[al e,aG ah dR,ao j,ab,ab,ab,aC ah];cases fZ y.1 a<;>rfl) (by unfold rk;rw[aq,ag])
 rw[k,ab];have d:=uZ (·.1) b ((a,m,n,o,p,u):jZ) l;unfold bS;by_cases z:dv (λy=>y.1) b a<b.length
 .rw[aQ z];dsimp only;rw[show cm 1 0=false from rfl,ag,aB ah,ag];rw[show uI b _ [((a,_):jZ)]=_ from d,ab]
 .rw[aK z];have t:dv (λy=>y.1) b a=b.length:=by have:=mj (λy=>y.1) b a;omega
  rw[cV,ai,aH aF,ai];rw[bz,<-t,show uI b _ [((a,_):jZ)]=_ from d,ab]
def crI(s:aO)(b:Tx)(a:List Tx)(c:Tx)(d:Int):aO×ur×aj :=
 if fc a≠0\/64<c.length then(s,jQ 1,()) else
 if b≠[]/\(aU (iP s) b).2.1≠0 then(s,jQ (aU (iP s) b).2.1,()) else
 if qn (y7 s) [] a≠0 then(s,jQ<|qn (y7 s) [] a,()) else
 if(dJ (y7 s) d).2.1≠0 then(s,jQ (dJ (y7 s) d).2.1,()) else
 ((s.1,(qu (·.1) s.2.1 ((dJ (y7 s) d).1,a,(if b=[] then [] else(aU (iP s) b).1),c,[],()),s.2.2)),Fa (dJ (y7 s) d).1,())
def abo{s x}(a:x∈s.2.1):((x.1,x.2.1,()):Nm)∈y7 s:=by
 unfold y7;rw[Sz];exact⟨x,a,by exact Ey.2 rfl⟩
def HX s (top:Tx) (given:List Tx) (a:Tx) d (h:qS s) (l:given.length<=4294967296) (o:s.2.1.length<=1000000) :
  rm (s,top,given,a,d,())=aa (crI s top given a d):=by
 unfold rm crI;have m:aL 64 (@len UInt8 a)=decide (64<a.length):=by unfold len;apply gG.2;omega
 rw[wi given l,ab,m];by_cases e:fc given=0
 rotate_left
 .rw[aQ<|.inl e,ar e];rfl
 by_cases i:64<a.length
 .rw[aQ<|.inr i,au e,cW i];rfl
 rw[aK<|by rintro(q|q);exact q e;exact i q,au e,cf i,aW,aE,ai,ag,dz];have rest:∀t,(ae (ak (aD 0 0) (ae (gJ (s,())) λj=>ae (iz (j.1,([]),given,())) λb=>aa ((b.1,()),()))<|some ((0,()),())) λj=>ae (ak (aD j.1.1 0)
   (ae (gJ (s,())) λb=>ae (ji (b.1,d,())) λc=>aa ((c.2.1,()),(c.1,((given,t,a,([]),()):List Tx×Tx×Tx×List Item×aj)),()))
   (aa ((j.1.1,()),(([]),given,t,a,([]),()),()))) λb=>ak (nt<|aD b.1.1 0)
   (ae (jh (b.1.1,())) λc=>aa (s,c.1,()))
   (ae (gD (s,b.2.1,())) λc=>aa (c.1,(0,b.2.1.1,0,([]),()),()))) =
   aa (if qn (y7 s) [] given≠0 then(s,jQ<|qn (y7 s) [] given,()) else
    if(dJ (y7 s) d).2.1≠0 then(s,jQ (dJ (y7 s) d).2.1,()) else
    ((s.1,(qu (·.1) s.2.1 ((dJ (y7 s) d).1,given,t,a,[],()),s.2.2)),Fa (dJ (y7 s) d).1,())):=by
  intro t;rw[show aD 0 0=true from rfl,ai,AV s h,ab];rw[(tY _ [] given (Ef h) l),ab,ab];by_cases f:qn (y7 s) [] given=0
  rotate_left
  .rw[aQ f,ar f,ag,ab];rw[ar f];rfl
  rw[aK<|λq=>q f,au f,ai,ab];rw[(Jf _ d),ab,ab];by_cases g:(dJ (y7 s) d).2.1=0
  rotate_left
  .rw[aQ g,ar g];rfl
  rw[aK<|λq=>q g,au g];obtain⟨_,_,n⟩:=Df g;rw[DA s _ o l aT λy p=>n _ (abo p)];rfl
 by_cases c3:top=[]
 .rw[cW c3,aW,ag,ab];simp_all
 .rw[cf c3,aE,ai,km s top h,ab,ab];by_cases k:(aU (iP s) top).2.1=0
  .simp_all
  .rw[aQ ⟨c3,k⟩,ar k,ag,ab];rw[ar k,ag,ab];rw[ar k];rfl
def Ug(s p:Tx):yp (s,p,())=aa (decide<|s.take p.length=p,()):=F2 s p
def Xj(f:List Tx):Tx:=(f.getLast?).getD []
def ZP f a:Xj (f++[a])=a:=by simp[Xj]
def Qw(c:Tx) f (d:¬c=[]) (e:¬6<=c.length) :
  ak (aL 1 (f.length:Int)) (aa (([]:Tx),9,())) (ak (aD (f.length:Int) 0) (aa (([]:Tx),3,()))<|some (Xj f,0,()))=aa (qi c f):=by
 unfold qi;rw[aK<|by rintro(h|h);exact d h;exact e h]
 match f with
 | []=>rfl
 | [a]=>rfl
 | a::b::r =>
   have:aL 1 ((a::b::r).length:Int)=true:=aH cR;rw[this];rfl
def pj l (ref:Tx) (q:Small l) (A:l.length<=1000000):kF (l,ref,())=aa (aU l ref):=by
 unfold kF;have inner:∀(i:Nat) x,l[i]?=aa x ->
   (ref∈x.2.1/\∃k,Loop (kj (l,ref,()) ((([]:Tx),(0:Int),(i:Int),()),())) ((([]:Tx),(0:Int),(0:Int),()),())=aa (1,(x.1,0,k,()),())) \/
   (¬ref∈x.2.1/\Loop (kj (l,ref,()) ((([]:Tx),(0:Int),(i:Int),()),())) ((([]),0,0,()),())=aa (0,([],0,(x.2.1.length:Int),()),())):=by
  intro i x b;have yd:=q.2 x (eG b);rcases eE (f:=kj (l,ref,()) ((([]),0,i,()),())) x.2.1 (λk=>((([]),0,k,()),())) (λ_ n=>decide (n=ref)) (λk n=>(1,(x.1,0,k,()),())) _ ah (λk n hn d m=>by
   unfold kj;rw[ao b,ab,al d,ai,ab,ao hn,ab,ab,di,m];by_cases h:n=ref<;>simp[bg,h]) (by unfold kj;rw[ao b,ab,aq,ag]) with ⟨k,n,hn,o,t,h⟩|⟨hn,h⟩
  .exact .inl ⟨by rw[<-fy o];exact eG hn,_,h⟩
  .refine .inr ⟨λB=>?_,h⟩;obtain⟨k,d⟩:=bc.1 B;have:=hn k ref d;simp at this
 rcases eE (f:=rA (l,ref,())) l (λi=>((([]:Tx),(0:Int),i,()),())) (λ_ x=>decide (x.1=ref)) (λi x=>(1,(ref,0,i,()),())) _ q.1 (λi x b c m=>by
  unfold rA;rw[al c,ai,ao b,ab,di,m];by_cases h:x.1=ref<;>simp[bg,h]) (by unfold rA;rw[aq,ag]) with ⟨i,x,b,o,t,h⟩|⟨hn,h⟩
 .rw[h,ab];rw[show cm 1 0=false from rfl,ag];unfold aU;rw[aQ ⟨x,eG b,fy o⟩]
 .rw[h,ab];rw[show cm 0 0=true from rfl,ai];have u:¬∃x∈l,x.1=ref:=by
   rintro⟨x,b,C⟩;obtain⟨i,c⟩:=bc.1 b;have:=hn i x c;simp[C] at this
  unfold aU;rw[aK u];rcases eE (f:=rB (l,_)) l (λi=>((([]),0,i,()),())) (λ_ x=>decide _) (λi x=>(1,(x.1,0,_),())) _ q.1 (λi x b c m=>by
   unfold rB;rw[al c,m];rcases inner i x b with ⟨h,k,d⟩|⟨h,d⟩
   .rw[d,cW h];rfl
   .rw[d,cf h];rfl) (by unfold rB;rw[aq,ag]) with ⟨i,x,b,o,t,h⟩|⟨hn,h⟩
  .rw[h,ab];rw[show cm 1 0=false from rfl,ag];have:l.find? (λx=>decide (ref∈x.2.1))=aa x:=by
    rw[abQ];refine⟨o,i,av b,?_,λj v=>?_⟩
    .have:=ft (av b);rw[b] at this;exact(aI this).symm
    .have D:=av b;have:=t j l[j] v (ft ah);simpa using this
   rw[this]
  .rw[h,ab];have:l.find? (λx=>decide (ref∈x.2.1))=none:=by
    rw[UJ];intro x b;obtain⟨i,c⟩:=bc.1 b;have:=hn i x c;simpa using this
   rw[this];by_cases s:ref=[]\/6<=ref.length
   .have w:Loop (hW (l,ref,())) (((0:Int),([]:Tx),(0:Int),()),())=aa ((0,([]),0,()),()):=by
     rw[aN];unfold hW;have e:ak (ak (aL 0<|len l) (cl 1<|len ref) false) (cl (len ref) 5) false=false:=by
      rcases s with h|h
      .subst h;cases aL 0 _<;>rfl
      .rw[cO (a:=len ref) dR];cases ak (aL 0 _) _ false<;>rfl
     rw[e];rfl
    rw[w];unfold qi;rw[aQ s];rfl
   .have y:=λh=>s (.inl h);have z:1<=ref.length:=by
     cases ref with
     | nil=>exact absurd rfl y
     | cons a r=>simp
    have w:Loop (hW (l,ref,())) ((0,([]),0,()),())=aa ((((N5 l ref).length:Int),Xj<|N5 l ref,(l.length:Int),()),()):=by
     have key:=iv (f:=hW (l,ref,())) l (λp i=>((p.length,Xj p,i,()),())) (HP ref) _ q.1 (λi x b c m=>by
      have E:((l.take i).flatMap<|HP ref).length<=l.length:=by
       have:=fj (g:=HP ref) (λx=>by unfold HP;split<;>simp) l i;omega
      unfold hW;dsimp only;rw[al c,bA dR,bA dR,ao b,ab,Ug,m,aC ah];unfold HP;by_cases h:x.1.take ref.length=ref
      .rw[cW h,aQ h,ZP,iU];rfl
      .rw[cf h,aK h,uC];rfl) (by
      unfold hW;rw[aq];rfl)
     exact key
    rw[w];exact Qw ref _ y (λh=>s (.inr h))
def BS(l:List Tx)(h:l.length<=4294967296):dY (l,l,())=aa (true,()):=by rw[B8 l l h,cW rfl]
def OG l (h:qQ l):fI (l,l,())=aa (true,()):=N6 l (by have:=h.1;omega)
def BT(a:Tx):bg a a=true:=cW rfl
def Eg{b:Type}{f:(Bool×Int×aj)×aj->Option (((Bool×Int×aj)×aj)⊕(Nat×(Bool×Int×aj)×aj))}(l:List b)(e:l.length<=1000000)
  (c:∀i x,l[i]?=aa x->x∈l->i<l.length->f ((false,i,()),())=aa (.inl ((false,aw .i64 i 1,()),()))) (d:f ((false,(l.length:Int),()),())=aa (.inr (0,(false,(l.length:Int),()),()))) :
  Loop f ((false,0,()),())=aa (0,(false,(l.length:Int),()),()) :=
 dc l.length (λj=>((false,(j:Int),()),())) (λj a=>by
  rw[c j l[j] (ft a) (aer a) a,aC ah]) d
def ZQ(l:List Aa)(b:l.length<=1000000)(h:∀x∈l,mq x.2.1/\qQ x.2.2.2.2.2.1):kE (l,l,())=aa (true,()):=by
 unfold kE;rw[kv,Eg l b (λi x c a d=>by
  unfold gK;rw[al d,ao c];simp only[BT,ai,ag,aW,aE,ab,BS _ (h x a).1.small,OG _ (h x a).2]) (by unfold gK;rw[aq];rfl)]
 rfl
def Xk(l:List jZ)(b:l.length<=1000000)(h:∀x∈l,mq x.2.1/\qQ x.2.2.2.2.1):jn (l,l,())=aa (true,()):=by
 unfold jn;rw[kv,Eg l b (λi x c a d=>by
  unfold gh;rw[al d,ao c];simp only[BT,ai,ag,aW,aE,ab,BS _ (h x a).1.small,OG _ (h x a).2]) (by unfold gh;rw[aq];rfl)]
 rfl
def Xl(l:List cA)(a:l.length<=1000000)(h:∀x∈l,x.2.2.1.length<=4294967296):jo (l,l,())=aa (true,()):=by
 unfold jo;rw[kv,Eg l a (λi x b c d=>by
  unfold gi;rw[al d,ao b];have eb:Yc x.2.2.2.2.2.2.1 x.2.2.2.2.2.2.1=true:=by unfold Yc;simp
  simp only[BT,kv,eb,ai,ag,aW,aE,ab,BS _ (h x c)]) (by unfold gi;rw[aq];rfl)]
 rfl
def Xm(l:List uX)(a:l.length<=1000000):jq (l,l,())=aa (true,()):=by
 unfold jq;rw[kv,Eg l a (λi x b d c=>by
  unfold gj;rw[al c,ao b,ab,ab];simp only[BT,kv];rfl) (by unfold gj;rw[aq];rfl)]
 rfl
def Qx{ref f}(h:(qi ref f).2.1=0):(qi ref f).1∈f:=by
 unfold qi at h⊢;split at h
 .cases h
 .rename_i b;rw[aK b]
  match f,h with
  | [a],_=>simp
def RZ{l ref}(h:(aU l ref).2.1=0):∃x∈l,x.1=(aU l ref).1:=by
 unfold aU at h⊢;by_cases b:∃x∈l,x.1=ref
 .rw[aQ b];exact b
 .rw[aK b] at h⊢;cases c:l.find? _ with
  | some x=>exact⟨x,UM c,rfl⟩
  | none =>
    rw[c] at h;have:=Qx h;unfold N5 at this⊢;rw[Sz] at this;obtain⟨x,d,a⟩:=this;refine⟨x,d,?_⟩;unfold HP at a;split at a
    .rw[Ey] at a;exact a.symm
    .cases a
def abp{s y}(h:y∈y7 s):∃x∈s.2.1,y=(x.1,x.2.1,()):=by
 unfold y7 at h;rw[Sz] at h;obtain⟨x,b,a⟩:=h;unfold ofI at a;rw[Ey] at a;exact⟨x,b,a⟩
def abq{s y}(h:y∈iP s):∃x∈s.2.2.1,y=(x.1,x.2.2.1,()):=by
 unfold iP at h;rw[Sz] at h;obtain⟨x,b,a⟩:=h;unfold ofL at a;split at a
 .rw[Ey] at a;exact⟨x,b,a⟩
 .cases a
def agB{l it x}:x∈Jh l it↔x=it\/x∈l:=by
 unfold Jh;have e:=Cm (p:=λy=>fZ y.1 it.1) (l:=l);rw[Pv,Pv,Ey];constructor
 .rintro((hx|hx)|hx)
  .exact .inr (by rw[<-e];exact Ew _ hx)
  .exact .inl hx
  .exact .inr (by rw[<-e];exact KG _ hx)
 .rintro(hx|hx)
  .exact .inl (.inr hx)
  .rw[<-e,Pv] at hx;rcases hx with hx|hx
   .exact .inl (.inl hx)
   .exact .inr hx
def agC l it:(Jh l it).length=l.length+1:=by
 unfold Jh;have:=congrArg List.length (Cm (p:=λy=>fZ y.1 it.1) (l:=l));rw[iU] at this;rw[iU,iU,Sv];omega
structure BkS (s:aO):Prop where
 il:∀x∈s.2.1,x.1.length<=1048576/\x.2.2.1.length<=1048576
 bl:∀x∈s.1,x.1.length<=1048576/\x.2.2.1.length<=1048576/\x.2.2.2.1.length<=1048576
 dg:∀x∈s.2.2.1,x.2.2.2.1.length<=1048576
end Go.Ge
namespace Go.Ge
abbrev Uh:Ty:=.pair .str (.pair .str<|.pair .str .unit)
abbrev R0:Ty:=.pair .str (.pair (.slice .str)<|.pair .str<|.pair .str<|.pair .str<|.pair (.slice Uh) .unit)
abbrev Eh:Ty:=.pair .str (.pair (.slice .str)<|.pair .str<|.pair .str<|.pair (.slice Uh) .unit)
abbrev Ei:Ty:=.pair .str (.pair .str<|.pair (.slice .str)<|.pair .str<|.pair (.int .i64)<|.pair (.int .i64)<|.pair .bool .unit)
abbrev abr:Ty:=.pair .str (.pair (.int .i64) .unit)
abbrev aiM:Ty:=.pair (.slice R0) (.pair (.slice Eh)<|.pair (.slice Ei)<|.pair (.slice .str)<|.pair (.slice abr) .unit)
def OH{b:Type}{f:b->Nat}{l:List b}{x:b}(h:x∈l):f x<=wF f l:=by
 induction l with
 | nil=>cases h
 | cons a r c =>
   unfold wF;rcases fA.1 h with rfl|h
   .omega
   .have:=c h;omega
def akC{s:aO}(h:aiM.fa s<=1048576):BkS s:=by
 obtain⟨b,c,d,i,j,u⟩:=s;have k:(wF R0.fa b+1)+((wF Eh.fa c+1)+((wF Ei.fa d+1)+((wF Ty.str.fa i+1)+((wF abr.fa j+1)+0))))<=1048576:=h;refine⟨λx a=>?_,λx a=>?_,λx a=>?_⟩
 .have e:Eh.fa x<=wF Eh.fa c:=OH (f:=Eh.fa) a;have g:Eh.fa x=(x.1.length+1)+((wF Ty.str.fa x.2.1+1)+((x.2.2.1.length+1)+((x.2.2.2.1.length+1)+((wF Uh.fa x.2.2.2.2.1+1)+0)))):=rfl;omega
 .have e:R0.fa x<=wF R0.fa b:=OH (f:=R0.fa) a;have g:R0.fa x=(x.1.length+1)+((wF Ty.str.fa x.2.1+1)+((x.2.2.1.length+1)+((x.2.2.2.1.length+1)+((x.2.2.2.2.1.length+1)+((wF Uh.fa x.2.2.2.2.2.1+1)+0))))):=rfl;omega
 .have e:Ei.fa x<=wF Ei.fa d:=OH (f:=Ei.fa) a;have g:Ei.fa x=(x.1.length+1)+((x.2.1.length+1)+((wF Ty.str.fa x.2.2.1+1)+((x.2.2.2.1.length+1)+(1+(1+(1+0)))))):=rfl;omega
variable [Lp]
def ZR:∀(r:List Tx) t,Valid t->(Af r t).2=0->Valid (Af r t).1:=by
 intro r;induction r with
 | nil=>intro t h _;exact h
 | cons s r b =>
   intro t h a;unfold Af at a⊢;by_cases c:(mW t s).2=0
   .rw[aQ c] at a⊢;rcases Jn h s with ⟨_,v,_⟩|⟨v,_⟩
    .exact b _ v a
    .exact absurd c v
   .rw[aK c] at a⊢;exact absurd a c
def agD{ls ds id}(h:(nF ls ds id).2=0):(dF ls id).2=0/\nF ls ds id=Af ((dF ls id).1.reverse.map λx=>OF ls ds x.1) []:=by
 unfold nF at h⊢;by_cases c:(dF ls id).2=0
 .rw[aQ c];exact⟨c,rfl⟩
 .rw[aK c] at h;exact absurd h c
def R1:Valid []:=BJ ZC.1
def uA{a:Type}(l:List a)(k:Nat)(x:a):List a:=l.take k++[x]++l.drop k
def aiN{α}(l:List α) k x (a:k<=l.length) (b:l.length<=1000000):uI l k [x]=aa (uA l k x):=by
 unfold uI uA;rw[show inside 0 k _=true from aM aF ah dR,aJ cR];rfl
def HY{c S:Type}{f}(l:List c)(p:c->Bool)(a:Int×Int×aj->S)(k:l.length<=1000000)
  (d:∀i y,l[i]?=aa y->i<l.length->f (a (0,i,()))=aa (if p y=true then .inr (1,a (i,i,())) else .inl (a (0,aw .i64 i 1,()))))
  (e:f (a (0,(l.length:Int),()))=aa (.inr (0,a (0,(l.length:Int),())))) :
  (∃(i:Nat) (y:c),l[i]?=aa y/\p y=true/\Loop f (a (0,0,()))=aa (1,a (i,i,())))\/((∀y∈l,p y=false)/\Loop f (a (0,0,()))=aa (0,a (0,(l.length:Int),()))):=by
 rcases eE l (λi=>a (0,i,())) _ _ _ ah (λi y b hi g=>by rw[d i y b hi,g]) e with ⟨i,y,b,j,_,h⟩|⟨hn,h⟩
 .exact .inl ⟨i,y,b,j,h⟩
 .refine .inr ⟨λy b=>?_,h⟩;obtain⟨i,hi⟩:=bc.1 b;exact hn i y hi
def Fb(s:aO)(id:Tx):Bool:=s.2.2.1.any (λx=>decide (x.2.1=id))||s.2.1.any (λx=>decide (x.2.2.1=id))||s.1.any (λx=>decide (x.2.2.2.1=id))
def Xn{a:Type}{l:List a}{p}{i:Nat}{y}(b:l[i]?=aa y)(c:p y=true):l.any p=true:=JP.2 ⟨y,eG b,c⟩
def Xo{b:Type}{l:List b}{p}(h:∀y∈l,p y=false):l.any p=false:=by
 cases q:l.any p with
 | false=>rfl
 | true=>obtain⟨y,c,a⟩:=JP.1 q;rw[h y c] at a;cases a
def cutAt{a:Type}(l:List a)(i:Nat):List a:=l.take i++l.drop (i+1)
def Gb{ls ds id}(h:(nF ls ds id).2=0):Valid (nF ls ds id).1:=by
 obtain⟨_,t⟩:=agD h;rw[t] at h⊢;exact ZR _ _ R1 h
def R4{α}(l:List α) i:∀x∈cutAt l i,x∈l:=λx a=>by
 unfold cutAt at a;rw[Pv] at a;exact a.elim Ex QM
def AW{α}(l:List α) i:(cutAt l i).length<=l.length:=by
 unfold cutAt;rw[iU,dw,rV];omega
def Ej{α}(l:List α) i (hi:i<l.length) (a:l.length<=1000000):K6 l i (aw .i64 i 1)=aa (cutAt l i):=by
 unfold K6 cutAt;rw[aC ah,aM ah ah dR,xZ,uB,uB]
def yR(n:Nat)(a:List Tx):List Tx:=a.take n++List.replicate (n-a.length) []
def qT n ds:(yR n ds).length=n:=by
 unfold yR
 grind
def Ui{n i ds}(h:i<n):(yR n ds)[i]?=aa ((ds[i]?).getD []):=by
 unfold yR
 grind
def Jo(s:aO)(a:s.2.2.1.length<=1000000):nS (s,())=aa (yR s.2.2.1.length s.2.2.2.1,()):=by
 unfold nS;dsimp only;rw[aM aF dR<|uh _,ai,cK ah,ai];unfold over lh len mZ yR
 grind
def Kr(s:aO)(x:cA)(d:Tx):aO:=(s.1,(s.2.1,(qu (·.1) s.2.2.1 x,uA (yR s.2.2.1.length s.2.2.2.1) (dv (λy:cA=>y.1) s.2.2.1 x.1) d,s.2.2.2.2)))
def agE(s:aO)(x:cA)(d:Tx)(r:s.2.2.1.length<=100000):tw (s,x,d,())=aa (Kr s x d,()):=by
 obtain⟨n,o,a,j,p⟩:=s;dsimp only at r;have l:=mj (λy=>y.1) a x.1;unfold tw;have b:=mX (f:=rv ((n,o,a,j,p),x,d,())) _ a x.1 ah (λi=>((0,i,()),x,())) _
  _ (λi y q=>by
   have hi:=av q;unfold rv;rw[al hi,ao q,ab,aC ah];cases fZ y.1 x.1<;>rfl) (by unfold rv;rw[aq,ag])
 rw[b,ab];have c:=Jo (n,o,a,j,p) y5;have e:∀k,k<=a.length->lJ (yR a.length j,k,d,())=aa _:=λk l=>by
  unfold lJ;rw[ cK (by rw[qT];omega),ai];unfold gL;rw[aiN _ k d (by rw[qT];omega)<|by rw[qT];omega,ab]
 have g:iB (a,((dv (λy=>y.1) a x.1:Nat):Int),x,())=aa (qu (λy=>y.1) a x,()):=by
  unfold iB;dsimp only;rw[cK ah,ai];unfold eQ;rw[show uI a _ [x]=_ from uZ _ a x ah,ab]
 by_cases h:dv (λy=>y.1) a x.1<a.length
 .rw[aQ h];rw[show cm 1 0=false from rfl,ag,ab];dsimp only;rw[c,ab,aB ah,ag];rw[e _ l,g];rfl
 .rw[aK h];have m:dv (λy=>y.1) a x.1=a.length:=ah;rw[cV,ai,ab];dsimp only;rw[c,ab,aH aF,ai];rw[show @len _ a=((dv _ a x.1):Int) from by rw[m];rfl,e _ l,g];rfl
def agF:zY ()=aa (X8 1024,()):=WU 1024 aF
def OI(b:List cA)(e:Tx)(r:b.length<=1000000)(n:∀x∈b,x.2.2.1.length<=4294967296)(c:List cA) r2 (id:Tx) (acc:List cA) (s:acc.length<=16) :
  ∃i,Loop (l9 (b,e,())) ((c,r2,(),id,0,()),acc,())=aa (match F9 b id with
   | none=>(0,(c,r2,(),id,i,()),acc,())
   | some k=>match b[k]? with
     | none=>(0,(c,r2,(),id,i,()),acc,())
     | some x=>if acc.length=16 then(1,([],5,(),id,i,()),acc,()) else if x.2.1=[] then(2,(c,r2,(),id,i,()),acc++[x],()) else(3,(c,r2,(),x.2.1,i,()),acc++[x],())):=by
 rcases eE (f:=l9 (b,e,())) b (λi=>((c,r2,(),id,i,()),acc,())) (λ_ x=>decide _)
  (λi x=>if acc.length=16 then _ else if x.2.1=[] then(2,(c,_),acc++[x],()) else(3,(c,_),acc++[x],()))
  _ ah (λi x g o j=>by
   unfold l9;rw[al o,ai,ao g,ab,dz,j];by_cases q:x.1=id
   .rw[cW q,aW,ag,aQ rfl,sF _ (n x<|eG g),ab];have l:aD (@len cA acc) 16=decide (acc.length=16):=by unfold len;apply gG.2;omega
    rw[l];by_cases a:acc.length=16
    .rw[cW a,ai,aQ a]
    .rw[cf a,aK a];rw[show fits (plus (@len cA acc) _)=true from aJ (by show _+1<=_;omega),dz];by_cases d:x.2.1=[]
     .rw[cW d,aQ d];rfl
     .rw[cf d,aK d];rfl
   .rw[cf q];rfl) (by unfold l9;rw[aq,ag]) with ⟨i,x,g,d,p,h⟩|⟨m,h⟩
 .refine⟨i,?_⟩;rw[Dy g (fy d) p]
  grind
 .refine⟨b.length,?_⟩;rw[OC m];exact h
def Xp{ls id}(h:F9 ls id=af) n acc:Lo ls n id acc=([],3):=by
 unfold Lo;rw[h]
def aiO{ls id k}(h:F9 ls id=aa k) acc:Lo ls 0 id acc=([],5):=by
 unfold Lo;rw[h]
def akD{ls id k x}(h:F9 ls id=aa k)(a:ls[k]?=aa x) n acc :
  Lo ls (n+1) id acc=if x.2.1=[] then(acc++[x],0) else Lo ls n x.2.1 (acc++[x]):=by
 conv=>lhs;unfold Lo
 grind
def Ks(a:List cA)(b:Tx)(l:a.length<=1000000)(m:∀x∈a,x.2.2.1.length<=4294967296):∀n (id:Tx) (acc:List cA),n+acc.length=16 ->
  ∃f g h,Loop (pV (a,b,())) ((([]:List cA),0,(),id,()),acc,()) =
   aa (if(Lo a n id acc).2=0 then(1,f,(Lo a n id acc).1,()) else(0,((Lo a n id acc).1,(Lo a n id acc).2,g),h)):=by
 intro n;induction n with
 | zero =>
   intro id acc o;rw[aN];unfold pV;obtain⟨i,j⟩:=OI a b l m [] 0 id acc ah;rw[j,ab];cases c:F9 a id with
   | none =>
     rw[Xp c];exact⟨(([]:List cA),(0:Int),(),id,()),_,_,rfl⟩
   | some k =>
     obtain⟨x,d,_⟩:=BO c;rw[aiO c];dsimp only;rw[d];dsimp only;rw[aQ ah];exact⟨(([]),0,(),id,()),_,_,rfl⟩
 | succ n p =>
   intro id acc o;rw[aN];unfold pV;obtain⟨i,j⟩:=OI a b l m [] 0 id acc ah;rw[j];cases c:F9 a id with
   | none =>
     rw[Xp c];exact⟨(([]),0,(),id,()),_,_,rfl⟩
   | some k =>
     obtain⟨x,d,_⟩:=BO c;rw[akD c d];dsimp only;rw[d];dsimp only;rw[aK ah];by_cases e:x.2.1=[]
     .rw[aQ e,aQ e];exact⟨_,((),([]),()),(acc,()),rfl⟩
     .rw[aK e,aK e];obtain⟨f,g,h,q⟩:=p x.2.1 (acc++[x]) (by rw[iU];show n+(_+1)=16;omega);exact⟨f,g,h,q⟩
def ZS(a:List cA)(id:Tx)(b:a.length<=1000000)(d:∀x∈a,x.2.2.1.length<=4294967296):vA (a,id,())=aa ((dF a id).1,(dF a id).2,()):=by
 unfold vA;obtain⟨e,f,g,h⟩:=Ks a id b d 16 id [] rfl;rw[h];unfold dF;by_cases c:(Lo a 16 id []).2=0
 .rw[ c];rfl
 .rw[aK c];rfl
def adv{α}(b:α->Tx) l p:(∀j y,j<dv b l p->l[j]?=aa y->fZ (b y) p=true)/\(∀y,l[dv b l p]?=aa y->fZ (b y) p=false):=by
 induction l with
 | nil=>exact⟨λj y _ h=>by simp at h,λy h=>by simp at h⟩
 | cons a r d =>
   unfold dv at d⊢;rw[aao];cases h:fZ _ p with
   | true =>
     rw[aQ rfl,iV];refine⟨λj y e c=>?_,λy c=>d.2 y c⟩;cases j with
     | zero=>obtain rfl:=aI c;exact h
     | succ j=>exact d.1 j y ah c
   | false =>
     refine⟨λj y e c=>absurd e aT,λy c=>?_⟩;simp at c;rw[<-c];exact h
def mx{a:Type}(l:List a)(k:Nat)(x:a)(i:Nat):List a:=if i<=k then l.take i else uA (l.take i) k x
def HZ{α}{l:List α}{k x i y}(h:i<k)(a:l[i]?=aa y):mx l k x i++[y]=mx l k x (i+1):=by
 unfold mx;rw[aQ ah,aQ ah,xX,a];rfl
def Xq{α}{l:List α}{k x y}(a:l[k]?=aa y):mx l k x k++[x]++[y]=mx l k x (k+1):=by
 have b:=av a;unfold mx uA;rw[aQ<|b0 _,aK ah,Pw,xY ah,xX,a,abR (by rw[dw];omega),Gn (by rw[dw];omega)];rfl
def Kt{α}{l:List α}{k x i y}(h:k<i)(a:l[i]?=aa y):mx l k x i++[y]=mx l k x (i+1):=by
 have b:=av a;unfold mx uA;rw[aK ah,aK ah,Pw,Pw,xY ah,xY ah,xX,a,abR (by rw[dw];omega)];simp
def R5{α}{l:List α}{k x}(h:k<l.length):mx l k x l.length=uA l k x:=by
 unfold mx;rw[aK ah,zJ]
def OJ{α}{l:List α}{x}:mx l l.length x l.length++[x]=uA l l.length x:=by
 unfold mx uA;rw[aQ<|b0 _,JQ,uC]
def Ek{α}{l:List α}{k x i}:(mx l k x i).length<=l.length+1:=by
 unfold mx uA;split
 .rw[dw];omega
 .simp;omega
def OK{α}{l:List α}{k x}:mx l k x 0=[]:=by unfold mx;rw[aQ ah,aew]
def Mc{α}(key:α->Tx) l x:qu key l x=uA l (dv key l<|key x) x:=by
 unfold qu uA;rw[(BR key l x).1,(BR key l x).2]
set_option maxRecDepth 20000 in
def Uj(s:aO)(x:cA)(d:Tx)(r:s.2.2.1.length<=100000):tz (s,x,d,())=aa (Kr s x d,()):=by
 obtain⟨t,u,a,b,v⟩:=s;dsimp only at r;have w:=mj (λy=>y.1) a x.1;have c:=adv (λy=>y.1) a x.1;unfold Kr;rw[Mc];generalize A:dv _ a x.1=k at w c;have o:=qT a.length b;have key:=dc (f:=rC ((t,u,a,b,v),x,d,())) a.length
  (λi=>(((),(),decide<|k<i,i,()),mx _ k d i,mx a k x i,())) (λi g=>by
   have hx:=ft g;have e:=Ui (ds:=b) g;have p:∀j,(mx a k x j).length<=100001:=λj=>fB Ek ah;have q:∀j,(mx (yR a.length b) k d j).length<=100001:=λj=>fB Ek ah;have m:∀y,fits (plus (@len cA<|mx a k x i)<|@len cA [y])=true:=λy=>aJ (by have:=p i;simp;omega);have n:∀y,fits (plus (@len Tx<|mx (yR a.length b) k d i)<|@len Tx [y])=true:=λy=>aJ (by have:=q i;simp;omega);have B:∀y z,fits (plus (@len cA<|mx a k x i++[y])<|@len cA [z])=true:=λy z=>aJ (by have:=p i;simp;omega);have C:∀y z,fits (plus (@len Tx<|mx (yR a.length b) k d i++[y])<|@len Tx [z])=true:=λy z=>aJ (by have:=q i;simp;omega);unfold rC;rw[al g,ai,aC ah,BP,ao hx];rcases Mn i k with h|h|h
   .rw[cf ah,cf ah,ab,c.1 i _ h hx,aW,ag,ab,ab];rw[m,ab,n,<-HZ h hx,<-HZ h e];rfl
   .subst h;rw[cf ah,cW ah,aE,ai,ab,c.2 _ hx,aE,ai,m,ai,n,ai,ab,ab];rw[show fits (plus (@len cA<|app _ [x]) _)=true from B _ _,ab,show fits (plus (@len Tx<|app _ [d]) _)=true from C _ _,<-Xq hx,<-Xq e];rfl
   .rw[cW h,cW ah,aW,ag,ab,m,ab,n,<-Kt h hx,<-Kt h e];rfl) (by
   unfold rC;rw[aq];rfl)
 unfold tz;rw[show decide _=false from cf ah,OK,OK] at key;rw[show((((),(),false,0,()),_):_×List Tx×List cA×aj)=(((),(),false,((0:Nat):Int),()),_) from rfl,key,ab];by_cases h:k<a.length
 .rw[cW h,aW,ag,ab,R5 h];rw[show mx _ k d a.length=uA _ k d from by
   have:=R5 (l:=yR a.length b) (k:=k) (x:=d) ah;rw[o] at this;exact this]
 .obtain rfl:k=a.length:=ah;rw[cf h,aE,ai,show fits _=true from aJ (by have:=Ek (l:=a) (k:=a.length) (x:=x) (i:=a.length);simp;omega),ai,
   show fits _=true from aJ (by have:=Ek (l:=yR a.length b) (k:=a.length) (x:=d) (i:=a.length);simp;omega),ai,ab]
  rw[show app _ [x]=uA a a.length x from OJ,show app _ [d]=uA _ a.length d from by
   have:=OJ (l:=yR a.length b) (x:=d);rw[o] at this;exact this]
def akE(id a:Tx)(b:List Tx):cA:=(id,a,b,TX<|X8 1024,1024,0,true,())
def j0(s:aO)(a:Tx):Tx:=if a=[] then [] else(aU (iP s) a).1
def crG(s:aO)(b:Tx)(a:List Tx)(d:Int):aO×ur×aj :=
 if fc a≠0 then(s,jQ<|fc a,()) else
 if b≠[]/\(aU (iP s) b).2.1≠0 then(s,jQ (aU (iP s) b).2.1,()) else
 if qn (iP s) [] a≠0 then(s,jQ<|qn (iP s) [] a,()) else
 if(dJ (iP s) d).2.1≠0 then(s,jQ (dJ (iP s) d).2.1,()) else
 if j0 s b≠[]/\(dF s.2.2.1<|j0 s b).2=0/\16<=(dF s.2.2.1<|j0 s b).1.length then(s,jQ 5,()) else
 (Kr s (akE (dJ (iP s) d).1 (j0 s b) a)<|X8 1024,Fa (dJ (iP s) d).1,())
end Go.Ge
