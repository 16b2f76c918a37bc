import Derived.Test.YtgklgliokhbcnaaGreatDoorPlD
set_option linter.unusedSectionVars false
set_option linter.unusedVariables false
set_option linter.unusedSimpArgs false
set_option linter.defProp false
open Option renaming some->aa,none->af
open Sum renaming inl->az,inr->aA
open Go.IntKind (i64)
namespace Go.Ge
variable [Lp]
def Bw(p:bb):Nat->Option Nat
 | 0=>af
 | n+1=>if p[n]?=aa 47 then aa n else Bw p n
def S2 p (i:p.length<=1048576):dd (p,47,())=aa (match Bw p p.length with|some k=>k|none=>-1,()):=by
 unfold dd;have run:∀n,n<=p.length->∃q,Loop (cS (p,47,())) ((0,(n-1),()),())=aa q/\(match Bw p n with|some k=>q.1=1/\q.2.1.1=k|none=>q.1=0):=by
  intro n;induction n with
  | zero =>
    intro _;refine⟨(0,(0,-1,()),()),?_,rfl⟩;rw[aN];rfl
  | succ n j =>
    intro l;obtain⟨y,d⟩:∃y,p[n]?=aa y:=⟨_,fH ah⟩;rw[ aN];have st:cS (p,47,()) ((0,n,()),())=if y=47 then aa (.inr (1,(n,n,()),())) else aa (.inl ((0,n-1,()),())):=by
     unfold cS;dsimp only;rw[bz ah,ai,ao d,ab,ZT,df ah ah,MU]
    rw[ Bw]
    grind
 obtain⟨q,f,a⟩:=run p.length (bV _);have e:cA .i64 (len p) 1=p.length-1:=by rw[bw,df ah ah]
 rw[e,f,ab];cases c:Bw p p.length with
 | none=>rw[c] at a;rw[a,cO,ai]
 | some k=>rw[c] at a;rw[a.1,a.2,gL,ag]
def M6:∀{p n k},Bw p n=aa k->k<n/\p[k]?=aa 47/\∀j,k<j->j<n->p[j]?≠aa 47:=by
 intro p n;induction n with
 | zero=>intro k h;cases h
 | succ n a =>
   intro k h;rw[Bw] at h
   grind
def Yf:∀{p n},Bw p n=af->∀j,j<n->p[j]?≠aa 47:=by
 intro p n;induction n with
 | zero=>omega
 | succ n a =>
   intro h j c;rw[Bw] at h
   grind
def bd(p:bb):bb×bb:=match Bw p p.length with|some k=>(p.take k,p.drop (k+1))|none=>([],p)
def rS p:(47∉p/\bd p=([],p))\/∃a b,p=a++47::b/\47∉b/\bd p=(a,b):=by
 unfold bd;cases h:Bw p p.length with
 | none =>
   refine .inl ⟨λd=>?_,rfl⟩;obtain⟨j,c,e⟩:=ac5 d;exact Yf h j c (by rw[fH c,e])
 | some k =>
   obtain⟨n,f,i⟩:=M6 h;refine .inr ⟨p.take k,p.drop _,?_,λd=>?_,rfl⟩
   .obtain⟨l,e⟩:=iy.1 f;rw[<-e,<-BT l,Fz]
   .obtain⟨j,c,e⟩:=ac5 d;rw[rj] at c;rw[List.getElem_drop] at e;exact i (k+1+j) ah ah (by rw[fH ah,e])
def rB p (a:p.length<=1048576):gh (p,())=aa ((bd p).1,(bd p).2,()):=by
 unfold gh pY;rw[show aG _ 0=false from rfl,ag,show aG _ 1=true from rfl,ai,show idx [(47:UInt8)] 0=aa 47 from rfl,ab];rw[show u8 47=47 from rfl,S2 p a,ab,ab];unfold bd;cases h:Bw p p.length with
 | none=>rw[aH aD,ai]
 | some k =>
   obtain⟨c,_,_⟩:=M6 h;dsimp only;rw[aC ah,ag,show inside 0 _ _=true from aO ah ah (by rw[bw];omega),ai,aB ah,aO ah (by rw[bw];omega) (tr _),ai,fT,jd p _ ah]
def CA a b (i:47∉b):cE (a++47::b)=cE a++[b]:=by
 induction a with
 | nil =>
   have e:cE (47::b)=[]::cE b:=by rw[cE,aQ rfl]
   rw[Lk,e,pN b i];rfl
 | cons c a d =>
   rw[Lj];by_cases h:c=47
   .rw[cE,aQ h,d]
    conv=>rhs;rw[cE,aQ h]
    rfl
   .cases f:cE a with
    | nil=>exact absurd f (pM a)
    | cons x t =>
      rw[f] at d;rw[ke h f,ke h (by rw[d];rfl)];rfl
def wT p (j:p.length<=4096):kr (p,())=aa ((bd p).1,(bd p).2,()):=by
 unfold kr;rw[ig p ah,ab];by_cases i:p=[]
 .subst i;rfl
 have c:parts p=cE p:=by unfold parts;rw[aK i]
 rcases rS p with ⟨d,e⟩|⟨a,b,rfl,d,e⟩
 .rw[e,c,pN p d];have f:pa (sub [p] 0<|minus (cA .i64 (len [p]) 1) 0,())=aa ([],()):=by
   exact Cz [] aT (by simp[aR])
  rw[ f];rfl
 .rw[e,c,CA a b d];have k:=Em a;rw[iC] at j;have f:cA .i64 (len<|cE a++[b]) 1=(((cE a).length:Nat):Int):=by
   rw[bw,df ah cT]
   grind
  rw[f,ar (by rw[bw,iC];simp;omega),ag,aO ah ah (by rw[bw,iC];omega),ai,fT,TZ,
   Cz _ ah (by rw[wS];omega),wS,su]
  simp[ae]
def rT(d n:bb):bb:=if d=[]\/n=[] then d++n else d++47::n
def Ig d n (hd:d.length<=1048576) (c:n.length<=1048576):pb (d,n,())=aa (rT d n,()):=by
 unfold pb rT;dsimp only;by_cases a:d=[]
 .rw[cc a,aJ ah,aQ (.inl a)];rfl
 .rw[aY a,aE,ai];by_cases b:n=[]
  .rw[cc b,aJ ah,aQ (.inr b)];rfl
  .rw[aY b,ag,aJ cT,ai,aJ (by simp only[gU,iC,iD,p6];omega),ai,aK (by simp[a,b])];simp[app]
def A4 d n (hd:d.length<=1048576) (c:n.length<=1048576):pc (d,n,())=aa (rT d n,()):=by
 unfold pc rT;by_cases a:d=[]
 .rw[ a];rfl
 .rw[aY a,ag];by_cases b:n=[]
  .rw[cc b,ai,aQ (.inr b),b,tK]
  .rw[aY b,ag,aJ cT,ai,aJ (by simp only[gU,iC,iD,p6];omega),ai,aK (by simp[a,b])];simp[app]
def ea(x y:List bb):Bool:=decide (y.length<x.length/\x.take y.length=y)
def QC{α}[DecidableEq α](Q:Nat->Nat->Nat×(Bool×Int×aj)×aj)(a:∀i j,(Q i j).1=j/\(Q i j).2.1.1=false):∀(r:List (α×α)) i,∃q,vu (λi _ p=>aa (if p.1=p.2 then az () else aA (Q i 1))) (λi _=>Q i 0) r i ()=aa q /\
  q.1=(if r.all (λp=>decide (p.1=p.2))=true then 0 else 1)/\q.2.1.1=false:=by
 intro r;induction r with
 | nil=>intro i;exact⟨_,rfl,(a _ _).1,(a _ _).2⟩
 | cons p r c =>
   intro i;unfold vu;by_cases h:p.1=p.2
   .simp;obtain⟨q,d,e,f⟩:=c (i+1)
    grind
   .simp_all
def abv x y (hx:x.length<=1048576) (hy:y.length<=1048576):eP (x,y,())=aa (decide<|x=y,()):=by
 unfold eP;rw[MT];by_cases a:x.length=y.length
 .rw[cU a,aW,ag];have key:=qo (f:=dU (x,y,())) (x.zip y) (λ_ i=>((false,i,()),()))
   (λi _ p=>aa (if p.1=p.2 then .inl () else .inr _)) (λi _=>(0,(false,i,()),())) (λ_ _=>True)
   (λu i p l r _=>by
    obtain⟨c,k⟩:=aez l;have n:=av c;unfold dU;rw[al<|av c,ao c,ab,ao k,ab];by_cases e:p.1=p.2
    .rw[cc e,aB ah,aQ e];rfl
    .rw[aY e,aK e];rfl)
   (λ_ _ _ _ _ _ _=>trivial)
   (λu _=>by
    have e:(x.zip y).length=x.length:=by rw[List.length_zip,a,ads]
    unfold dU;rw[e,aq,ag])
   (λ_ _ _ _ _ h=>by cases h) () trivial
  obtain⟨q,c,k,o⟩:=QC (λi j=>(j,(false,_),())) (λ_ _=>⟨rfl,rfl⟩) (x.zip y) 0;have d:Loop _ ((false,(0:Int),()),())=aa q:=key.trans c;rw[d,ab,k,o,SK a];by_cases e:x=y
  .rw[cU e,aQ rfl,cO,ai]
  .rw[cd e,aK aT,gL,ag]
 .rw[cd a,aE,ai,cd λe=>a (by rw[e])]
def Aa p d (a:p.length<=4096) (hd:d.length<=4096):dz (p,d,())=aa (ea (parts p)<|parts d,()):=by
 unfold dz ea;have c:=fC p;rw[rR p ah,ab,rR d ah,ab];dsimp only;rw[GJ];by_cases h:(parts d).length<(parts p).length
 .rw[cU h,ai,show inside 0 _ _=true from aO aD (by rw[bw];omega) (by rw[bw,bw];omega),ai,Qq,abv _ _ (by rw[dk];omega) ah,ab,ab];simp[h]
 .rw[cd h,ag,ab];simp[h]
def S3 p d (n:p.length<=4096) (hd:d.length<=4096):uB (p,d,())=aa (ea (parts p)<|parts d,()):=by
 unfold uB ea;have k:=fC p;have l:=fC d;rw[ig p ah,ab,ig d ah,ab];dsimp only;rw[MS];generalize parts p=x at k;generalize parts d=y at l;by_cases h:y.length<x.length
 .rw[cd ah,ag];have e:(x.zip y).length=y.length:=by rw[List.length_zip];omega
  have key:=qo (f:=pd (x,()) (y,())) (x.zip y) (λ_ i=>((false,i,()),()))
   (λi _ p=>aa (if p.1=p.2 then .inl () else .inr _)) (λi _=>(0,(false,i,()),())) (λ_ _=>True)
   (λu i p n v _=>by
    obtain⟨k,l⟩:=aez n;unfold pd;rw[al<|av k,al (av l),ao k,ab,ao l,ab];by_cases e:p.1=p.2
    .rw[cc e,aB ah,aQ e];rfl
    .rw[aY e,aK e];rfl)
   (λ_ _ _ _ _ _ _=>trivial)
   (λu _=>by
    unfold pd;rw[e,aq,ag,ag])
   (λ_ _ _ _ _ h=>by cases h) () trivial
  obtain⟨q,o,r,s⟩:=QC (λi j=>(j,(false,_),())) (λ_ _=>⟨rfl,rfl⟩) (x.zip y) 0;have c:Loop _ ((false,(0:Int),()),())=aa q:=key.trans o;rw[c,ab,r,s,Vm,show min x.length y.length=y.length by omega,zw];by_cases a:x.take y.length=y
  .rw[cU a,aQ rfl,cO,ai];simp[h,a]
  .rw[cd a,aK aT,gL,ag];simp[a]
 .rw[cU ah,ai];simp[h]
def QD x:iK (x,())=aa (false,()):=by
 unfold iK;rw[zQ];rfl
def aeX x y:jX (x,y,())=aa (X5 x y,()):=by
 unfold jX X5;rw[QD,ab,QD,ab];rw[ag,ag,X4];rcases GL x y with h|rfl|h
 .rw[h,ai,aQ rfl]
 .rw[ub,ag,ag,aK aT,aQ rfl]
 .rw[rQ h,ag,h,ai,aK aT,aK λe=>MV h e.symm]
def CB a b (J:a.length<=4096) (K:b.length<=4096):gO (a,b,())=aa (cmpL (parts a)<|parts b,()):=by
 unfold gO;have A:=fC a;have B:=fC b;rw[rR a ah,ab,rR b ah,ab];generalize parts a=x at A;generalize parts b=y at B;have run:∀n i,x.length-i<=n->i<=x.length->i<=y.length->x.take i=y.take i->∃q,Loop (dH (x,()) (y,())) ((0,i,()),())=aa q /\
   (if q.1=0 then x.length<=y.length/\cmpL (x.drop i) (y.drop i)=(if x.length<y.length then -1 else 0) else q.1=1/\q.2.1.1=cmpL (x.drop i) (y.drop i)):=by
  intro n;induction n with
  | zero =>
    intro i C D o E;obtain rfl:i=x.length:=ah;refine⟨(0,(0,x.length,()),()),?_,?_⟩
    .rw[aN];have:dH (x,()) (y,()) ((0,x.length,()),())=aa (.inr (0,(0,x.length,()),())):=by
      unfold dH;rw[aq,ag]
     grind
    .rw[aQ rfl];refine⟨o,?_⟩;rw[IW];by_cases h:x.length<y.length
     .rw[aQ h];cases hd:y.drop x.length with
      | nil=>have:=congrArg List.length hd;simp at this;omega
      | cons b r=>rfl
     .rw[aK h,Fy ah];rfl
  | succ n L =>
    intro i C D o E;by_cases hi:i<x.length
    .obtain⟨u,d⟩:∃u,x[i]?=aa u:=⟨_,fH hi⟩;obtain⟨F,f⟩:=iy.1 d;have p:x.drop i=u::x.drop (i+1):=by rw[BT hi,f]
     rw[aN];by_cases s:i<y.length
     .obtain⟨v,w⟩:∃v,y[i]?=aa v:=⟨_,fH s⟩;obtain⟨G,j⟩:=iy.1 w;have H:y.drop i=v::y.drop (i+1):=by rw[BT s,j]
      have st:dH (x,()) (y,()) ((0,(i:Int),()),())=if u=v then aa (.inl ((0,((i+1:Nat):Int),()),())) else aa (.inr (1,(X5 u v,i,()),())):=by
       unfold dH;dsimp only;rw[al hi,ai,ao d,ab,pJ,cd ah,ag,ao w,ab,aeX,ab];by_cases e:u=v
       .rw[aQ e,show X5 u v=0 by unfold X5;rw[e,ub,aK aT,aQ rfl],show nt _=false from rfl,ag,aB ah]
       .rw[aK e,show aG _ 0=false from ar (by unfold X5;split<;>(try split)<;>first|decide|exact absurd (by assumption) e),aE,ai]
      rw[st,p,H,cmpL];by_cases e:u=v
      .grind
      .rw[aK e];refine⟨_,rfl,?_⟩;unfold X5
       grind
     .have st:dH (x,()) (y,()) ((0,i,()),())=aa (.inr (1,(1,i,()),())):=by
       unfold dH;dsimp only;rw[al hi,ai,ao d,ab,pJ,cU ah,ai]
      rw[st];refine⟨_,rfl,?_⟩;rw[ p,show y.drop i=[] from Fy ah];exact⟨rfl,rfl⟩
    .grind
 obtain⟨q,I,c⟩:=run x.length 0 ah ah ah rfl;have k:Loop (dH _ _) ((0,0,()),())=aa q:=I;rw[k,ab];rw[DU,DU] at c;by_cases h:q.1=0
 .rw[aQ h] at c;rw[h,cO,ai,GJ,c.2];by_cases l:x.length<y.length
  .rw[cU l,ai,aQ l]
  .rw[cd l,ag,aK l]
 .rw[aK h] at c;rw[c.1,gL,ag,c.2]
def xX a b (I:a.length<=4096) (J:b.length<=4096):jA (a,b,())=aa (cmpL (parts a)<|parts b,()):=by
 unfold jA;have w:=fC a;have A:=fC b;rw[ig a ah,ab,ig b ah,ab];generalize parts a=x at w;generalize parts b=y at A;have run:∀n i,x.length-i<=n->i<=x.length->i<=y.length->∃q,Loop (dI (x,()) (y,())) ((0,i,()),())=aa q /\
   (if q.1=0 then cmpL (x.drop i) (y.drop i)=(if x.length<y.length then -1 else if y.length<x.length then 1 else 0) else q.1=1/\q.2.1.1=cmpL (x.drop i) (y.drop i)):=by
  intro n;induction n with
  | zero =>
    intro i B C D;obtain rfl:i=x.length:=ah;refine⟨(0,(0,x.length,()),()),?_,?_⟩
    .rw[aN];have:dI (x,()) (y,()) ((0,x.length,()),())=aa (.inr (0,(0,x.length,()),())):=by
      unfold dI;rw[aq,ag,ag]
     grind
    .rw[aQ rfl,IW];by_cases h:x.length<y.length
     .rw[aQ h];cases hd:y.drop x.length with
      | nil=>have:=congrArg List.length hd;simp at this;omega
      | cons b r=>rfl
     .rw[aK h,Fy ah,aK ah];rfl
  | succ n K =>
    intro i B C D;by_cases hi:i<x.length
    .obtain⟨u,o⟩:∃u,x[i]?=aa u:=⟨_,fH hi⟩;obtain⟨E,f⟩:=iy.1 o;have p:x.drop i=u::x.drop (i+1):=by rw[BT hi,f]
     rw[aN];by_cases d:i<y.length
     .obtain⟨v,s⟩:∃v,y[i]?=aa v:=⟨_,fH d⟩;obtain⟨F,j⟩:=iy.1 s;have G:y.drop i=v::y.drop (i+1):=by rw[BT d,j]
      have st:dI (x,()) (y,()) ((0,(i:Int),()),())=if u=v then aa (.inl ((0,((i+1:Nat):Int),()),())) else aa (.inr (1,(if fM u v=true then -1 else 1,(i,())),())):=by
       unfold dI;rw[al hi,al d,ai,ai,ao o,ab,ao s,ab,ab,ab,X4];rcases GL u v with h|rfl|h
       .rw[h,ai,aK (MV h),aQ rfl]
       .rw[ub,ag,ag,aQ rfl,aB ah]
       .rw[rQ h,ag,h,ai,aK (λe=>MV h e.symm),aK aT]
      rw[ p,G,cmpL]
      grind
     .have st:dI (x,()) (y,()) ((0,i,()),())=aa (.inr (0,(0,i,()),())):=by
       unfold dI;rw[al hi,yP,cd d,ai,ag]
      rw[st];refine⟨_,rfl,?_⟩;rw[aQ rfl,p,show y.drop i=[] from Fy ah,aK ah,aQ ah];rfl
    .grind
 obtain⟨q,H,c⟩:=run x.length 0 ah ah ah;have k:Loop (dI _ _) ((0,0,()),())=aa q:=H;rw[k,ab];rw[DU,DU] at c;by_cases h:q.1=0
 .rw[aQ h] at c;rw[h,cO,ai,GJ,GJ,c];by_cases l:x.length<y.length
  .rw[cU l,ai,aQ l]
  .rw[cd l,ag,aK l];by_cases m:y.length<x.length
   .rw[cU m,ai,aQ m]
   .rw[cd m,ag,aK m]
 .rw[aK h] at c;rw[c.1,gL,ag,c.2]
def Jp s p:cu (s,p,())=aa (decide<|s.take p.length=p,()):=by
 unfold cu;rw[MS];by_cases h:p.length<=s.length
 .rw[cU h,show inside 0 (len p) (len s)=true from aO aD (by rw[bw];omega) (by rw[bw,bw];omega)];rfl
 .rw[cd h,ag,ab,cd]
  grind
def M7 s p:cB (s,p,())=aa (decide<|s.take p.length=p,()):=by
 unfold cB;rw[Jp,ab]
def Fb s p:ou (s,p,())=aa (decide<|s.take p.length=p,()):=by
 unfold ou;rw[MS];by_cases h:p.length<=s.length
 .rw[cU h,show inside 0 (len p) (len s)=true from aO aD (by rw[bw];omega) (by rw[bw,bw];omega)];rfl
 .rw[cd h,ag,ab,cd]
  grind
def aeY s p:kE (s,p,())=aa (if s.take p.length=p then(s.drop p.length,true,()) else(s,false,())):=by
 unfold kE fk;rw[Jp,ab];by_cases h:s.take p.length=p
 .have a:p.length<=s.length:=by
   grind
  rw[cU h,aW,ag,show inside (len p) _ (len s)=true from aO (by rw[bw];omega) (by rw[bw,bw];omega) (tr _),ai,ab,aQ h];rw[show sub s (len p) (minus _<|len p)=s.drop p.length from jd s p.length a]
 .rw[cd h,aE,ai,ab,aK h]
def Po l s (n:l.length<=1048576):bC (l,s,())=aa (decide<|s∈l,()):=by
 unfold bC eO;have key:=qo (f:=bT (l,s,())) l (λ_ i=>((0,i,()),()))
  (λi _ x=>aa (if s=x then .inr _ else .inl ())) (λi _=>(0,(0,i,()),())) (λ_ _=>True)
  (λu i x d j _=>by
   unfold bT;rw[al j,ao d,ab];by_cases e:s=x
   .rw[cc e,aQ e];rfl
   .rw[aY e,aK e,aB ah];rfl)
  (λ_ _ _ _ _ _ _=>trivial)
  (λu _=>by
   unfold bT;rw[aq,ag])
  (λ_ _ _ _ _ h=>by cases h) () trivial
 have run:∀r i,∃q,vu (λi _ x=>aa (if s=x then aA (1,((i:Int),(i:Int),()),()) else az ())) (λi _=>(0,(0,i,()),())) r i ()=aa q /\
   (if s∈r then q.1=1/\0<=q.2.1.1 else q.1=0):=by
  intro r;induction r with
  | nil=>intro i;exact⟨_,rfl,aT⟩
  | cons x r o =>
    unfold vu;by_cases h:s=x
    .simp_all
    .simp_all
 obtain⟨q,k,a⟩:=run l 0;have c:Loop (bT _) ((0,0,()),())=aa q:=key.trans k;rw[c,ab];by_cases h:s∈l
 .rw[aQ h] at a;rw[a.1,gL,ag,ab,cU h];rw[bz a.2]
 .rw[aK h] at a;rw[a,cd h];rfl
def wh:bb:=[46,119,104,46]
def nW(n:bb):Int×bb :=
 if n.take 4=wh then(if n.drop 4=[46,119,104,46,46,111,112,113] then(2,[]) else if(n.drop 4).take 4=wh\/n.drop 4=[]\/n.drop 4=[46]\/n.drop 4=[46,46] then(3,[]) else(1,n.drop 4)) else(0,n)
def VK n:sz (n,())=aa ((nW n).1,(nW n).2,()):=by
 unfold sz nW;rw[show([46,119,104,46])=wh from rfl,aeY,ab,show wh.length=4 from rfl];by_cases h:n.take 4=wh
 .have e:n=wh++n.drop 4:=by rw[<-h,Fz]
  rw[aQ h,aQ h];rw[aW,ag];generalize n.drop 4=r at e;by_cases a:r=[46,119,104,46,46,111,112,113]
  .rw[aQ a,cc (by rw[e,a];rfl),ai]
  .rw[aK a,aY (by rw[e];intro q;exact a (by simpa [wh] using q)),ag,M7,ab];rw[show wh.length=4 from rfl];by_cases c:r.take 4=wh
   .rw[aQ<|.inl c,cU c,aW,ag,ab,ai]
   .rw[cd c,aE,ai,Po _ _ aD,ab,ab,MU]
    grind
 .rw[aK h,aK h];rfl
def Jq n:sB (n,())=aa ((nW n).1,(nW n).2,()):=by
 unfold sB nW;rw[Fb,Fb];by_cases h:n.take 4=wh
 .have e:n=wh++n.drop 4:=by rw[<-h,Fz]
  rw[aQ h];generalize j:n.drop 4=r at e;by_cases a:r=[46,119,104,46,46,111,112,113]
  .rw[aQ a,cc (by rw[e,a];rfl),ai]
  .rw[aK a,aY (by rw[e];intro q;exact a (by simpa [wh] using q)),ag,ab];have k:decide (n.take ([46,119,104,46,46,119,104,46]:bb).length=[46,119,104,46,46,119,104,46])=decide (r.take 4=wh):=by
    rw[e];apply gm.2;simp[wh]
   have l:bt n [46,119,104,46]=decide (r=[]):=by
    rw[e];apply gm.2;simp[wh]
   have o:bt n [46,119,104,46,46]=decide (r=[46]):=by
    rw[e];apply gm.2;simp[wh]
   have p:bt n [46,119,104,46,46,46]=decide (r=[46,46]):=by
    rw[e];apply gm.2;simp[wh]
   have s:decide (n.take ([46,119,104,46]:bb).length=[46,119,104,46])=true:=cU h;rw[k,l,o,p,s];have v:ak (ak (nt<|ak (nt<|ak (nt<|decide<|r.take 4=wh) (decide<|r=[]) true) (decide<|r=[46]) true) (decide<|r=[46,46]) true)=λ(x y:Option (Int×bb×aj))=>if r.take 4=wh\/r=[]\/r=[46]\/r=[46,46] then x else y:=by
    funext x y;by_cases c:r.take 4=wh
    .simp[c,ak,nt]
    .by_cases d:r=[]
     .simp[d,ak,nt]
     .by_cases f:r=[46]
      .simp[f,ak,nt]
      .by_cases i:r=[46,46]
       .simp[i,ak]
       .rw[aK<|by simp[c,d,f,i]];simp[c,d,f,i,ak,nt]
   rw[v];dsimp only;by_cases b:r.take 4=wh\/r=[]\/r=[46]\/r=[46,46]
   .grind
   .rw[aK b,aK b,ab];have w:4<=n.length:=by rw[e];simp[wh]
    rw[ai,show inside 4 _ _=true from aO aD (by rw[bw];omega) (tr _),ai,show sub n 4 (minus _ 4)=n.drop 4 from jd n 4 w,j]
 .rw[aK h];have A:n≠[46,119,104,46,46,119,104,46,46,111,112,113]:=λq=>h (by rw[q];rfl);have B:n≠[46,119,104,46]:=λq=>h (by rw[q];rfl);have C:n≠[46,119,104,46,46]:=λq=>h (by rw[q];rfl);have D:n≠[46,119,104,46,46,46]:=λq=>h (by rw[q];rfl);have E:¬n.take ([46,119,104,46,46,119,104,46]:bb).length=[46,119,104,46,46,119,104,46]:=λq=>h (by
   have:=congrArg (List.take 4) q;rw[Oz] at this;exact this)
  rw[aY A,ag,ab];rw[cd E,aY B,aY C,aY D];rw[show ak _=λx y=>y from rfl];rw[ab];rw[cd<|by exact h,ag]
def ai5{a b:Bool}:ak (nt a) b true=(a||b):=by cases a<;>rfl
def nX{a b}:ak a b false=(a&&b):=by cases a<;>rfl
def abw{s}(h:(lF s).2=0):nV s=true/\(lF s).1=aR (names s):=by
 unfold lF at h⊢
 grind
def rU{s}(h:nV s=true):(names s).all ue=true/\(names s).length<=8/\(aR<|names s).length<=96:=by
 unfold nV at h
 grind
def Yg{l}(h:∀x∈l,47∉x/\x≠[]):(aR l).head?≠aa 47:=by
 cases l with
 | nil=>simp[aR]
 | cons x r =>
   obtain⟨c,a⟩:=h x (ri ..);have e:(aR (x::r)).head?=x.head?:=by
    cases x with
    | nil=>exact absurd rfl a
    | cons b x=>cases r<;>simp[aR]
   cases x with
   | nil=>exact absurd rfl a
   | cons b x =>
     grind
def M8 l a (h:∀x∈a++l,47∉x/\x≠[]):l.foldl rT (aR a)=aR (a++l):=by
 induction l generalizing a with
 | nil=>simp
 | cons x r f =>
   have e:rT (aR a) x=aR (a++[x]):=by
    unfold rT;cases a with
    | nil=>rfl
    | cons y q =>
      have d:aR (y::q)≠[]:=by
       have:=(h y aT).2;cases q with
       | nil=>exact this
       | cons z q=>rw[aR];simp
      have gen:∀y q,aR (y::q++[x])=aR (y::q)++47::x:=by
       intro y q;induction q generalizing y with
       | nil=>rfl
       | cons z q c =>
         rw[Lj,Lj,aR,<-Lj,c z];rw[aR];simp
      grind
   grind
def CC{l}(h:∀x∈l,47∉x/\x≠[]) c:bd (aR l)=(aR l.dropLast,l.getLast c):=by
 have d:=GU l c λx i=>(h x i).1;rcases rS _ with ⟨e,f⟩|⟨a,b,j,e,f⟩
 .rw[pN _ e] at d;rw[f];generalize aR l=p at d;subst d;rfl
 .rw[f];rw[j,CA a b e] at d;subst d;rw[List.dropLast_concat,List.getLast_concat,wS]
def GW(a:Tx)(x:Nm):List Tx:=if x.1.take a.length=a then [x.1] else []
def M9(l:List Nm)(a:Tx):List Tx:=l.flatMap (GW a)
def pO(c:Tx)(f:List Tx):Tx×Int×aj:=if c=[]\/6<=c.length then([],3,()) else match f with|[]=>([],3,())|[a]=>(a,0,())|_=>([],9,())
def aS(l:List Nm)(a:Tx):Tx×Int×aj:=if ∃x∈l,x.1=a then(a,0,()) else
 match l.find? (λx=>decide (a∈x.2.1)) with|some x=>(x.1,0,())|none=>pO a (M9 l a)
def S4(c:Tx) f:ak (ak (nt<|ak (nt<|bt c ([]:Tx)) (ch 6<|@len UInt8 c) true) (aG (@len Tx f) 0) true) (aa (([]:Tx),3,()))
  (ak (aL 1<|@len Tx f) (aa (([]:Tx),9,()))<|ak (within 0<|@len Tx f) (ae (@idx Tx f 0) λi=>aa (i,0,())) af)=aa (pO c f):=by
 have j:bt c ([])=decide (c=[]):=rfl;have k:ch 6 (@len UInt8 c)=decide (6<=c.length):=by unfold len;apply gm.2;omega
 unfold pO;rw[j,k];by_cases d:c=[]
 .rw[aQ<|.inl d,cU d];rfl
 .rw[cd d];by_cases e:6<=c.length
  .rw[aQ<|.inr e,cU e];rfl
  .rw[aK<|by rintro(h|h);exact d h;exact e h,cd e]
   match f with
   | []=>rfl
   | [a]=>rfl
   | a::b::r =>
     have:aL 1 (@len Tx (a::b::r))=true:=aH (by simp only[len,iD];omega);rw[ this];rfl
def Yh(l:List Nm) ref (j:l.length<=1000000) (q:Nat×(Int×Int×aj)×Tx×aj) (c:q.2.2.1=ref) :
  Loop (pv (l,ref,()) q) (((),0,()),([]:List Tx),())=aa (((),(l.length:Int),()),M9 l ref,()):=by
 refine hJ l (λa i=>(((),i,()),a,())) (GW ref) _ ah (λi x d e f=>?_) ?_
 .have k:((l.take i).flatMap<|GW ref).length<=l.length:=by
   have:=eY (g:=GW ref) (λx=>by unfold GW;split<;>simp) l i;omega
  unfold pv;rw[al e,ao d,ab,c,M7,f];unfold GW;by_cases h:x.1.take ref.length=ref
  .rw[cU h,aQ h];have:fits (plus (@len Tx<|(l.take i).flatMap<|GW ref)<|@len Tx<|[x.1])=true:=aJ (by show _+1<=_;omega);unfold GW at this;rw[this];rfl
  .rw[cd h,aK h];rw[tK];rfl
 .unfold pv;rw[aq];rfl
def mR l (ref:Tx) (d:Small l) (e:l.length<=1000000):iu (l,ref,())=aa (aS l ref):=by
 unfold iu;have mid:∀{f1},f1=pt (l,ref,()) ->
   (∃(i:Nat) (x:Nm),l[i]?=aa x/\decide (ref∈x.2.1)=true/\(∀j y,j<i->l[j]?=aa y->decide (ref∈y.2.1)=false)/\Loop f1 ((0,0,()),ref,())=aa (1,((i:Int),(i:Int),()),ref,())) \/
   ((∀(i:Nat) x,l[i]?=aa x->decide (ref∈x.2.1)=false)/\Loop f1 ((0,0,()),ref,())=aa (0,(0,len l,()),ref,())):=by
  intro f1 s;subst s;exact eu l (λi=>((0,i,()),_)) _ _ _ d.1 (λi x a c k=>by
   unfold pt;rw[al c,ai,ao a,ab,Cv x.2.1 ref (d.2 x<|eG a),ab,da,k];by_cases h:ref∈x.2.1<;>simp[h]) (by unfold pt;rw[aq];rfl)
 rcases eu (f:=pr (l,_)) l (λi=>((0,i,()),ref,())) (λ_ x=>decide (x.1=ref)) (λi x=>(1,(i,i,()),ref,())) _ d.1 (λi x a c k=>by
  unfold pr;rw[al c,ai,ao a,ab,da,k];by_cases h:x.1=ref<;>simp[bt,h]) (by unfold pr;rw[aq];rfl) with ⟨i,x,a,n,r,h⟩|⟨o,h⟩
 .rw[h,ab];dsimp only;rw[show cl 1 0=false from rfl,ag,bz ah,ai];unfold aS;rw[aQ ⟨x,eG a,fb n⟩]
 .rw[h,ab];rw[show cl 0 0=true from rfl,ai,show ch 0 (-1)=false from rfl,ag];have p:¬∃x∈l,x.1=ref:=by
   rintro⟨x,a,v⟩;obtain⟨i,c⟩:=bc.1 a;have:=o i x c;simp[v] at this
  unfold aS;rw[aK p];rcases mid rfl with ⟨i,x,a,n,r,h⟩|⟨o,h⟩
  .rw[h,ab];dsimp only;rw[show cl 1 0=false from rfl,ag,bz ah,ai,ao a,ab];have:l.find? (λx=>decide (ref∈x.2.1))=aa x:=by
    rw[aaA];refine⟨n,i,av a,?_,λj q=>?_⟩
    .have:=fH (av a);rw[a] at this;exact(aI this).symm
    .have w:=av a;have:=r j l[j] q (fH ah);simpa using this
   rw[this]
  .rw[h,ab];rw[ Yh l ref e _ rfl];have:l.find? (λx=>decide (ref∈x.2.1))=none:=by
    rw[TI];intro x a;obtain⟨i,c⟩:=bc.1 a;have:=o i x c;simpa using this
   rw[this];exact S4 ref _
def idN(n:Int):Tx:=vy (bq [kz .u8<|jt .i64 n 16,kz .u8 (jt .i64 n 8),kz .u8 n])
def idK(d:Int)(k:Nat):Tx:=idN (gd (aw .i64 (gM .i64 d 16777215) (k:Int)) 16777216)
def akN(s:Tx):Prop:=(H9 s).isSome=true/\s.length=6
def Pp n:yJ (n,())=aa (idN n,()):=by
 unfold yJ;rw[ SV _ (by show 3<=1048576;omega)];rfl
def ai7 n:akN (idN n):=by
 have h:∀a b c,(H9<|vy [a,b,c]).isSome=true/\(vy [a,b,c]).length=6:=λa b c=>⟨by rw[Ia];rfl,rfl⟩;apply h
def Ab(l:List Nm)(d:Int)(k:Nat):Bool:=decide (∀x∈l,x.1≠idK d k)
def dB(l:List Nm)(d:Int):Tx×Int×aj:=if 32<=l.length then([],5,()) else
 match(List.range<|l.length+1).find? (Ab l d) with|some k=>(idK d k,0,())|none=>([],5,())
def abx(l:List Nm) d (s:Tx) (o:l.length<=1000000) :
  (∃i:Nat,Loop (gJ (l,d,())) (((0:Int),(0:Int),()),s,())=aa (1,((i:Int),(i:Int),()),s,())/\∃x∈l,x.1=s) \/
  (Loop (gJ (l,d,())) ((0,0,()),s,())=aa (0,(0,len l,()),s,())/\∀x∈l,x.1≠s):=by
 rcases eu (f:=gJ (l,_)) l (λi=>((0,i,()),s,())) (λ_ x=>decide (x.1=s)) (λi x=>(1,(i,i,()),s,())) _ ah (λi x a c e=>by
  unfold gJ;rw[al c,ai,ao a,ab,da,e];by_cases h:x.1=s<;>simp[bt,h]) (by unfold gJ;rw[aq];rfl) with ⟨i,x,a,j,p,h⟩|⟨k,h⟩
 .exact .inl ⟨i,h,x,eG a,fb j⟩
 .refine .inr ⟨h,λx a n=>?_⟩;obtain⟨i,c⟩:=bc.1 a;have:=k i x c;simp[n] at this
def Ih(l:List Nm) d:iQ (l,d,())=aa (dB l d):=by
 unfold iQ dB;have f:ch 32 (len l)=decide (32<=l.length):=by unfold len;apply gm.2;omega
 rw[f];by_cases a:32<=l.length
 .rw[cU a,aQ a];rfl
 rw[cd a,aK a];have q:aw .i64 (len l) 1=((l.length+1):Int):=by rw[fA dR dR];unfold len;omega
 have hlen:(List.range _).length=l.length+1:=Rq;have key:∀k,k<l.length+1->nN (l,_) ((([]),0,k,()),())=aa (if Ab l d k=true then .inr _ else .inl _):=λk c=>by
  unfold nN;dsimp only;rw[ aH ah,Pp,(aB ah)];show ae _ _=_
  rcases abx l d _ ah with ⟨i,h,x,e,s⟩|⟨h,n⟩
  .rw[h,ab];dsimp only;rw[show cl 1 0=false from rfl,ag,bz ah,aW,ag,aK (by unfold Ab;rw[TU];exact λv=>v x e s)]
  .rw[h,ab];rw[ aQ (by unfold Ab;rw[TU];exact n)];rfl
 rcases eu (List.range<|l.length+1) (λk=>((([]),0,k,()),())) _ _ _ ah
  (λk x e r A=>key k (by rw[hlen] at r;exact r)) (by
   unfold nN;dsimp only;rw[ aC ah,ag]) with ⟨k,x,e,w,y,h⟩|⟨n,h⟩
 .have c:=av e;rw[hlen] at c;rw[h];have o:(List.range<|l.length+1).find? (Ab l d)=aa k:=by
   rw[aaA];refine⟨w,k,by rw[hlen];exact c,aT,λj p=>?_⟩;have:=y j j p (by rw[Ox ah]);simpa using this
  rw[o];rfl
 .rw[h];have o:(List.range<|l.length+1).find? (Ab l d)=none:=by
   rw[TI];intro k c;have:=n k k (by rw[Ox<|Ln.1 c]);simpa using this
  rw[o];rfl
def CD{l d}(h:(dB l d).2.1=0):l.length<32/\akN (dB l d).1/\∀x∈l,x.1≠(dB l d).1:=by
 unfold dB at h⊢;by_cases a:32<=l.length
 .rw[aQ a] at h;cases h
 .rw[aK a] at h⊢;cases c:(List.range _).find? _ with
  | none=>rw[c] at h;cases h
  | some k =>
    have:=Ze c;exact⟨ah,ai7 _,fb this⟩
def ai8 d:∃m:Nat,m<16777216/\gM .i64 d 16777215=m:=by
 refine⟨(BitVec.ofInt IntKind.i64.bits d &&& BitVec.ofInt IntKind.i64.bits 16777215).toNat,?_,?_⟩
 .rw[BitVec.toNat_and];exact Nat.lt_succ_of_le Nat.and_le_right
 .unfold gM;have h:(BitVec.ofInt IntKind.i64.bits d &&& BitVec.ofInt IntKind.i64.bits 16777215).toNat<16777216:=by
   exact Nat.lt_succ_of_le Nat.and_le_right
  exact wP ah ah
def aii d:∃m,∀k:Nat,k<=64->gd (aw .i64 (gM .i64 d 16777215) k) 16777216=(((m+k) % 16777216:Nat):Int):=by
 obtain⟨m,a,e⟩:=ai8 d;refine⟨m,λk c=>?_⟩;rw[e,fA ah ah];exact vx _ 16777216
def VL(n:Nat):Nat->Tx
 | 0=>[]
 | k+1=>hx (n / 16 ^ k % 16)::VL n k
def aeZ n k:(VL n k).length=k:=by
 induction k with
 | zero=>rfl
 | succ k a=>simp only[VL,iD,a]
def ae0{i:Nat}(h:i<16):sub Ph i (minus ((i+1:Nat):Int) i)=[hx i]:=by
 have a:Ph.length=16:=rfl;refine sub_one ?_;unfold hx;rw[ahT,fH ah];rfl
def aby(n:Nat)(j:n<16777216):AN (n,())=aa (VL n 6,()):=by
 unfold AN;have key:=cV (f:=uQ) 6 (λk=>((((n / 16 ^ k:Nat):Int),VL n k,k,()),())) (λk l=>by
  unfold uQ;dsimp only;have a:gd ((n / 16 ^ k:Nat):Int) 16=_:=vx _ 16;have c:n / 16 ^ k<=n:=Nat.div_le_self _ _;have d:Ho .i64 ((n / 16 ^ k:Nat):Int) 16=((n / 16 ^ (k+1):Nat):Int):=by
   rw[Nat.pow_succ,<-Nat.div_div_eq_div_mul];generalize n / 16 ^ k=q at c;have e:(q:Int).tdiv 16=((q / 16:Nat):Int):=by
    rw[Int.tdiv_eq_ediv_of_nonneg ah];omega
   exact wP ah ah
  rw[a,d,aB ah,aB ah,aH ah];have i:([48,49,50,51,52,53,54,55,56,57,97,98,99,100,101,102])=Ph:=rfl;rw[i,ae0 (BW _ aD),aO ah ah (by show _<=16;omega),aJ (by rw[aeZ];simp;omega)];rfl) (by
  unfold uQ;dsimp only;rfl)
 rw[show((n:Int),_)=((((n / 16 ^ 0:Nat):Int),VL n 0,((0:Nat):Int),()):Int×Tx×Int×aj) from by rw[ Nat.div_one];rfl,key,ab]
def Ac(n k:Nat)(a:k<=60):jt .i64 n k=((n / 2 ^ k:Nat):Int):=by
 unfold jt;rw[show min _ IntKind.i64.bits=k from by show min k 64=k;omega,ahR _ (by exact Int.le_of_lt<|Int.pow_pos aD)]
 norm_cast
def S5(m:Nat):(UInt8.ofNat (kz .u8 m).toNat).toNat=m % 256:=by
 rw[aiW,show((m:Int) % 256).toNat=m % 256 by omega];simp
def aha(n:Nat)(a:n<16777216):idN n=VL n 6:=by
 unfold idN;rw[show jt .i64 n 16=_ from Ac n 16 aD,show jt .i64 n 8=_ from Ac n 8 aD];simp only[bq,T1,List.map_nil,vy,S5,VL];rw[show n / 2 ^ 16 % 256 / 16=n / 16 ^ 5 % 16 by omega,show n / 2 ^ 16 % 256 % 16=n / 16 ^ 4 % 16 by omega,show n / 2 ^ 8 % 256 / 16=n / 16 ^ 3 % 16 by omega,show n / 2 ^ 8 % 256 % 16=n / 16 ^ 2 % 16 by omega,
  show n % 256 / 16=n / 16 ^ 1 % 16 by omega,show n % 256 % 16=n / 16 ^ 0 % 16 by omega]
def ahb{n m:Nat}(f:n<16777216)(i:m<16777216)(h:idN n=idN m):n=m:=by
 unfold idN at h;have e:=congrArg H9 h;rw[Ia,Ia] at e;have d:=aI e;rw[show jt .i64 n 16=_ from Ac n 16 aD,show jt .i64 n 8=_ from Ac n 8 aD,
  show jt .i64 m 16=_ from Ac m 16 aD,show jt .i64 m 8=_ from Ac m 8 aD] at d
 simp only[bq,T1,adf,T6] at d;obtain⟨a,b,c⟩:=d;have a:=congrArg UInt8.toNat a;have b:=congrArg UInt8.toNat b;have c:=congrArg UInt8.toNat c;rw[S5,S5] at a b c;omega
def Jr(l:List Nm)(s:Tx):Bool:=l.any λy=>decide (y.1=s)
def ae1(l:List Nm) d (s:Tx) (c:l.length<=1000000) :
  Loop (lz (l,d,()) (s,())) ((false,0,()),())=aa ((Jr l s,((l.length:Nat):Int),()),()):=by
 have key:=cV (f:=lz (l,d,()) (s,())) l.length (λk=>((Jr (l.take k) s,k,()),())) (λk a=>by
  have hx:=fH a;unfold lz;rw[al a,ao hx,aB ah];have e:Jr (l.take<|k+1) s=(Jr (l.take k) s||decide (l[k].1=s)):=by
   unfold Jr;rw[yn,hx,List.any_append];simp
  rw[e];cases Jr _ s with
  | true=>rfl
  | false=>rfl) (by
  unfold lz;rw[aq,zw];rfl)
 exact key
def Yi l d (h:l.length<32):∃k,k<l.length+1/\Ab l d k=true:=by
 apply BK;intro i;obtain⟨m,r⟩:=aii d;have c:∀k,k<=64->idK d k=idN _:=λk j=>by unfold idK;rw[r k j]
 have e:(List.range<|l.length+1).map (idK d) ⊆ l.map (·.1):=by
  intro x s;obtain⟨k,j,rfl⟩:=Lq.1 s;have n:=λq=>i ⟨k,(Ln.1 j),q⟩;unfold Ab at n;rw[TU] at n;apply BK;intro v;exact n λy w f=>v (Lq.2 ⟨y,w,f⟩)
 have o:((List.range<|l.length+1).map<|idK d).Nodup:=by
  unfold List.Nodup;rw[List.pairwise_map];refine List.Pairwise.imp_of_mem (λ{a b} B p A f=>?_) (List.pairwise_lt_range);have p:=Ln.1 p;rw[c a ah,c b ah] at f;have:=ahb (BW _ aD) (BW _ aD) f;omega
 have hlen:=o.length_le_of_subset e;rw[y4,Rq,y4] at hlen;omega
def A5(l:List Nm) d (r:l.length<=1000000):ni (l,d,())=aa (dB l d):=by
 unfold ni dB;have i:ch 32 (len l)=decide (32<=l.length):=by unfold len;apply gm.2;omega
 rw[i];by_cases a:32<=l.length
 .rw[cU a,aQ a];rfl
 rw[cd a,aK a];obtain⟨m,o⟩:=aii d;have key:∀k:Nat,k<=32->pD (l,d,()) ((([]),0,k,()),())=aa (if Ab l d k=true then .inr _ else .inl _):=λk s=>by
  unfold pD;dsimp only;rw[bz ah,o k ah,aby _ (BW _ aD),ab,<-aha _ (BW _ aD),<-o k ah,ae1 l d _ r,ab,aB ah];have e:nt (Jr l<|idN<|gd (aw .i64 (gM .i64 d 16777215) k) 16777216)=Ab l d k:=by
   unfold Ab idK nt Jr;rw[Rs];simp
  rw[e];cases Ab l d k<;>rfl
 obtain⟨c,v,f⟩:=Yi l d ah;rcases eu (List.range 33) (λk=>((([]),0,k,()),())) _ _ _ aD
  (λk x p w D=>key k (by rw[Rq] at w;omega)) (by
   unfold pD;dsimp only;rw[Rq,cG ah,ag]) with ⟨k,x,p,y,q,h⟩|⟨A,h⟩
 .have s:=av p;rw[h];have B:k<=c:=by
   apply BK;intro E;have:=q c c ah (by rw[Ox ah]);rw[f] at this;cases this
  have C:(List.range<|l.length+1).find? (Ab l d)=aa k:=by
   rw[aaA];refine⟨y,k,by rw[Rq];omega,aT,λj n=>?_⟩;have:=q j j n (by rw[Ox ah]);simpa using this
  rw[C];rfl
 .have:=A c c (by rw[Ox ah]);rw[f] at this;cases this
abbrev It:=Tx×Tx×Tx×aj
def wU(l:List It)(p:Tx):Option Nat:=l.findIdx? λx=>decide (x.1=p)
def abz{l p i x}(a:l[i]?=aa x)(d:x.1=p)(e:∀j y,j<i->l[j]?=aa y->y.1≠p):wU l p=aa i:=by
 unfold wU;rw[WW];have hi:=av a;refine⟨hi,?_,λj c=>?_⟩
 .rw[fH hi] at a;rw[aI a];simpa using d
 .have:=e j l[j] c (fH ah);simpa using this
def abA{l p}(h:∀(i:Nat) x,l[i]?=aa x->x.1≠p):wU l p=none:=by
 unfold wU;rw[Y2];intro x a;obtain⟨i,c⟩:=bc.1 a;simpa using h i x c
def Fc(l:List It)(p:Tx):Tx×Int:=match l.find? λx=>decide (x.1=p) with|some x=>(x.2.2.1,0)|none=>([],3)
def QE{l p}{i:Nat}{x}(a:l[i]?=aa x)(d:x.1=p)(e:∀j y,j<i->l[j]?=aa y->y.1≠p):Fc l p=(x.2.2.1,0):=by
 unfold Fc;have hi:=av a;have:l.find? (λx=>decide (x.1=p))=aa x:=by
  rw[aaA];refine⟨by simpa using d,i,hi,?_,λj c=>?_⟩
  .rw[fH hi] at a;exact aI a
  .have:=e j l[j] c (fH ah);simpa using this
 rw[this]
def QF{l p}(h:∀(i:Nat) x,l[i]?=aa x->x.1≠p):Fc l p=([],3):=by
 unfold Fc;have:l.find? (λx=>decide (x.1=p))=none:=by
  rw[TI];intro x a;obtain⟨i,c⟩:=bc.1 a;simpa using h i x c
 rw[this]
def Ii{c:Type}[DecidableEq c]{a b:c}(h:decide (a=b)=false):a≠b:=by simpa using h
def Js(l:List It)(p:Tx)(r:l.length<=100000):lq (l,p,())=aa ((Fc l p).1,(Fc l p).2,()):=by
 unfold lq;rcases eu (f:=kO (l,_)) l (λi=>(((0,i,()),(),p,()))) (λ_ x=>decide _) _ _ ah (λi x a e c=>by
  unfold kO bY;rw[al e,ao a,ab,ab,c,u5];cases decide (x.1=p)<;>rfl) (by
  unfold kO;rw[aq,ag]) with ⟨i,x,a,k,n,h⟩|⟨o,h⟩
 .rw[h,ab];dsimp only;rw[show cl 1 0=false from rfl,ag,aC ah,ag,ao a,ab,QE a (fb k) λj y d q=>Ii (n j y d q)]
 .rw[h,ab];rw[show cl 0 0=true from rfl,ai,aH aD,ai,QF λi x a=>Ii (o i x a)]
def CE(l:List It)(p:Tx)(r:l.length<=100000):qN (l,p,())=aa ((Fc l p).1,(Fc l p).2,()):=by
 unfold qN;rcases eu (f:=l9 (l,p,())) l (λi=>((([]:Tx),(0:Int),i,()),())) (λ_ x=>decide (x.1=p)) (λi x=>(1,(x.2.2.1,(0:Int),(i:Int),()),())) (0,(([]:Tx),(0:Int),(l.length:Int),()),()) ah (λi x a e c=>by
  unfold l9;dsimp only;rw[al e,ai,ao a,ab,ab,c,u5];cases decide (x.1=p)<;>rfl) (by
  unfold l9;dsimp only;rw[aq,ag]) with ⟨i,x,a,k,n,h⟩|⟨o,h⟩
 .rw[h,ab];dsimp only;rw[show cl 1 0=false from rfl,ag,QE a (fb k) λj y d q=>Ii (n j y d q)]
 .rw[h,ab];dsimp only;rw[show cl 0 0=true from rfl,ai,QF λi x a=>Ii (o i x a)]
def Na(l:List It)(j:l.length<=100000):gK (l,l,())=aa (true,()):=by
 unfold gK;rw[au rfl];rcases eu (f:=jZ (l,l,())) l (λi=>((false,i,()),())) (λ_ _=>false) (λi _=>(1,(false,i,()),())) _ ah (λi x a c d=>by
  unfold jZ;rw[al c,ao a,ab,ab,cc rfl,cc rfl,cc rfl,d];rfl) (by unfold jZ;rw[aq,ag,ag]) with ⟨i,x,_,e,_⟩|⟨k,h⟩
 .cases e
 .rw[h];rfl
def TG(l:List It)(p:Tx):List It:=match wU l p with|some i=>l.take i++l.drop (i+1)|none=>l
def Ij(l:List It)(x:It):List It:=l.takeWhile (λy=>fM y.1 x.1)++[x]++l.dropWhile (λy=>fM y.1 x.1)
def nC(l:List It)(p d:Tx):List It×Int :=
 if ic p=true/\d.length<=64 then(if wU l p=af/\4<=l.length then([],5) else(Ij (TG l p) (p,SW d,d,()),0)) else([],1)
def ZU l p:(TG l p).length<=l.length:=by
 unfold TG;split
 .rw[iC,dk,rj];omega
 .apply bV
def ae2{l:List It}{p:Tx}{k}(f:k<=l.length)(d:∀j y,j<k->l[j]?=aa y->fM y.1 p=true)(e:∀y,l[k]?=aa y->fM y.1 p=false) :
  l.takeWhile (λy=>fM y.1 p)=l.take k/\l.dropWhile (λy=>fM y.1 p)=l.drop k:=by
 induction l generalizing k with
 | nil=>simp
 | cons a r i =>
   cases k with
   | zero =>
     have:=e a rfl;simp[ this]
   | succ k =>
     obtain⟨n,o⟩:=i (by simpa using f) (λj y q c=>d (j+1) y ah (by simpa using c)) (λy c=>e y (by simpa using c));simp only[Y8,TS,(d 0 a ah rfl),yq,Y9,List.drop_succ_cons,n,o];exact⟨trivial,trivial⟩
abbrev KS:=(Int×Int×aj)×aj×Tx×aj
abbrev PS':=(Int×Int×aj)×aj×It×aj
def Nb(l:List It)(p:Tx):Nat×(Int×Int×aj)×aj×Tx×aj:=match wU l p with
 | some i=>(1,((i:Int),(i:Int),()),(),p,())
 | none=>(0,((0:Int),(l.length:Int),()),(),p,())
def gb(m:List It)(p:Tx):Nat:=(m.takeWhile λy=>fM y.1 p).length
def VM(m:List It)(a:It):Nat×(Int×Int×aj)×aj×It×aj:=if gb m a.1<m.length then(1,((gb m a.1:Int),(gb m a.1:Int),()),(),a,()) else(0,((0:Int),(m.length:Int),()),(),a,())
def S6{f:KS->Option (KS⊕(Nat×KS))} l p (r:l.length<=100000)
  (d:∀(i:Nat) x,l[i]?=aa x->f ((0,i,()),(),p,())=aa (if decide (x.1=p)=true then .inr (1,(i,i,()),(),p,()) else .inl ((0,((i+1:Nat):Int),()),(),p,())))
  (e:f ((0,(l.length:Int),()),(),p,())=aa (.inr (0,(0,(l.length:Int),()),(),p,()))) :
  Loop f ((0,0,()),(),p,())=aa (Nb l p):=by
 unfold Nb;rcases eu l (λi=>(((0,i,()),_))) _ _ _ ah (λi x hx hi c=>d i x hx) e with ⟨i,x,hx,k,n,h⟩|⟨o,h⟩
 .rw[h,abz hx (fb k) λj y a q=>Ii (n j y a q)]
 .rw[h,abA λi x hx=>Ii (o i x hx)]
def wV{m}{p:Tx}{k}(a:k<=m.length)(c:∀j y,j<k->m[j]?=aa y->fM y.1 p=true)(d:∀y,m[k]?=aa y->fM y.1 p=false):gb m p=k:=by
 unfold gb;rw[(ae2 a c d).1,dk];omega
def K3{f:PS'->Option (PS'⊕(Nat×PS'))} m it (s:m.length<=100000)
  (o:∀(i:Nat) x,m[i]?=aa x->f ((0,i,()),(),it,())=aa (if nt (fM x.1 it.1)=true then .inr (1,(i,i,()),(),it,()) else .inl ((0,((i+1:Nat):Int),()),(),it,())))
  (p:f ((0,(m.length:Int),()),(),it,())=aa (.inr (0,(0,(m.length:Int),()),(),it,()))) :
  Loop f ((0,0,()),(),it,())=aa (VM m it):=by
 unfold VM;have a:∀{x:It},nt (fM x.1 it.1)=false->fM x.1 it.1=true:=λ{x} h=>by
  cases k:fM x.1 it.1 with
  | true=>rfl
  | false=>rw[k] at h;cases h
 rcases eu m (λi=>(((0,i,()),_))) _ _ _ ah (λi x hx hi l=>o i x hx) p with ⟨i,x,hx,n,q,h⟩|⟨r,h⟩
 .have hi:=av hx;have e:=wV ah (λj y d c=>a (q j y d c)) (λy c=>by
   rw[hx] at c;obtain rfl:=aI c;cases k:fM x.1 it.1 with
   | false=>rfl
   | true=>rw[k] at n;cases n)
  grind
 .have e:=wV (bV _) (λj y d c=>a (r j y c)) (λy c=>by
   rw[FA<|bV _] at c;cases c)
  grind
def abB m it (a:m.length<=100000):tR m ((gb m it.1:Nat):Int) [it]=aa (Ij m it):=by
 have c:gb m it.1<=m.length:=by
  unfold gb;have:=congrArg List.length (BJ (p:=λy:It=>fM y.1 it.1) (l:=m))
  grind
 unfold tR Ij;rw[show inside 0 _ _=true from aO aD ah dR,aJ cT];have e:=BJ (p:=λy=>fM y.1 it.1) (l:=m);have d:m.take (gb m it.1)=m.takeWhile (λy=>fM y.1 it.1):=by
  unfold gb
  grind
 grind
def ae3 m it (j:m.length<=100000) {f:PS'->Option (PS'⊕(Nat×PS'))} (h:Loop f ((0,0,()),(),it,())=aa (VM m it)) :
  (ae (Loop f ((0,0,()),(),it,())) λ(a:Nat×(Int×Int×aj)×aj×(bb×bb×bb×aj)×aj)=>ak (cl a.1 0)
 (ae (aM m (((ak (aL (-1:Int) 0)
 ((@len (bb×bb×bb×aj) m,()),())
 (((-1:Int),()),())).1).1,([a.2.2.2.1]:List (bb×bb×bb×aj)),())) λ(c:List (bb×bb×bb×aj))=>aa (c,(0:Int),()))
 (ae (aM m (((ak (aL a.2.1.1 0)
 ((@len (bb×bb×bb×aj) m,()),())
 ((a.2.1.1,()),())).1).1,([a.2.2.2.1]:List (bb×bb×bb×aj)),())) λ(c:List (bb×bb×bb×aj))=>aa (c,0,())))=aa (Ij m it,0,()):=by
 rw[h,ab];unfold VM aM;have e:=abB m it j;by_cases i:gb m it.1<m.length
 .rw[aQ i];dsimp only;rw[show cl 1 0=false from rfl,ag,aC ah,ag];rw[e,ab]
 .rw[aK i];have d:gb m it.1=m.length:=by
   have:gb m it.1<=m.length:=by
    unfold gb;have:=congrArg List.length (BJ (p:=λy=>fM y.1 it.1) (l:=m))
    grind
   omega
  rw[show cl 0 0=true from rfl,ai,aH aD,ai];rw[bw,<-d,e,ab]
def aij l p d g (k:l.length<=100000) {n:KS->Option (KS⊕(Nat×KS))} {o q:(aj×aj)×(List It)×aj->PS'->Option (PS'⊕(Nat×PS'))}
  (s:Loop n ((0,0,()),(),p,())=aa (Nb l p))
  (v:∀m f,m.length<=100000->Loop (o (((),()),m,())) ((0,0,()),(),f,())=aa (VM m f))
  (w:∀m f,m.length<=100000->Loop (q (((),()),m,())) ((0,0,()),(),f,())=aa (VM m f)) :
  (ak (fits<|@len (bb×bb×bb×aj) l)
 (ae (Loop n ((0,0,()),(),p,())) λ(j:Nat×(Int×Int×aj)×aj×bb×aj)=>ak (cl j.1 0)
 (ae (ak (ch 0 (-1:Int))
 (ae (bI l ((-1:Int),aw i64 (-1:Int) 1,())) λ(a:List (bb×bb×bb×aj))=>aa (((),()),a,()))
 (aa (((),()),l,()))) λ(a:(aj×aj)×(List<|bb×bb×bb×aj)×aj)=>ae (Loop (o a) ((0,0,()),(),(p,g,d,()),())) λ(c:Nat×(Int×Int×aj)×aj×(bb×bb×bb×aj)×aj)=>ak (cl c.1 (0:Nat))
 (ae (aM a.2.1 (((ak (aL (-1:Int) (0:Int))
 ((@len (bb×bb×bb×aj) a.2.1,()),())
 (((-1:Int),()),())).1).1,([c.2.2.2.1]:List (bb×bb×bb×aj)),())) λ(e:List (bb×bb×bb×aj))=>aa (e,(0:Int),()))
 (ae (aM a.2.1 (((ak (aL c.2.1.1 (0:Int))
 ((@len (bb×bb×bb×aj) a.2.1,()),())
 ((c.2.1.1,()),())).1).1,([c.2.2.2.1]:List (bb×bb×bb×aj)),())) λ(e:List (bb×bb×bb×aj))=>aa (e,(0:Int),())))
 (ae (ak (ch 0 j.2.1.1)
 (ae (bI l (j.2.1.1,aw i64 j.2.1.1 1,())) λ(a:List (bb×bb×bb×aj))=>aa (((),()),a,()))
 (aa (((),()),l,()))) λa=>ae (Loop (q a) ((0,0,()),(),(p,g,d,()),())) λ(c:Nat×(Int×Int×aj)×aj×(bb×bb×bb×aj)×aj)=>ak (cl c.1 0)
 (ae (aM a.2.1 (((ak (aL (-1:Int) 0)
 ((@len (bb×bb×bb×aj) a.2.1,()),())
 (((-1:Int),()),())).1).1,([c.2.2.2.1]:List (bb×bb×bb×aj)),())) λ(e:List (bb×bb×bb×aj))=>aa (e,(0:Int),()))
 (ae (aM a.2.1 (((ak (aL c.2.1.1 0)
 ((@len (bb×bb×bb×aj) a.2.1,()),())
 ((c.2.1.1,()),())).1).1,([c.2.2.2.1]:List (bb×bb×bb×aj)),())) λ(e:List (bb×bb×bb×aj))=>aa (e,0,()))))
 af)=aa (Ij (TG l p) (p,g,d,()),0,()):=by
 rw[dh ah,s,ab];unfold Nb TG bI;cases r:wU l p with
 | none =>
   exact ae3 l _ k (v l _ k)
 | some i =>
   have hi:i<l.length:=by
    unfold wU at r;rw[WW] at r
    grind
   have hlen:(l.take i++l.drop (i+1)).length<=100000:=by rw[iC,dk,rj];omega
   rw[ aB ah];unfold Ka;rw[je ah ah];exact ae3 _ _ hlen (w _ _ hlen)
def ahd{l p i}(h:wU l p=aa i):i<l.length:=by
 unfold wU at h;rw[WW] at h
 grind
def Jt(l:List It)(p d:Tx)(j:l.length<=100000)(r:d.length<=1048576):lp (l,p,d,())=aa ((nC l p d).1,(nC l p d).2,()):=by
 have s:Loop (kH (l,p,d,())) _=aa (Nb l p):=S6 l p j (λi x c=>by
  have hi:=av c;unfold kH bY;rw[al hi,ai,ao c,ab,ab,aB ah,u5];cases decide (x.1=p)<;>rfl) (by unfold kH;rw[aq,ag])
 have v:Loop (kI (l,p,d,())) _=aa (Nb l p):=S6 l p j (λi x c=>by
  have hi:=av c;unfold kI bY;rw[al hi,ai,ao c,ab,ab,aB ah,u5];cases decide (x.1=p)<;>rfl) (by unfold kI;rw[aq,ag])
 have w:Loop (kL (l,p,d,())) _=aa (Nb l p):=S6 l p j (λi x c=>by
  have hi:=av c;unfold kL bY;rw[al hi,ai,ao c,ab,ab,aB ah,u5];cases decide (x.1=p)<;>rfl) (by unfold kL;rw[aq,ag])
 have y:∀m _,m.length<=100000->Loop (kJ (((),()),m,())) _=aa _:=λm a f=>K3 m a f (λi x c=>by
  have hi:=av c;unfold kJ bY;rw[al hi,ai,aF ah (show(i:Int)<len m by unfold len;omega),ai,ao c,ab,ab,ab,aB ah];cases nt _<;>rfl) (by unfold kJ;rw[aq,ag])
 have A:∀m a,m.length<=100000->Loop (kK (((),()),m,())) _=aa (VM m a):=λm a f=>K3 m a f (λi x c=>by
  have hi:=av c;unfold kK bY;rw[al hi,ai,aF ah (show(i:Int)<len m by unfold len;omega),ai,ao c,ab,ab,ab,aB ah];cases nt (fM x.1 a.1)<;>rfl) (by unfold kK;rw[aq,ag])
 have B:∀m a,m.length<=100000->Loop (kM (((),()),m,())) _=aa (VM m a):=λm a f=>K3 m a f (λi x c=>by
  have hi:=av c;unfold kM bY;rw[al hi,ai,aF ah (show(i:Int)<len m by unfold len;omega),ai,ao c,ab,ab,ab,aB ah];cases nt (fM x.1 a.1)<;>rfl) (by unfold kM;rw[aq,ag])
 have C:∀m a,m.length<=100000->Loop (kN (((),()),m,())) _=aa _:=λm a f=>K3 m a f (λi x c=>by
  have hi:=av c;unfold kN bY;rw[al hi,aF ah (show i<len m by unfold len;omega),ao c,ab,ab,ab,aB ah];cases nt _<;>rfl) (by unfold kN;rw[aq,ag])
 unfold lp nC;rw[GN,ab];have n:aL 64 (len d)=decide (64<d.length):=by unfold len;apply gm.2;omega
 have o:ch 4 (len l)=decide (4<=l.length):=by unfold len;apply gm.2;omega
 rw[n];by_cases hv:ic p=true/\d.length<=64
 .rw[aQ hv,hv.1,cd ah,show ak (ak _ false true)=ak false from rfl,ag,s,ab,aeS d r];cases q:wU l p with
  | none =>
    have e:Nb l p=(0,(0,(l.length:Int),()),(),p,()):=by unfold Nb;rw[q]
    rw[e];rw[show cl 0 0=true from rfl,ai,aH aD,ai,o];by_cases k:4<=l.length
    .rw[cU k,ai,aQ ⟨rfl,k⟩]
    .rw[cd k,aK λh=>k h.2];exact aij l p d _ j v (λm a f=>y m a f) (λm a f=>A m a f)
  | some i =>
    have e:Nb l p=(1,((i:Int),(i:Int),()),(),p,()):=by unfold Nb;rw[q]
    rw[e];exact aij l p d _ j w (λm a f=>B m a f) (λm a f=>C m a f)
 .rw[aK hv];have:ak (ak (nt<|nt<|ic p) (decide<|64<d.length) true)=ak (α:=Option (List It×Int×aj)) true:=by
   cases E:ic p with
   | false=>rfl
   | true =>
     by_cases D:d.length<=64
     .grind
     .rw[cU ah];rfl
  rw[this,ai]
def ai9(l:List It)(p d:Tx)(o:l.length<=100000):Loop (iR (l,p,d,())) (((-1:Int),cA .i64 (len l) 1,()),())=aa (((match wU l p with|some i=>(i:Int)|none=>-1),(-1:Int),()),()):=by
 have key:∀n k,n<=l.length->(k=match(wU (l.drop n) p) with|some i=>((n+i:Nat):Int)|none=>-1) ->
   Loop (iR (l,p,d,())) ((k,n-1,()),())=aa (((match wU l p with|some i=>i|none=>-1),(-1),()),()):=by
  intro n;induction n with
  | zero =>
    intro k f c;rw[aN];unfold iR;dsimp only;rw[c];simp;rfl
  | succ n j =>
    intro k f c;rw[aN];unfold iR;dsimp only;have e:((n+1:Nat):Int)-1=n:=ah;rw[e,ao (fH ah),df ah ah];refine(j _ ah ?_);rw[(BT ah)];unfold wU;rw[List.findIdx?_cons];by_cases a:l[n].1=p
    .rw[cc a,ai,cU a];simp
    .rw[aY a,cd a];rw[c];unfold wU;cases List.findIdx? _ _ with
     | none=>rfl
     | some i=>exact congrArg _ (show n+1+i=n+(i+1) by omega)
 rw[df dR dR];exact(key l.length (-1) (bV _)<|by rw[IW];rfl)
def abC{a:Type}(m:List a) x {k} (h:m.length=k):(m++[x]).take k++(m++[x]).drop (k+1)=m.take k++m.drop (k+1):=by
 subst h;simp
def abD{e:Type}(m:List e) x {k} (h:m.length≠k):(m++[x]).take k++(m++[x]).drop (k+1)=m.take k++m.drop (k+1)++[x]:=by
 rw[List.take_append,List.drop_append];by_cases i:k<m.length
 .have a:k-m.length=0:=ah;have c:k+1-m.length=0:=ah;rw[a,c];simp
 .obtain⟨d,f⟩:∃d,k=m.length+1+d:=⟨k-m.length-1,ah⟩;subst f;have a:m.length+1+d-m.length=d+1:=ah;have c:m.length+1+d+1-m.length=d+2:=ah;rw[a,c,Fy ah];simp
def akO l (p d:Tx) (A:l.length<=100000) q (o:q=match wU l p with|some i=>i|none=>-1) :
  Loop (iS (l,p,d,()) ((q,(-1:Int),()),())) (((),0,()),([]:List It),())=aa (((),(l.length:Int),()),TG l p,()):=by
 obtain⟨t,r,s,B⟩:=uc (f:=iS (l,_) ((q,_),())) l (λt i=>(((),i,()),t,())) (λt i x=>if i=q then t else t++[x]) _
  (λt i=>t=(match wU l p with|some k=>(l.take i).take k++(l.take i).drop (k+1)|none=>l.take i)) ah (λt i x j v a n=>by
   have w:t.length<=l.length:=by
    rw[n];split
    .rw[iC,dk,rj,dk];omega
    .rw[dk];omega
   constructor
   .unfold iS;rw[al v,ai,ao j,ab,a];by_cases e:i=q
    .rw[au e,aW,ag,ab,aQ e,j9]
    .rw[ar e,aJ cT,aK e];rfl
   .have c:l.take (i+1)=l.take i++[x]:=by rw[yn,j];rfl
    have y:(l.take i).length=i:=by rw[dk];omega
    rw[n,o];cases C:wU l p with
    | none=>dsimp only;rw[aK ah,c]
    | some k =>
      dsimp only;rw[c];by_cases e:i=k
      .rw[aQ ah,abC _ x ah]
      .rw[aK ah,abD _ x ah]) (λt _=>by
   unfold iS;rw[aq];rfl) [] (by cases wU l p<;>simp)
 rw[s,r];unfold TG;rw[zw];all_goals (cases wU l p<;>rfl)
def ae4(l m:List It)(p d:Tx) n (A:m.length<=100000):Loop (iT (l,p,d,()) (((),n,()),m,())) ((0,()),())=aa (((gb m p:Int),()),()):=by
 rcases eu (f:=iT (l,p,_) (((),_),m,())) m (λi=>((i,()),())) (λ_ x=>nt (fM x.1 p)) _ _ ah (λi x o r e=>by
  unfold iT;dsimp only;rw[al r,aF ah dR,ao o,ab,e];cases fM x.1 p<;>rfl) (by
  unfold iT;rw[aq];rfl) with ⟨i,x,o,s,v,h⟩|⟨w,h⟩
 all_goals
  have a:∀{x:It},nt (fM x.1 p)=false->fM x.1 p=true:=λ{x} h=>by
   cases q:fM x.1 p with
   | true=>rfl
   | false=>rw[q] at h;cases h
 .have r:=av o;rw[h,wV ah (λj y k c=>a (v j y k c)) (λy c=>by
   rw[o] at c;obtain rfl:=aI c;cases q:fM x.1 p with
   | false=>rfl
   | true=>rw[q] at s;cases s)]
 .rw[h,wV (bV _) (λj y k c=>a (w j y c)) λy c=>by
  rw[FA<|bV _] at c;cases c]
def Yj m it:m.take (gb m it.1)++[it]++m.drop (gb m it.1)=Ij m it:=by
 unfold Ij;have e:=BJ (p:=λy=>fM y.1 it.1) (l:=m);have a:m.take (gb m it.1)=m.takeWhile (λy=>fM y.1 it.1):=by
  unfold gb
  conv=>lhs;rw[<-e]
  rw[List.take_left'];rw[e]
 have c:m.drop (gb m it.1)=m.dropWhile (λy=>fM y.1 it.1):=by
  unfold gb
  conv=>lhs;rw[<-e]
  rw[List.drop_left'];rw[e]
 rw[a,c]
def CF(l:List It)(p d:Tx)(j:l.length<=100000)(n:p.length<=4294967296)(o:d.length<=1048576):qM (l,p,d,())=aa ((nC l p d).1,(nC l p d).2,()):=by
 unfold qM nC;rw[Bu p n,ab];have c:aL 64 (len d)=decide (64<d.length):=by unfold len;apply gm.2;omega
 have e:ch 4 (len l)=decide (4<=l.length):=by unfold len;apply gm.2;omega
 rw[c];by_cases hv:ic p=true/\d.length<=64
 .rw[aQ hv,hv.1,cd ah,show ak (ak _ false true)=ak false from rfl,ag,ai9 l p d j,ab];rw[akO l p d j _ rfl,ab,e];dsimp only;have q:=ZU l p;rw[ae4 l _ p d _ ah,ab,Qw d o,ab];have k:gb (TG l p) p<=(TG l p).length:=by
   unfold gb;have:=congrArg List.length (BJ (p:=λy=>fM y.1 p) (l:=TG l p));rw[iC] at this;omega
  rw[fT,jd _ _ k];have v:((TG l p).take<|gb (TG l p) p).length<=100000:=by rw[dk];omega
  have r:((TG l p).drop<|gb (TG l p) p).length<=100000:=by rw[rj];omega
  rw[show inside 0 (gb _ p:Int) _=true from aO aD ah dR,ai,aJ cT,ai,aJ (by simp only[gU,Lk,iD,p6];omega),ai];rw[show inside (gb _ p:Int) _ _=true from aO ah dR (tr _),ai,aJ (by simp only[gU,iC,iD,p6];omega),ai];rw[show app (app (app [] _) [(p,_)]) _=Ij _ _ from(Yj _ _)];cases k:wU l p with
  | none =>
    rw[aH aD,ai];by_cases a:4<=l.length
    .rw[cU a,ai,aQ ⟨rfl,a⟩]
    .rw[cd a,ag,aK λh=>a h.2]
  | some i =>
    rw[aC<|Int.natCast_nonneg i,ag,ag,aK λh=>by cases h.1]
 .rw[aK hv];have:ak (ak (nt<|nt<|ic p) (decide<|64<d.length) true)=ak (α:=Option (List It×Int×aj)) true:=by
   cases s:ic p with
   | false=>rfl
   | true =>
     by_cases f:d.length<=64
     .exact absurd ⟨s,f⟩ hv
     .rw[cU ah];rfl
  rw[this,ai]
end Go.Ge
namespace Go.Ge
set_option maxRecDepth 100000
end Go.Ge
namespace Go.Ge
variable [Lp]
def S7(l:List It):∃b,ep (l,())=aa (b,())/\(b=true->l.length<=8/\∀x∈l,x.1.length<=100/\x.2.2.1.length<=200):=by
 unfold ep;rcases rA (f:=eA (l,())) l 8 (λi=>((false,i,()),())) (λ_ x=>decide _||decide (200<x.2.2.1.length)) _ (λm=>_) ah (λi x c a j k=>by
  unfold eA;dsimp only;have n:∀{m:bb},aL 100 (len m)=decide (100<m.length):=λ{m}=>by unfold aL len;apply gm.2;omega
  have o:∀{m:bb},aL 200 (len m)=decide (200<m.length):=λ{m}=>by unfold len;apply gm.2;omega
  rw[al a,aH ah,ao c,ab,ab,n,o,k];cases decide (100<x.1.length)<;>cases decide (200<x.2.2.1.length)<;>rfl) (by
  unfold eA;have:ak (aL ((min 8 l.length:Nat):Int)<|len l) (aL ((min 8 l.length:Nat):Int) 8) false=false:=by
   by_cases h:l.length<=8
   .rw[Nat.min_eq_right h,aq,ag]
   .rw[xh ah];cases aL 8 _<;>rfl
  rw[this,ag]) with ⟨i,x,a,c,q,_,h⟩|⟨d,h⟩
 .rw[h];exact⟨false,rfl,λh=>(by cases h)⟩
 .rw[h];refine⟨_,rfl,λe=>?_⟩;have p:l.length<=8:=by
   unfold ch len at e;simp at e;omega
  refine⟨p,λx c=>?_⟩;obtain⟨i,a⟩:=bc.1 c;have:=d i x (by have:=av a;omega) a;simp at this;omega
abbrev xY:=Tx×Int×aj
abbrev aU:=List AX×List lD×List cD×List Tx×List xY×aj
def vz(l:List Item):Prop:=l.length<=8/\∀x∈l,x.1.length<=100/\x.2.2.1.length<=200
structure akP (b:Qt):Prop extends SR b where
 im:∀x∈b.2.2.1,x.2.2.2.1.length<=200/\vz x.2.2.2.2.1
 bm:∀x∈b.2.2.2.1,x.2.2.2.2.1.length<=200/\vz x.2.2.2.2.2.1
 m40:b.2.2.1.length<=40/\b.2.2.2.1.length<=40
def abE(b:Qt):∃c,rL (b,())=aa (c,())/\(c=true->akP b):=by
 obtain⟨a,k⟩:∃a,∀l,lN (l,())=aa (a l,())/\(a l=true->pL l):=⟨λl=>Classical.choose _,λl=>Rm (Qu l)⟩;obtain⟨e,o⟩:∃a,∀l,ep (l,())=aa (a l,())/\(a l=true->vz l):=⟨λl=>Classical.choose _,λl=>Rm (S7 l)⟩;obtain⟨G,d,A⟩:=aeD b;refine⟨G,d,λC=>?_⟩;obtain⟨H,D⟩:=A C
 suffices q:_/\_ from⟨H,q.1,q.2,D.2⟩
 subst C;obtain⟨n,y,B,E,u⟩:=b;obtain⟨O,s,P⟩:=D;unfold rL at d;have p:∀{q:Nat×(Bool×Int×aj)×aj} {g},q.1=1->q.2.1.1=false->ak (cl q.1 0) g (aa (q.2.1.1,()))≠aa (true,()):=λ{q g} I J h=>by
  rw[I,J] at h;cases h
 rcases rA (f:=iM ((n,y,_),())) y 40 (λi=>((false,i,()),())) (λ_ x=>!a x.2.2.1) _ (λn=>_) ah (λi x j r v w=>by
  unfold iM;rw[al r,aH (show(i:Int)<40 by omega),ai,ao j,ab,(k _).1,ab,w];cases a x.2.2.1<;>rfl) (by unfold iM;rw[pK (c:=40) rfl,ag]) with ⟨i,x,r,j,F,_,h⟩|⟨K,h⟩
 .rw[h,ab] at d;exact absurd d (p rfl rfl)
 rw[h,ab] at d;rw[cO,ai] at d;rcases rA (f:=iN ((n,y,B,_),())) B 40 (λi=>((false,i,()),())) (λ_ x=>!a x.2.1||decide (200<x.2.2.2.1.length)||!e x.2.2.2.2.1) _ (λn=>_) ah (λi x j r v w=>by
  unfold iN;rw[al r,aH (show(i:Int)<40 by omega),ai,ao j,ab,(k _).1,ab,ab,ab,eF (n:=200) (c:=200) rfl,(o _).1,ab,w];cases a x.2.1 with
  | false=>rfl
  | true =>
    by_cases s:200<x.2.2.2.1.length
    .simp[s,ak,nt,ae]
    .cases L:e x.2.2.2.2.1<;>simp[s,ak,nt,ae]) (by unfold iN;rw[pK (c:=40) rfl,ag]) with ⟨i,x,r,j,F,_,h⟩|⟨M,h⟩
 .rw[h,ab] at d;exact absurd d (p rfl rfl)
 rw[h,ab] at d;rw[cO,ai] at d;rcases rA (f:=iO ((n,y,B,E,u),())) E 40 (λi=>((false,i,()),())) (λ_ x=>!a x.2.1||decide (200<x.2.2.2.2.1.length)||!e x.2.2.2.2.2.1) _ (λn=>_) ah (λi x j r v w=>by
  unfold iO;rw[al r,aH (show(i:Int)<40 by omega),ao j,ab,(k _).1,ab,ab,ab,eF (c:=200) rfl,(o _).1,w];cases a x.2.1 with
  | false=>rfl
  | true =>
    by_cases s:200<x.2.2.2.2.1.length
    .simp[s,ak,nt,ae]
    .cases L:e x.2.2.2.2.2.1<;>simp[s,ak,nt,ae]) (by unfold iO;rw[pK (c:=40) rfl,ag]) with ⟨i,x,r,j,F,_,h⟩|⟨N,h⟩
 .rw[h,ab] at d;exact absurd d (p rfl rfl)
 refine⟨λx j=>?_,λx j=>?_⟩
 .dsimp only at j;obtain⟨i,r⟩:=bc.1 j
  grind
 .dsimp only at j;obtain⟨i,r⟩:=bc.1 j
  grind
def abF(l:List cD):∃b,yL (l,())=aa (b,())/\(b=true->l.length<=40/\∀x∈l,x.1.length<=100/\x.2.1.length<=100):=by
 unfold yL;rcases rA (f:=sK (l,())) l 40 (λi=>((false,i,()),())) (λ_ x=>decide (100<x.1.length)||decide (100<x.2.1.length)) (λi x=>(1,(false,i,()),())) (λn=>_) ah (λi x a d j k=>by
  unfold sK;rw[al d,aH (show(i:Int)<40 by omega),ao a,ab,eF (c:=100) rfl,ab,eF (c:=100) rfl,k];by_cases h:100<x.1.length
  .simp[h,ak,nt,ae]
  .by_cases o:100<x.2.1.length<;>simp[h,o,ak,nt,ae]) (by unfold sK;rw[pK (c:=40) rfl,ag]) with ⟨i,x,d,a,p,_,h⟩|⟨q,h⟩
 .rw[h];exact⟨false,rfl,λh=>(by cases h)⟩
 .rw[h];refine⟨_,rfl,λe=>?_⟩;rw[dZ (c:=40) rfl] at e;refine⟨(fb e),λx a=>?_⟩;obtain⟨i,d⟩:=bc.1 a
  grind
structure ahe (s:aU):Prop where
 base:akP (0,s.2.2.1,s.2.1,s.1,())
 ids:∀x∈s.2.2.1,x.1.length<=100/\x.2.1.length<=100
 lays:s.2.2.1.length<=12
 akQ:s.2.2.2.1.length<=12
 apF:∀d∈s.2.2.2.1,d.length<=8192
 mts:s.2.2.2.2.1.length<=40
def abG(s:aU):∃b,yM (s,())=aa (b,())/\(b=true->ahe s):=by
 obtain⟨r,v,j,k,w,u⟩:=s;obtain⟨y,A,B⟩:=abE _;obtain⟨C,D,E⟩:=abF j;unfold yM;rcases rA (f:=sL ((r,v,j,k,_),())) k 12 (λi=>((false,i,()),())) (λ_ x=>decide (8192<x.length)) (λi x=>(1,(false,i,()),())) (λn=>_) ah (λi x p l F G=>by
  unfold sL;rw[al l,ai,aH (show(i:Int)<12 by omega),ai,ao p,ab,eF (c:=8192) rfl,da,G];by_cases h:8192<x.length<;>simp[h]) (by unfold sL;rw[pK (c:=12) rfl,ag]) with ⟨i,x,l,p,I,_,h⟩|⟨J,h⟩
 .rw[h];exact⟨false,rfl,λh=>(by cases h)⟩
 .rw[h,ab];rw[ A,D];rw[dZ (c:=12) rfl,dZ (c:=12) rfl,dZ (c:=40) rfl];cases y with
  | false=>exact⟨false,rfl,λh=>(by cases h)⟩
  | true =>
    cases C with
    | false=>exact⟨false,rfl,λh=>(by cases h)⟩
    | true =>
      refine⟨_,rfl,λa=>?_⟩;by_cases e:j.length<=12
      .by_cases o:k.length<=12
       .by_cases q:w.length<=40
        .refine⟨B rfl,(E rfl).2,e,o,λd H=>?_,q⟩;obtain⟨i,l⟩:=bc.1 H
         grind
        .rw[cU e,cU o,cd q] at a;cases a
       .rw[cU e,cd o] at a;cases a
      .rw[cd e] at a;cases a
def dq a b:bt a b=decide (a=b):=rfl
def ZV a b:aG a b=decide (a=b):=rfl
def ZW a b:aL a b=decide (a<b):=rfl
def Pq(s:bb)(k:s.length<=1048576) m:∀n i,s.length-i<=n->i<=s.length->∃q,Loop (fX (s,m,())) ((false,i,()),())=aa q/\(if z8 (s.drop i) then q.1=0 else q.1=1/\q.2.1.1=false):=by
 intro n;induction n with
 | zero =>
   intro i h d;have:i=s.length:=ah;subst this;rw[aN];refine⟨(0,(false,s.length,()),()),?_,?_⟩
   .unfold fX;rw[aC<|by simp only[len];omega,ag];rfl
   .rw[IW,aQ (by intro x hx;cases hx)]
 | succ n l =>
   intro i h d;rw[aN];by_cases c:i<s.length
   .have hd:=BT c;have f:fX (s,m,()) ((false,i,()),())=if s[i]=0 then aa (.inr (1,(false,i,()),())) else aa (.inl ((false,((i+1:Nat):Int),()),())):=by
     unfold fX;rw[aH<|by simp only[len];omega,ai,K2 s c,ab];by_cases a:s[i]=0
     .rw[a,show aG _ 0=true from rfl,ai,aQ rfl]
     .rw[show aG _ 0=false from ar (λe=>a (aeQ e)),ag,aK a,aB ah]
    rw[f];by_cases a:s[i]=0
    .rw[aQ a];refine⟨_,rfl,?_⟩;rw[aK λj=>j s[i] (by rw[hd];exact ri ..) a]
     grind
    .rw[aK a];have e:z8 (s.drop i)↔z8 (s.drop<|i+1):=by
      rw[hd];constructor
      .intro h x hx;exact h x (v8 _ hx)
      .intro h x hx;rcases fh.1 hx with rfl|hx
       .exact a
       .exact h x hx
     grind
   .have:i=s.length:=ah;subst this;refine⟨(0,(false,s.length,()),()),?_,?_⟩
    .unfold fX;rw[aC<|by simp only[len];omega];rfl
    .rw[IW,aQ (by intro x hx;cases hx)]
def GX s (d:s.length<=1048576) m:na (s,m,())=aa (decide<|clr s m,()):=by
 unfold na;dsimp only;obtain⟨q,f,a⟩:=Pq s d m s.length 0 ah ah;rw[show Loop (fX _) ((false,0,()),())=aa q from f,ab];rw[DU] at a;by_cases c:z8 s
 .rw[aQ c] at a;rw[a,show cl 0 0=true from rfl,ai];by_cases h:s=[]
  .subst h;rw[cG aD,ag,cd λe=>e.1 rfl]
  .have:=TT.2 h;rw[bz<|by simp only[len];omega,ai];unfold ch;rw[show decide (len s<=m)=decide (clr s m) from gm.2 ⟨λe=>⟨h,e,c⟩,λe=>e.2.1⟩]
 .rw[aK c] at a;rw[a.1,show cl 1 0=false from rfl,ag,a.2,cd λe=>c e.2.2]
def Ad n b:rl (n,b,())=aa (decide<|SZ n b,()):=E9 n b
def ahf(h:Hd) m (w:h.1.length<=1048576) (x:h.2.2.2.2.2.2.2.1.length<=1048576):vt (h,m,())=aa (decide<|Pm h m,()):=by
 unfold vt;dsimp only;have a:(ak (aG h.2.1 3) (ae (na (h.2.2.2.2.2.2.2.1,100,())) λy=>aa ((y.1,()),()))<|some ((bt h.2.2.2.2.2.2.2.1 [],()),())) =
   aa ((decide<|(h.2.1=3/\clr h.2.2.2.2.2.2.2.1 100)\/(h.2.1≠3/\h.2.2.2.2.2.2.2.1=[]),()),()):=by
  by_cases r:h.2.1=3
  .rw[r,oj,ai,GX _ x,ab]
   grind
  .rw[ar r,ag];unfold bt
   grind
 rw[a,ab,GX _ w,ab];by_cases d:clr h.1 m
 case neg=>rw[cd d,ag,ag,ag,ab,ag,ab,ag,ab,ag,ab,ag,ab,ag,ag,cd λe=>d e.2.2.2.2.2.1]
 rw[cU d,ai];have c:Pm h m->1<=h.2.1/\h.2.1<=3:=λe=>by
  rcases e.2.2.2.2.2.2 with k|k|k<;>omega
 by_cases s:1<=h.2.1
 case neg=>rw[cG ah,ag,ag,ab,ag,ab,ag,ab,ag,ab,ag,ab,ag,ag,cd λe=>s (c e).1]
 rw[bz s,ai];by_cases v:h.2.1<=3
 case neg=>rw[cG ah,ag,ab,ag,ab,ag,ab,ag,ab,ag,ab,ag,ag,cd λe=>v (c e).2]
 rw[bz v,ai,Ad,ab,ab];by_cases f:SZ h.2.2.1 2097152
 case neg=>rw[cd f,ag,ab,ag,ab,ag,ab,ag,ab,ag,ag,cd λe=>f e.1]
 rw[cU f,ai,Ad,ab,ab];by_cases i:SZ h.2.2.2.1 2097152
 case neg=>rw[cd i,ag,ab,ag,ab,ag,ab,ag,ag,cd λe=>i e.2.1]
 rw[cU i,ai,Ad,ab,ab];by_cases j:SZ h.2.2.2.2.1 2097152
 case neg=>rw[cd j,ag,ab,ag,ab,ag,ag,cd λe=>j e.2.2.1]
 rw[cU j,ai,Ad,ab,ab];by_cases l:SZ h.2.2.2.2.2.1 8589934592
 case neg=>rw[cd l,ag,ab,ag,ag,cd λe=>l e.2.2.2.1]
 rw[cU l,ai,Ad,ab,ab];by_cases n:SZ h.2.2.2.2.2.2.1 8589934592
 case neg=>rw[cd n,ag,ag,cd λe=>n e.2.2.2.2.1]
 rw[cU n,ai];have A:decide (Pm h m)=decide (kindOk h):=gm.2 ⟨λe=>e.2.2.2.2.2.2,λe=>⟨f,i,j,l,n,d,e⟩⟩;rw[A];have q:h.2.1=1\/h.2.1=2\/h.2.1=3:=ah;by_cases o:h.2.2.2.2.2.1=0
 .rw[au o,aW,ag,ai];rw[show decide _=decide (kindOk h) from gm.2 (by
   unfold kindOk;rcases q with k|k|k<;>simp[k,o])]
 .rw[ar o,aE,ai];by_cases p:h.2.1=1
  .rw[au p,ai];rw[show decide _=decide (kindOk h) from gm.2 (by unfold kindOk;simp[p])]
  .rw[ar p,ag];rw[show decide _=false from cd (by unfold kindOk;simp[p,o])]
def Nc(b:bb)(k:Nat):Nat:=if 148<=k/\k<156 then 32 else(b.getD k 0).toNat
def Bx(b:bb):Nat->Nat
 | 0=>0
 | k+1=>Bx b k+Nc b k
def Nf b k:Nc b k<=255:=by
 unfold Nc;have:=(b.getD k 0).toNat_lt
 grind
def VN b k:Bx b k<=255*k:=by
 induction k with
 | zero=>apply bV
 | succ k a=>have:=Nf b k;simp only[Bx];omega
def Yk:idx ([(0,100,()),(100,8,()),(108,8,()),(116,8,()),(124,12,()),(136,12,()),(148,8,()),(156,1,()),(157,100,()),(257,8,()),(345,155,())]:List (Int×Int×aj)) 6=aa (148,8,()):=rfl
def Ik b (i:b.length<=1048576):wo (b,())=aa ((Bx b b.length:Int),()):=by
 unfold wo mA;rw[ab];rw[Yk,ab,dS (by simp only[len];omega),ai];have key:Loop (qv (b,()) (148,8,())) ((0,0,()),())=aa _ :=
  cV b.length (λk=>(((Bx b k:Int),(k:Int),()),())) (λk c=>by
   unfold qv;dsimp only;have j:=VN b k;have l:=Nf b k;have a:b.getD k 0=b[k]:=by simp[ c]
   rw[lE,aH ah,aF ah ah,zZ b c,ab,aB ah,show aw .i64 148 8=156 from aD];have f:(ak (ak (ch 148 k) (aL k 156) false) ((32,()),()) ((u8 b[k],()),())).1.1=Nc b k:=by
    unfold Nc;by_cases h:148<=k
    .by_cases d:k<156
     .rw[bz ah,ai,aH ah,aQ ⟨h,d⟩];rfl
     .rw[bz ah,aC ah,aK (λe=>d e.2),a];rfl
    .rw[cG ah,aK (λe=>h e.1),a];rfl
   rw[f,wP ah ah,show aw .i64 _ _=_ from z6 ah];rfl) (by
   unfold qv;dsimp only;rw[lE,aC ah,ag,mP])
 rw[key,ab]
def GY b (i:b.length<=1048576):yD (b,())=aa ((Bx b b.length:Int),()):=by
 unfold yD;have key:Loop (sx (b,())) ((0,0,()),())=aa _ :=
  cV b.length (λk=>(((Bx b k:Int),(k:Int),()),())) (λk c=>by
   unfold sx;dsimp only;have j:=VN b k;have l:=Nf b k;have a:b.getD k 0=b[k]:=by simp[ c]
   have n:=b[k].toNat_lt;have e:∀v,v=Nc b k->aw .i64 (Bx b k:Int) _=((Bx b (k+1):Nat):Int):=λv d=>by
    rw[d,z6 ah];rfl
   rw[aH<|by simp only[len];omega,ai];unfold Nc at e;by_cases h:148<=k
   .by_cases f:k<156
    .rw[bz ah,ai,aH ah,ai,ab,j9,aB ah]
     grind
    .rw[bz ah,ai,aC ah,ag,K2 b c,ab,ab,j9,aB ah];rw[show kz .i64 (u8 b[k])=(b[k].toNat:Int) from wP (by unfold u8;omega) (by unfold u8;omega),e b[k].toNat (by rw[aK<|λe=>f e.2,a])]
   .rw[cG ah,ag,ag,K2 b c,ab,ab,j9,aB ah];rw[show kz .i64 (u8 b[k])=(b[k].toNat) from wP (by unfold u8;omega) (by unfold u8;omega),e b[k].toNat (by rw[aK<|λe=>h e.1,a])]) (by
   unfold sx;rw[aC<|by simp only[len];omega,ag,mP])
 rw[key,ab]
def WU(n:Nat):bb:=List.replicate n 0
def Fe n:(WU n).length=n:=acZ
def rV:bb:=[117,115,116,97,114,0,48,48]
def ZX:List (Int×Int×aj):=[(0,100,()),(100,8,()),(108,8,()),(116,8,()),(124,12,()),(136,12,()),(148,8,()),(156,1,()),(157,100,()),(257,8,()),(345,155,())]
def Yl:mA ()=aa (ZX,()):=rfl
def Kq s (l:s.length<=1048576):∃n d,dG (s,())=aa (n,d,()):=by
 unfold dG;cases o:(ak _ _ true) with
 | true=>exact⟨0,false,rfl⟩
 | false =>
   rw[ dS (by simp only[len];omega)];have key:∀k i v,s.length-i<=k->i<=s.length->∃q,Loop (bN (s,())) ((0,false,v,i,()),())=aa q:=by
    intro k;induction k with
    | zero =>
      intro i v h e;rw[aN];unfold bN;dsimp only;rw[lE,aC ah,ag];exact⟨_,rfl⟩
    | succ k f =>
      intro i v h e;by_cases a:i<s.length
      .cases hd:(ak _ _ true) with
       | true =>
         have c:bN (s,()) ((0,false,v,(i:Int),()),())=aa (.inr (1,(0,false,v,i,()),())):=by
          unfold bN;dsimp only;rw[lE,aH ah,ai,aF ah ah,ai,zZ s a,ab,hd,ai]
         rw[aN,c];exact⟨_,rfl⟩
       | false =>
         have c:bN (s,()) ((0,false,v,i,()),())=aa (.inl ((0,false,Ao .i64 (nY .i64 v 3)<|kz .i64<|cA .u8 (u8 s[i]) 48,((i+1:Nat):Int),()),())):=by
          unfold bN;dsimp only;rw[lE,aH ah,ai,aF ah ah,ai,zZ s a,ab,hd,ag,aC aD,ag,aB ah]
         rw[aN,c];exact f _ _ ah ah
      .rw[aN];unfold bN;dsimp only;rw[lE,aC ah];exact⟨_,rfl⟩
   obtain⟨q,j⟩:=key s.length 0 0 ah ah;rw[show Loop (bN _) ((0,false,0,0,()),())=aa q from j,ab];cases cl q.1 0 with
   | true=>exact⟨_,_,rfl⟩
   | false=>exact⟨_,_,rfl⟩
def pP p s:(dm p s).length<=s.length:=by
 unfold dm;rw[PT];have:=BJ (p:=p) (l:=s.reverse);have:=congrArg List.length this;rw[iC,PT] at this;omega
def eT s (a:s.length<=1048576):∃n,dw (s,())=aa (n,()):=by
 unfold dw;have c:=pP BN s;rw[GQ s a,ab];obtain⟨n,d,h⟩:=Kq (dm BN s) ah;rw[h,ab];cases (ak _ _ true) with
 | true=>exact⟨_,rfl⟩
 | false=>exact⟨_,rfl⟩
def gz(b:bb)(a n:Nat):bb:=(b.drop a).take n
def cM b a n:(gz b a n).length<=n:=by simp[gz];omega
def oK b (d:b.length=512) k (a n:Nat) (c:idx ZX k=aa ((a:Int),(n:Int),())) (h:a+n<=512):ca (b,k,())=aa (gz b a n,()):=by
 unfold ca;rw[Yl,ab];rw[c,ab];rw[show aw .i64 a n=_ from z6 ah,aO ah ah (by simp only[len];omega),ai];unfold sub minus gz;rw[vb,show(((a+n:Nat):Int)-a).toNat=n by omega]
section
variable (b:bb)
def o0(a:b.length=512):ca (b,0,())=aa (gz b 0 100,()):=oK b a 0 0 100 rfl ah
def o1(a:b.length=512):ca (b,1,())=aa (gz b 100 8,()):=oK b a 1 100 8 rfl ah
def o2(a:b.length=512):ca (b,2,())=aa (gz b 108 8,()):=oK b a 2 108 8 rfl ah
def o3(a:b.length=512):ca (b,3,())=aa (gz b 116 8,()):=oK b a 3 116 8 rfl ah
def o4(a:b.length=512):ca (b,4,())=aa (gz b 124 12,()):=oK b a 4 124 12 rfl ah
def o5(a:b.length=512):ca (b,5,())=aa (gz b 136 12,()):=oK b a 5 136 12 rfl ah
def o6(a:b.length=512):ca (b,6,())=aa (gz b 148 8,()):=oK b a 6 148 8 rfl ah
def o7(a:b.length=512):ca (b,7,())=aa (gz b 156 1,()):=oK b a 7 156 1 rfl ah
def o8(a:b.length=512):ca (b,8,())=aa (gz b 157 100,()):=oK b a 8 157 100 rfl ah
def o9(a:b.length=512):ca (b,9,())=aa (gz b 257 8,()):=oK b a 9 257 8 rfl ah
def o10(a:b.length=512):ca (b,10,())=aa (gz b 345 155,()):=oK b a 10 345 155 rfl ah
end
def abH:Hd:=([],0,0,0,0,0,0,[],())
def Ff b (a:b.length=512) (c:gz b 257 8≠rV):fe (b,())=aa (abH,2,()):=by
 unfold fe;rw[au<|by simp only[len];omega,o9 b a,ab,show([117,115,116,97,114,0,48,48])=rV from rfl];rw[show bt _ rV=false from cd c];rfl
def VO b (a:b.length=512) {n} (e:dw (gz b 148 8,())=aa (n,())) (c:n≠Bx b 512):fe (b,())=aa (abH,2,()):=by
 by_cases d:gz b 257 8=rV
 .unfold fe;rw[au<|by simp only[len];omega,aW,aE,ai,o9 b a,ab,ab];rw[d,o6 b a,ab];rw[e,ab,Ik b ah,ab];rw[a,ar c];rfl
 .exact Ff b a d
section
variable {h:Hd} {m u g z t:Nat} {kd:UInt8}
end
abbrev Pt:=Hd×bb×aj
def Bz(n:Nat):Nat:=(512-n % 512) % 512
def VP n:Bz n<512:=BW _ aD
def VQ(n:Nat)(a:n<=1048576):xJ (n,())=aa ((Bz n:Int),()):=by
 unfold xJ;dsimp only;have c:gd n 512=((n % 512):Int):=rfl;rw[ df ah ah,show 512-_=((512-n % 512:Nat):Int) by omega];rfl
def VR n:Lib.repeatL [0] n=WU n:=by
 induction n with
 | zero=>rfl
 | succ n a =>
   show [0]++Lib.repeatL [0] n=WU _
   rw[a];rfl
def VS(n:Nat)(a:n<=1048576):Ei (n,())=aa (WU n,()):=by
 unfold Ei;have:oV ([0],n,())=aa (WU n,()):=by
  show(fV [0] n).map _=_
  unfold fV;rw[aK cT,VR];rfl
 rw[this,ab]
def VT(n:Nat)(c:n<=1048576):nc (n,())=aa (((n+Bz n:Nat):Int),()):=by
 unfold nc;have key:=cV (f:=kW) (Bz n) (λi=>((((n+i:Nat):Int),()),())) (λi a=>by
  unfold Bz at a;unfold kW;dsimp only;rw[show aG 512 0=false from rfl,ag,show gd _ 512=(((n+i) % 512:Nat):Int) from rfl,ar ah,aB ah];rfl) (by
  unfold kW;rw[show aG 512 0=false from rfl,show gd _ 512=(((n+Bz n) % 512:Nat):Int) from rfl,au (by unfold Bz;omega)];rfl)
 rw[show Loop kW ((n,()),())=_ from key,ab]
def S8 a:(ax a).length=a.length:=y4 ..
abbrev Rd:=Bool×bb×Int×Bool×Bool×aj
def S9:Pt:=(abH,[],())
def rd(r:bb)(n:Int):Rd:=(true,r,n,false,false,())
def GZ(n:Int)(b:Bool):Rd:=(true,[],n,true,b,())
def abI r n b:bX ((),(true,r,n,true,b,()),())=aa ((S9,false,()),(true,r,n,true,b,()),()):=by
 rfl
def G0 r n b:eC ((b,()),rd r n,())=aa ((S9,false,()),GZ n b,()):=rfl
def Ng r n (h:r.length<512):bX ((),rd r n,())=aa ((S9,false,()),GZ n true,()):=by
 have e:=G0 r n true;unfold bX;dsimp only[rd] at e⊢;rw[aW,aE,ai,ag,aH (by rw[bw];omega),ai,e,ab]
def QG r n (h:512<=r.length) (f:r.length<=1048576) (i:∀x∈r.take 512,x=0) :
  bX ((),rd r n,())=aa ((S9,false,()),GZ n<|!decide (1024<=r.length/\r.length % 512=0/\∀x∈r,x=0),()):=by
 have e:=λb=>G0 r n b;unfold bX;dsimp only[rd] at e⊢;have j:(r.take 512).length=512:=by rw[dk];omega
 rw[aW,aE,ai,ag,aC (by rw[bw];omega),ag,aO aD aD (by rw[bw];omega),ai,show sub r 0 (minus 512 0)=r.take 512 from fT r 512,M5 _ ah,cU ⟨j,i⟩,ab,ai];rw[show aG 512 0=false from rfl,ag,show gd _ 512=((r.length % 512):Int) from rfl,show ch 1024 _=decide (1024<=r.length) from by unfold len;apply gm.2;omega,show aG _ 0=decide (r.length % 512=0) from by apply gm.2;omega,VG r f];by_cases a:1024<=r.length
 .by_cases b:r.length % 512=0
  .by_cases c:∀x∈r,x=0
   .have d:=(A3 r).2 c;rw[cU a,ai,cU b,ab,aW,aE,ai,ab,ab];dsimp only;rw[cc d,cU ⟨a,b,c⟩];rfl
   .have d:¬(dm db r).dropWhile db=[]:=λq=>c ((A3 r).1 q);rw[cU a,ai,cU b,ab,ab];rw[aY d,cd λq=>c q.2.2];rfl
  .rw[cU a,ai,cd b,ab,aE,aW,ag,ab,e,ab,cd λq=>b q.2.1];rfl
 .rw[cd a,ag,cd λq=>a q.1];rfl
def QH(p:Pt)(a:List Pt)(d:Rd)(f:a.length<=1000){e:Pt}{ok1}{c:Rd}(h:bX ((),d,())=aa ((e,ok1,()),c,())) :
  kq (((),(),true,()),p,a,d,())=aa (.inl (((),(),ok1,()),e,a++[p],c,())):=by
 unfold kq;rw[ aJ cT,h];rfl
def QI s (h:8192<s.length):fY (s,())=aa ([],10,()):=by
 unfold fY;dsimp only;rw[aH<|by rw[bw];omega,abI,ab];rw[aN];rfl
def ajb c (h:Hd):∃x e,ae (ak c (ae (rJ (h,256,())) λa=>aa (nt a.1))<|some true) (λy=>ak y (aa (abH,(2:Int),())) (aa (h,0,())))=aa (x,e,())/\(e=0->Pm x 256):=by
 rw[VH];cases c with
 | false=>exact⟨_,_,rfl,λq=>absurd q aD⟩
 | true =>
   by_cases d:Pm h 256
   .rw[cU d];exact⟨h,0,rfl,λ_=>d⟩
   .rw[cd d];exact⟨_,_,rfl,λq=>absurd q aD⟩
def ZY b (a:b.length=512):∃x e,fe (b,())=aa (x,e,())/\(e=0->Pm x 256):=by
 by_cases d:gz b 257 8=rV
 case neg=>exact⟨_,_,Ff b a d,λe=>absurd e aD⟩
 obtain⟨j,f⟩:=eT (gz b 148 8) (by have:=cM b 148 8;omega);by_cases i:j=Bx b 512
 case neg=>exact⟨_,_,VO b a f i,λe=>absurd e aD⟩
 obtain⟨s,k⟩:=eT (gz b 100 8) (by have:=cM b 100 8;omega);obtain⟨v,l⟩:=eT (gz b 108 8) (by have:=cM b 108 8;omega);obtain⟨w,n⟩:=eT (gz b 116 8) (by have:=cM b 116 8;omega);obtain⟨y,o⟩:=eT (gz b 124 12) (by have:=cM b 124 12;omega);obtain⟨A,q⟩:=eT (gz b 136 12) (by have:=cM b 136 12;omega);have B:=pP db (gz b 0 100);have l10:=pP db (gz b 345 155);have m0:=cM b 0 100;have m10:=cM b 345 155;unfold fe;rw[au<|by simp only[len];omega,aW,aE,ai,o9 b a,ab,ab,show([117,115,116,97,114,0,48,48])=rV from rfl];rw[d,show bt rV rV=true from zQ _,aW,aE,ai,o6 b a,ab];rw[f,ab,Ik b ah,ab];rw[a,au i,ab,o0 b a,ab];rw[(GS (gz b 0 100) ah),ab,o8 b a,ab];rw[(GS (gz b 157 100) (by have:=cM b 157 100;omega)),ab,o10 b a,ab];rw[(GS (gz b 345 155) ah),ab];have c:∃p,(ak (nt<|bt (dm db<|gz b 345 155) []) (ak (fits<|plus (len<|dm db<|gz b 345 155)<|len ([47]:bb)) (ak (fits<|plus (len<|app (dm db<|gz b 345 155) [47])<|len<|dm db<|gz b 0 100)
   (aa ((app (app (dm db<|gz b 345 155) [47])<|dm db<|gz b 0 100,()),())) af) af)<|some ((dm db<|gz b 0 100,()),()))=aa ((p,()),()):=by
  cases (nt _) with
  | true =>
    rw[ai,dS (by simp only[plus,len,iD,p6];omega),ai,dS (by simp only[plus,len,app,iC,iD,p6];omega),ai]
    grind
  | false=>exact⟨_,rfl⟩
 obtain⟨p,r⟩:=c;rw[r,ab,o1 b a,ab];rw[k,ab,o2 b a,ab];rw[l,ab,o3 b a,ab];rw[n,ab,o4 b a,ab];rw[o,ab,o5 b a,ab];rw[q,o7 b a];apply ajb
def VU r (n:Nat) (B:r.length<=10000):∃p c d,bX ((),rd r n,())=aa ((p,c,()),d,()) /\
  ((c=false/\∃b,d=GZ n b)\/(c=true/\Pm p.1 256/\p.2.1.length<=r.length/\n<64/\∃i,d=rd i ((n+1:Nat):Int)/\i.length+512<=r.length)):=by
 by_cases a:r.length<512
 .exact⟨_,_,_,Ng r n a,.inl ⟨rfl,_,rfl⟩⟩
 by_cases j:∀x∈r.take 512,x=0
 .exact⟨_,_,_,QG r n ah ah j,.inl ⟨rfl,_,rfl⟩⟩
 have e:=λb=>G0 r n b;have l:(r.take 512).length=512:=by rw[dk];omega
 obtain⟨x,o,s,v⟩:=ZY _ l;have w:(r.drop 512).length=r.length-512:=rj;unfold bX;dsimp only[rd] at e⊢;rw[aW,aE,ai,ag,aC (by rw[bw];omega),ag,aO aD aD (by rw[bw];omega),ai,show sub r 0 (minus 512 0)=r.take 512 from fT r 512];rw[M5 _ ah,ab];rw[cd<|λq=>j q.2,ag,ai,s,ab,aO aD (by rw[bw];omega) (tr _),ai,show sub r 512 (minus _ 512)=r.drop 512 from jd r 512 ah];by_cases f:o=0
 case neg =>
  rw[ar f,aE,ai,e,ab]
  grind
 rw[au f,aW,ag];obtain⟨y,C⟩:=(v f).2.2.2.1;obtain⟨k,A⟩:=TM y;rw[A];by_cases D:(r.drop 512).length<k
 .rw[aH<|by rw[bw];omega,ai,e,ab]
  grind
 .have E:=VP k;rw[aC<|by rw[bw];omega,ag,VQ k ah,ab,fA ah ah];by_cases F:(r.drop 512).length<k+Bz k
  .rw[aH<|by rw[bw];omega,ai,e,ab]
   grind
  .rw[aC<|by rw[bw];omega,ag];by_cases G:64<=n
   .rw[bz ah,ai,e,ab]
    grind
   .rw[cG ah,ag,ab,fA ah ah,aO ah (by rw[bw];omega) (tr _),ai,aO ah ah (by rw[bw];omega),ai];rw[show sub _ 0 _=(r.drop 512).take k from fT _ k,show k+Bz k=((k+Bz k:Nat):Int) by omega,jd _ _ ah,aB ah]
    grind
def Nh{h}(k:Pm h 256):h.1.length<=300/\h.2.2.2.2.2.2.2.1.length<=300:=by
 obtain⟨_,_,_,_,_,⟨_,c,_⟩,a⟩:=k;rcases a with ⟨_,e⟩|⟨_,e,_⟩|⟨_,⟨_,e,_⟩,_⟩
 .grind
 .grind
 .omega
def RdP(p:Pt):Prop:=p.1.1.length<=300/\p.1.2.2.2.2.2.2.2.1.length<=300/\p.2.1.length<=8192
def abJ:∀(m n:Nat) r out p,r.length<=m->r.length<=8192->out.length+1=n->n<=64->(∀q∈out++[p],RdP q) ->
  ∃(a:List Pt) (e:Pt) (b:Int×Bool),Loop kq (((),(),true,()),p,out,rd r n,())=aa (((),(),false,()),e,a,GZ b.1 b.2,())/\a.length<=64/\∀q∈a,RdP q:=by
 intro m;induction m using Nat.strongRecOn with
 | _ m k =>
   intro n r out p E F G l s;obtain⟨f,v,w,x,y⟩:=VU r n ah;have c:=QH p out _ ah x;rcases y with ⟨rfl,b,rfl⟩|⟨rfl,A,H,I,i,rfl,J⟩
   .refine⟨out++[p],f,(n,b),?_,cT,s⟩;rw[aN,c];show Loop _ _=_
    rw[aN];rfl
   .have j:=Nh A;obtain⟨o,e,b,B,C,D⟩:=k i.length ah (n+1) i (out++[p]) f (bV _) ah cT ah (λq d=>by
     rcases Oy.1 d with d|d
     .grind
     .rw[DR] at d;subst d;exact⟨j.1,j.2,ah⟩)
    exact⟨o,e,b,by rw[aN,c];exact B,C,D⟩
def ae5 s:∃l e,fY (s,())=aa (l,e,())/\l.length<=64/\(∀q∈l,RdP q)/\(e=0\/(e=10/\l=[])):=by
 by_cases i:8192<s.length
 .exact⟨_,_,QI s i,aT,λq a=>(by cases a),.inr ⟨rfl,rfl⟩⟩
 obtain⟨p,w,x,j,k⟩:=VU s 0 ah;have fin:∀(b:Int×Bool) o,(ae (iz ((),GZ b.1 b.2,())) λc=>ak c.1.1 (aa (([]:List Pt),(10:Int),())) (aa (o,_)))=aa (if b.2=true then _ else(o,0,())):=λb o=>by
  obtain⟨y,n⟩:=b;cases n<;>rfl
 unfold fY;dsimp only;rw[aC<|by rw[bw];omega,show bX ((),(true,s,0,_),())=_ from j,ab];rcases k with ⟨rfl,b,rfl⟩|⟨rfl,r,A,B,d,rfl,C⟩
 .rw[aN];show ∃l e,(ae (iz _) λc=>ak c.1.1 _ _)=_/\_
  rw[fin (_,_)]
  grind
 .have f:=Nh r;obtain⟨o,D,b,v,E,F⟩:=abJ d.length 1 d [] p (bV _) ah rfl ah (λq a=>by
   rw[Lk,DR] at a;subst a;exact⟨f.1,f.2,ah⟩)
  rw[show Loop kq _=_ from v,ab]
  grind
set_option maxRecDepth 100000
end Go.Ge
namespace Go.Ge
variable [Lp]
abbrev Nd:=bb×Int×Int×bb×bb×aj
def K4{a b}:(ch a b=true)↔a<=b:=by
 refine⟨?_,bz⟩
 .intro h;rcases Int.lt_or_le b a with g|g
  .rw[cG g] at h;cases h
  .exact g
def tk{a b}:ch a b=decide (a<=b):=by
 rw[Rs,K4,Ap]
def Ym{p}(k:p≠[]):((lF p).2=0/\(lF p).1=p)↔((parts p).all ue=true/\(parts p).length<=8/\p.length<=96):=by
 constructor
 .rintro⟨c,e⟩;obtain⟨d,l⟩:=abw c;obtain⟨n,o,q⟩:=rU d;have r:parts p=names p:=by
   have:=Jo p
   grind
  grind
 .rintro⟨c,e,d⟩;have f:∀x∈parts p,nU x=true:=λx a=>by
   have:=wa.1 c x a;unfold ue at this;unfold nU
   grind
  have i:names p=parts p:=Lf.2 f;have j:aR (names p)=p:=by rw[i,dO]
  have s:p.head?≠aa 47:=by
   rw[<-j];exact Yg λx a=>⟨(xc p x a).1,(xc p x a).2.1⟩
  have v:nV p=true:=by
   unfold nV
   grind
  unfold lF
  grind
def xZ(p:bb):Bool:=decide (p≠[])&&(parts p).all ue&&decide ((parts p).length<=8)&&decide (p.length<=92)&&decide ((bd p).2.length<=28)&&decide ((nW (bd p).2).1=0)
def Yn p (c:p.length<=4096):uC (p,())=aa (xZ p,()):=by
 unfold uC;rw[QB p c,ab,rB p ah,ab];rw[VK,ab];rw[nX,nX,nX,nX,nX]
 congr 2
 rw[Rs];unfold xZ;by_cases a:p=[]
 .subst a;simp[bt,nt]
 .have d:=Ym a;simp only[gw,aG,bt,aex,K4,len]
  grind
def QJ(n:Nd):Bool:=if n.2.1=1 then decide (n.2.2.2.2.1=[]/\n.2.2.2.1.length<=8192) else if n.2.1=2 then decide (n.2.2.2.2.1=[]/\n.2.2.2.1=[]) else if n.2.1=3 then decide (n.2.2.2.1=[]/\n.2.2.2.2.1≠[]/\n.2.2.2.2.1.length<=100/\0∉n.2.2.2.2.1) else false
def fU(n:Nd):Bool:=xZ n.1&&decide (0<=n.2.2.1)&&decide (n.2.2.1<=4095)&&QJ n
def Pr s c:dv (s,u8 c,())=aa (Lib.indexByte s c,()):=by
 have:(u8 c).toNat.toUInt8=c:=by simp[u8]
 unfold dv fj;rw[this];rfl
def ZZ(n:Nd)(j:n.1.length<=4096):zT (n,())=aa (fU n,()):=by
 obtain⟨p,k,m,d,l,u⟩:=n;unfold zT fU QJ;rw[Yn p j,ab];have o:aL m 0=!decide (0<=m):=by unfold aL;by_cases h:m<0<;>simp[h]<;>omega
 have q:aL 4095 m=!decide (m<=4095):=by unfold aL;by_cases h:4095<m<;>simp[h]<;>omega
 rw[o,q];cases xZ p with
 | false=>rfl
 | true =>
   cases decide (0<=m) with
   | false=>rfl
   | true =>
     cases decide (m<=4095) with
     | false=>rfl
     | true =>
       simp only[aW,aE,ai,ag,Bool.not_true,Bool.true_and];by_cases a:k=1
       .subst a;simp only[aG,Zh,ai,yq,bt,tk,len,nX]
        congr 2
        grind
       .rw[show aG k 1=false by simp[aG,a],ag,aK a];by_cases c:k=2
        .subst c;simp only[aG,Zh,ai,bt,nX];simp_all
        .rw[show aG k 2=false by simp[aG,c],ag,aK c];by_cases e:k=3
         .subst e;rw[show aG 3 3=true by rfl,show((l,_):bb×Int×aj)=(l,u8 0,()) by rfl,Pr,ab];have r:aL _ 0=decide (0∉l):=En l;rw[r];by_cases hd:d=[]
          .by_cases f:l=[]
           .subst hd f;rfl
           .by_cases i:l.length<=100
            .simp[bt,hd,f,tk,len,nt,ak,ae,i,show(l.length:Int)<=100 by omega]
            .simp[ tk,len,ak,ae,i,show ¬(l.length:Int)<=100 by omega]
          .simp[bt,hd,ak,ae]
         .rw[show aG k 3=false by simp[aG,e],ag,aK e]
def Yo s (l:s.length<=1048576):sC (s,())=aa (decide<|s≠[]/\s.length<=100/\0∉s,()):=by
 unfold sC;rcases eu (f:=nJ (s,())) s (λi=>((false,i,()),())) (λ_ x=>decide (x=0)) (λi x=>(1,(false,i,()),())) _ ah (λi x a c e=>by
  unfold nJ;rw[al c,ai,ao a,ab,akM,da,e];by_cases j:x=0<;>simp[j]) (by unfold nJ;rw[aq,ag]) with ⟨i,x,a,n,_,h⟩|⟨o,h⟩
 .rw[h,ab,gL,ag]
  grind
 .rw[h,ab,cO,ai,nX];have d:0∉s:=λd=>by
   obtain⟨i,c⟩:=bc.1 d
   grind
  congr 2
  rw[Rs];simp only[gw,K4,len,Ap];constructor
  .grind
  .rintro⟨k,p,_⟩;exact⟨by have:=TT.2 k;omega,ah⟩
def yS(n:Nd)(i:n.1.length<=4096)(j:n.2.2.2.2.1.length<=4096):lM (n,())=aa (fU n,()):=by
 obtain⟨p,k,m,d,l,u⟩:=n;unfold lM fU QJ;dsimp only at i j⊢;rw[wT p i,ab];rw[Jq,QA p ah,Yo l ah];simp only[ab,nX];have o:(ak (nt<|bt p []) (aa<|(parts p).all ue&&decide ((parts p).length<=8)&&decide (p.length<=96)) (aa false):Option Bool)=aa (decide (p≠[])&&(parts p).all ue&&decide ((parts p).length<=8)&&decide (p.length<=96)):=by
  by_cases h:p=[]
  .subst h;rfl
  .simp[bt,h,ak,nt]
 rw[o,ab];have q:((((((decide (p≠[])&&(parts p).all ue&&decide ((parts p).length<=8)&&decide (p.length<=96))&&ch (len p) 92)&&ch (len (bd p).2) 28)&&aG (nW (bd p).2).1 0)&&ch 0 m)&&ch m 4095)=(xZ p&&decide (0<=m)&&decide (m<=4095)):=by
  rw[Rs];unfold xZ;simp only[gw,K4,len,aG]
  grind
 simp only[q];generalize (xZ p&&decide (0<=m)&&decide (m<=4095))=c;by_cases a:k=1
 .subst a;rw[show aG 1 1=true by rfl,ai]
  congr 2
  rw[Bool.and_assoc];rw[Rs];simp[bt,tk,len];omega
 .rw[show aG k 1=false by simp[aG,a],ag,aK a];by_cases e:k=2
  .subst e;rw[show aG 2 2=true by rfl,ai];rw[Bool.and_assoc];simp[bt]
  .rw[show aG k 2=false by simp[aG,e],ag,aK e];by_cases f:k=3
   .subst f;rw[show aG 3 3=true by rfl];cases c with
    | false=>rfl
    | true =>
      by_cases hd:d=[]
      .simp[bt,hd,ak,ae]
      .simp[bt,hd,ak,ae]
   .rw[show aG k 3=false by simp[aG,f],ag,aK f,adl]
end Go.Ge
