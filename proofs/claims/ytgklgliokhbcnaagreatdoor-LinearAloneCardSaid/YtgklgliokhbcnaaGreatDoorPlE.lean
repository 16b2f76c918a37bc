import Derived.Test.YtgklgliokhbcnaaGreatDoorPlD
set_option linter.unusedSectionVars false
set_option linter.unusedVariables false
set_option linter.unusedSimpArgs false
set_option linter.defProp false
open Option renaming some->aa,none->af
open Sum renaming inl->aA,inr->aB
open Go.IntKind (i64)
namespace Go.Ge
variable [Lp]
def Bj(p:bg):Nat->Option Nat
 | 0=>af
 | n+1=>if p[n]?=aa 47 then aa n else Bj p n
def SP p (i:p.length<=1048576):de (p,47,())=aa (match Bj p p.length with|some k=>k|none=>-1,()):=by
 unfold de;have run:∀n,n<=p.length->∃q,Loop (cT (p,47,())) ((0,(n-1),()),())=aa q/\(match Bj p n with|some k=>q.1=1/\q.2.1.1=k|none=>q.1=0):=by
  intro n;induction n with
  | zero =>
    intro _;refine⟨(0,(0,-1,()),()),?_,rfl⟩;rw[aO];rfl
  | succ n j =>
    intro hn;obtain⟨y,d⟩:∃y,p[n]?=aa y:=⟨_,fX ag⟩;rw[ aO];have st:cT (p,47,()) ((0,n,()),())=if y=47 then aa (.inr (1,(n,n,()),())) else aa (.inl ((0,n-1,()),())):=by
     unfold cT;dsimp only;rw[bA ag,ai,ao d,ab,ZP,dv ag ag,MO]
    rw[ Bj]
    grind
 obtain⟨q,f,a⟩:=run p.length (bX _);have e:cH .i64 (len p) 1=p.length-1:=by rw[bw,dv ag ag]
 rw[e,f,ab];cases c:Bj p p.length with
 | none=>rw[c] at a;rw[a,cV,ai]
 | some k=>rw[c] at a;rw[a.1,a.2,gM,ah]
def M0:∀{p n k},Bj p n=aa k->k<n/\p[k]?=aa 47/\∀j,k<j->j<n->p[j]?≠aa 47:=by
 intro p n;induction n with
 | zero=>intro k h;cases h
 | succ n a =>
   intro k h;rw[Bj] at h
   grind
def X9:∀{p n},Bj p n=af->∀j,j<n->p[j]?≠aa 47:=by
 intro p n;induction n with
 | zero=>omega
 | succ n a =>
   intro h j c;rw[Bj] at h
   grind
def bh(p:bg):bg×bg:=match Bj p p.length with|some k=>(p.take k,p.drop (k+1))|none=>([],p)
def rG p:(47∉p/\bh p=([],p))\/∃a b,p=a++47::b/\47∉b/\bh p=(a,b):=by
 unfold bh;cases h:Bj p p.length with
 | none =>
   refine .inl ⟨λd=>?_,rfl⟩;obtain⟨j,c,e⟩:=ac0 d;exact X9 h j c (by rw[fX c,e])
 | some k =>
   obtain⟨n,f,i⟩:=M0 h;refine .inr ⟨p.take k,p.drop _,?_,λd=>?_,rfl⟩
   .obtain⟨l,e⟩:=hR.1 f;rw[<-e,<-BK l,Fk]
   .obtain⟨j,c,e⟩:=ac0 d;rw[qU] at c;rw[List.getElem_drop] at e;exact i (k+1+j) ag ag (by rw[fX ag,e])
def rk p (a:p.length<=1048576):gl (p,())=aa ((bh p).1,(bh p).2,()):=by
 unfold gl pG;rw[show aG _ 0=false from rfl,ah,show aG _ 1=true from rfl,ai,show idx [(47:UInt8)] 0=aa 47 from rfl,ab];rw[show u8 47=47 from rfl,SP p a,ab,ab];unfold bh;cases h:Bj p p.length with
 | none=>rw[aT aD,ai]
 | some k =>
   obtain⟨c,_,_⟩:=M0 h;dsimp only;rw[aC ag,ah,show inside 0 _ _=true from aL ag ag (by rw[bw];omega),ai,az ag,aL ag (by rw[bw];omega) (tc _),ai,fV,jc p _ ag]
def Co a b (f:47∉b):cE (a++47::b)=cE a++[b]:=by
 induction a with
 | nil =>
   have e:cE (47::b)=[]::cE b:=by rw[cE,aN rfl]
   rw[JJ,e,pt b f];rfl
 | cons c a d =>
   rw[Lh];by_cases h:c=47
   .rw[cE,aN h,d]
    conv=>rhs;rw[cE,aN h]
    rfl
   .cases hs:cE a with
    | nil=>exact absurd hs (pr a)
    | cons x t =>
      rw[hs] at d;rw[kf h hs,kf h (by rw[d];rfl)];rfl
def wx p (j:p.length<=4096):ks (p,())=aa ((bh p).1,(bh p).2,()):=by
 unfold ks;rw[iq p ag,ab];by_cases i:p=[]
 .subst i;rfl
 have c:parts p=cE p:=by unfold parts;rw[aJ i]
 rcases rG p with ⟨d,e⟩|⟨a,b,rfl,d,e⟩
 .rw[e,c,pt p d];have f:oO (sub [p] 0<|minus (cH .i64 (len [p]) 1) 0,())=aa ([],()):=by
   exact Cn [] aS (by simp[aP])
  rw[ f];rfl
 .rw[e,c,Co a b d];have k:=D9 a;rw[jt] at j;have f:cH .i64 (len<|cE a++[b]) 1=(((cE a).length:Nat):Int):=by
   rw[bw,dv ag cJ]
   grind
  rw[f,ar (by rw[bw,jt];simp;omega),ah,aL ag ag (by rw[bw,jt];omega),ai,fV,TO,
   Cn _ ag (by rw[wv];omega),wv,se]
  simp[ae]
def rH(d n:bg):bg:=if d=[]\/n=[] then d++n else d++47::n
def H7 d n (hd:d.length<=1048576) (hn:n.length<=1048576):oP (d,n,())=aa (rH d n,()):=by
 unfold oP rH;dsimp only;by_cases a:d=[]
 .rw[ck a,aH ag,aN (.inl a)];rfl
 .rw[aY a,aI,ai];by_cases b:n=[]
  .rw[ck b,aH ag,aN (.inr b)];rfl
  .rw[aY b,ah,aH cJ,ai,aH (by simp only[gX,jt,iE,pM];omega),ai,aJ (by simp[a,b])];simp[app]
def AU d n (hd:d.length<=1048576) (hn:n.length<=1048576):oQ (d,n,())=aa (rH d n,()):=by
 unfold oQ rH;by_cases a:d=[]
 .rw[ a];rfl
 .rw[aY a,ah];by_cases b:n=[]
  .rw[ck b,ai,aN (.inr b),b,vl]
  .rw[aY b,ah,aH cJ,ai,aH (by simp only[gX,jt,iE,pM];omega),ai,aJ (by simp[a,b])];simp[app]
def dZ(x y:List bg):Bool:=decide (y.length<x.length/\x.take y.length=y)
def Qs{α}[DecidableEq α](Q:Nat->Nat->Nat×(Bool×Int×aj)×aj)(a:∀i j,(Q i j).1=j/\(Q i j).2.1.1=false):∀(r:List (α×α)) i,∃q,va (λi _ p=>aa (if p.1=p.2 then aA () else aB (Q i 1))) (λi _=>Q i 0) r i ()=aa q /\
  q.1=(if r.all (λp=>decide (p.1=p.2))=true then 0 else 1)/\q.2.1.1=false:=by
 intro r;induction r with
 | nil=>intro i;exact⟨_,rfl,(a _ _).1,(a _ _).2⟩
 | cons p r c =>
   intro i;unfold va;by_cases h:p.1=p.2
   .simp;obtain⟨q,d,e,f⟩:=c (i+1)
    grind
   .simp_all
def abm x y (hx:x.length<=1048576) (hy:y.length<=1048576):bE (x,y,())=aa (decide<|x=y,()):=by
 unfold bE;rw[MN];by_cases a:x.length=y.length
 .rw[dn a,aV,ah];have key:=qc (f:=cG (x,y,())) (x.zip y) (λ_ i=>((false,i,()),()))
   (λi _ p=>aa (if p.1=p.2 then .inl () else .inr _)) (λi _=>(0,(false,i,()),())) (λ_ _=>True)
   (λu i p l r _=>by
    obtain⟨c,k⟩:=aex l;have n:=av c;unfold cG;rw[al<|av c,ao c,ab,ao k,ab];by_cases e:p.1=p.2
    .rw[ck e,az ag,aN e];rfl
    .rw[aY e,aJ e];rfl)
   (λ_ _ _ _ _ _ _=>trivial)
   (λu _=>by
    have e:(x.zip y).length=x.length:=by rw[List.length_zip,a,ado]
    unfold cG;rw[e,aq,ah])
   (λ_ _ _ _ _ h=>by cases h) () trivial
  obtain⟨q,c,k,o⟩:=Qs (λi j=>(j,(false,_),())) (λ_ _=>⟨rfl,rfl⟩) (x.zip y) 0;have d:Loop _ ((false,(0:Int),()),())=aa q:=key.trans c;rw[d,ab,k,o,Sz a];by_cases e:x=y
  .rw[dn e,aN rfl,cV,ai]
  .rw[cm e,aJ aS,gM,ah]
 .rw[cm a,aI,ai,cm λe=>a (by rw[e])]
def zO p d (a:p.length<=4096) (hd:d.length<=4096):dC (p,d,())=aa (dZ (parts p)<|parts d,()):=by
 unfold dC dZ;have c:=fD p;rw[rF p ag,ab,rF d ag,ab];dsimp only;rw[GB];by_cases h:(parts d).length<(parts p).length
 .rw[dn h,ai,show inside 0 _ _=true from aL aD (by rw[bw];omega) (by rw[bw,bw];omega),ai,Qi,abm _ _ (by rw[dk];omega) ag,ab,ab];simp[h]
 .rw[cm h,ah,ab];simp[h]
def SQ p d (n:p.length<=4096) (hd:d.length<=4096):uj (p,d,())=aa (dZ (parts p)<|parts d,()):=by
 unfold uj dZ;have k:=fD p;have l:=fD d;rw[iq p ag,ab,iq d ag,ab];dsimp only;rw[MM];generalize parts p=x at k;generalize parts d=y at l;by_cases h:y.length<x.length
 .rw[cm ag,ah];have e:(x.zip y).length=y.length:=by rw[List.length_zip];omega
  have key:=qc (f:=oR (x,()) (y,())) (x.zip y) (λ_ i=>((false,i,()),()))
   (λi _ p=>aa (if p.1=p.2 then .inl () else .inr _)) (λi _=>(0,(false,i,()),())) (λ_ _=>True)
   (λu i p n v _=>by
    obtain⟨k,l⟩:=aex n;unfold oR;rw[al<|av k,al (av l),ao k,ab,ao l,ab];by_cases e:p.1=p.2
    .rw[ck e,az ag,aN e];rfl
    .rw[aY e,aJ e];rfl)
   (λ_ _ _ _ _ _ _=>trivial)
   (λu _=>by
    unfold oR;rw[e,aq,ah,ah])
   (λ_ _ _ _ _ h=>by cases h) () trivial
  obtain⟨q,o,r,s⟩:=Qs (λi j=>(j,(false,_),())) (λ_ _=>⟨rfl,rfl⟩) (x.zip y) 0;have c:Loop _ ((false,(0:Int),()),())=aa q:=key.trans o;rw[c,ab,r,s,Vc,show min x.length y.length=y.length by omega,yI];by_cases a:x.take y.length=y
  .rw[dn a,aN rfl,cV,ai];simp[h,a]
  .rw[cm a,aJ aS,gM,ah];simp[a]
 .rw[dn ag,ai];simp[h]
def Qt x:iL (x,())=aa (false,()):=by
 unfold iL;rw[zy];rfl
def aeV x y:j6 (x,y,())=aa (XX x y,()):=by
 unfold j6 XX;rw[Qt,ab,Qt,ab];rw[ah,ah,XW];rcases GD x y with h|rfl|h
 .rw[h,ai,aN rfl]
 .rw[tP,ah,ah,aJ aS,aN rfl]
 .rw[rD h,ah,h,ai,aJ aS,aJ λe=>MP h e.symm]
def Cp a b (I:a.length<=4096) (J:b.length<=4096):gR (a,b,())=aa (cmpL (parts a)<|parts b,()):=by
 unfold gR;have A:=fD a;have B:=fD b;rw[rF a ag,ab,rF b ag,ab];generalize parts a=x at A;generalize parts b=y at B;have run:∀n i,x.length-i<=n->i<=x.length->i<=y.length->x.take i=y.take i->∃q,Loop (dJ (x,()) (y,())) ((0,i,()),())=aa q /\
   (if q.1=0 then x.length<=y.length/\cmpL (x.drop i) (y.drop i)=(if x.length<y.length then -1 else 0) else q.1=1/\q.2.1.1=cmpL (x.drop i) (y.drop i)):=by
  intro n;induction n with
  | zero =>
    intro i hn C o D;obtain rfl:i=x.length:=ag;refine⟨(0,(0,x.length,()),()),?_,?_⟩
    .rw[aO];have:dJ (x,()) (y,()) ((0,x.length,()),())=aa (.inr (0,(0,x.length,()),())):=by
      unfold dJ;rw[aq,ah]
     grind
    .rw[aN rfl];refine⟨o,?_⟩;rw[Tw];by_cases h:x.length<y.length
     .rw[aN h];cases hd:y.drop x.length with
      | nil=>have:=congrArg List.length hd;simp at this;omega
      | cons b r=>rfl
     .rw[aJ h,Fj ag];rfl
  | succ n K =>
    intro i hn C o D;by_cases hi:i<x.length
    .obtain⟨u,d⟩:∃u,x[i]?=aa u:=⟨_,fX hi⟩;obtain⟨E,f⟩:=hR.1 d;have p:x.drop i=u::x.drop (i+1):=by rw[BK hi,f]
     rw[aO];by_cases s:i<y.length
     .obtain⟨v,w⟩:∃v,y[i]?=aa v:=⟨_,fX s⟩;obtain⟨F,j⟩:=hR.1 w;have G:y.drop i=v::y.drop (i+1):=by rw[BK s,j]
      have st:dJ (x,()) (y,()) ((0,(i:Int),()),())=if u=v then aa (.inl ((0,((i+1:Nat):Int),()),())) else aa (.inr (1,(XX u v,i,()),())):=by
       unfold dJ;dsimp only;rw[al hi,ai,ao d,ab,wo,cm ag,ah,ao w,ab,aeV,ab];by_cases e:u=v
       .rw[aN e,show XX u v=0 by unfold XX;rw[e,tP,aJ aS,aN rfl],show nt _=false from rfl,ah,az ag]
       .rw[aJ e,show aG _ 0=false from ar (by unfold XX;split<;>(try split)<;>first|decide|exact absurd (by assumption) e),aI,ai]
      rw[st,p,G,cmpL];by_cases e:u=v
      .grind
      .rw[aJ e];refine⟨_,rfl,?_⟩;unfold XX
       grind
     .have st:dJ (x,()) (y,()) ((0,i,()),())=aa (.inr (1,(1,i,()),())):=by
       unfold dJ;dsimp only;rw[al hi,ai,ao d,ab,wo,dn ag,ai]
      rw[st];refine⟨_,rfl,?_⟩;rw[ p,show y.drop i=[] from Fj ag];exact⟨rfl,rfl⟩
    .grind
 obtain⟨q,H,c⟩:=run x.length 0 ag ag ag rfl;have k:Loop (dJ _ _) ((0,0,()),())=aa q:=H;rw[k,ab];rw[DG,DG] at c;by_cases h:q.1=0
 .rw[aN h] at c;rw[h,cV,ai,GB,c.2];by_cases l:x.length<y.length
  .rw[dn l,ai,aN l]
  .rw[cm l,ah,aJ l]
 .rw[aJ h] at c;rw[c.1,gM,ah,c.2]
def xD a b (H:a.length<=4096) (I:b.length<=4096):jG (a,b,())=aa (cmpL (parts a)<|parts b,()):=by
 unfold jG;have w:=fD a;have A:=fD b;rw[iq a ag,ab,iq b ag,ab];generalize parts a=x at w;generalize parts b=y at A;have run:∀n i,x.length-i<=n->i<=x.length->i<=y.length->∃q,Loop (dK (x,()) (y,())) ((0,i,()),())=aa q /\
   (if q.1=0 then cmpL (x.drop i) (y.drop i)=(if x.length<y.length then -1 else if y.length<x.length then 1 else 0) else q.1=1/\q.2.1.1=cmpL (x.drop i) (y.drop i)):=by
  intro n;induction n with
  | zero =>
    intro i hn B C;obtain rfl:i=x.length:=ag;refine⟨(0,(0,x.length,()),()),?_,?_⟩
    .rw[aO];have:dK (x,()) (y,()) ((0,x.length,()),())=aa (.inr (0,(0,x.length,()),())):=by
      unfold dK;rw[aq,ah,ah]
     grind
    .rw[aN rfl,Tw];by_cases h:x.length<y.length
     .rw[aN h];cases hd:y.drop x.length with
      | nil=>have:=congrArg List.length hd;simp at this;omega
      | cons b r=>rfl
     .rw[aJ h,Fj ag,aJ ag];rfl
  | succ n J =>
    intro i hn B C;by_cases hi:i<x.length
    .obtain⟨u,o⟩:∃u,x[i]?=aa u:=⟨_,fX hi⟩;obtain⟨D,f⟩:=hR.1 o;have p:x.drop i=u::x.drop (i+1):=by rw[BK hi,f]
     rw[aO];by_cases d:i<y.length
     .obtain⟨v,s⟩:∃v,y[i]?=aa v:=⟨_,fX d⟩;obtain⟨E,j⟩:=hR.1 s;have F:y.drop i=v::y.drop (i+1):=by rw[BK d,j]
      have st:dK (x,()) (y,()) ((0,(i:Int),()),())=if u=v then aa (.inl ((0,((i+1:Nat):Int),()),())) else aa (.inr (1,(if fM u v=true then -1 else 1,(i,())),())):=by
       unfold dK;rw[al hi,al d,ai,ai,ao o,ab,ao s,ab,ab,ab,XW];rcases GD u v with h|rfl|h
       .rw[h,ai,aJ (MP h),aN rfl]
       .rw[tP,ah,ah,aN rfl,az ag]
       .rw[rD h,ah,h,ai,aJ (λe=>MP h e.symm),aJ aS]
      rw[ p,F,cmpL]
      grind
     .have st:dK (x,()) (y,()) ((0,i,()),())=aa (.inr (0,(0,i,()),())):=by
       unfold dK;rw[al hi,AK,cm d,ai,ah]
      rw[st];refine⟨_,rfl,?_⟩;rw[aN rfl,p,show y.drop i=[] from Fj ag,aJ ag,aN ag];rfl
    .grind
 obtain⟨q,G,c⟩:=run x.length 0 ag ag ag;have k:Loop (dK _ _) ((0,0,()),())=aa q:=G;rw[k,ab];rw[DG,DG] at c;by_cases h:q.1=0
 .rw[aN h] at c;rw[h,cV,ai,GB,GB,c];by_cases l:x.length<y.length
  .rw[dn l,ai,aN l]
  .rw[cm l,ah,aJ l];by_cases m:y.length<x.length
   .rw[dn m,ai,aN m]
   .rw[cm m,ah,aJ m]
 .rw[aJ h] at c;rw[c.1,gM,ah,c.2]
def Jl s p:cq (s,p,())=aa (decide<|s.take p.length=p,()):=by
 unfold cq;rw[MM];by_cases h:p.length<=s.length
 .rw[dn h,show inside 0 (len p) (len s)=true from aL aD (by rw[bw];omega) (by rw[bw,bw];omega)];rfl
 .rw[cm h,ah,ab,cm]
  grind
def M1 s p:cC (s,p,())=aa (decide<|s.take p.length=p,()):=by
 unfold cC;rw[Jl,ab]
def EZ s p:oe (s,p,())=aa (decide<|s.take p.length=p,()):=by
 unfold oe;rw[MM];by_cases h:p.length<=s.length
 .rw[dn h,show inside 0 (len p) (len s)=true from aL aD (by rw[bw];omega) (by rw[bw,bw];omega)];rfl
 .rw[cm h,ah,ab,cm]
  grind
def aeW s p:kD (s,p,())=aa (if s.take p.length=p then(s.drop p.length,true,()) else(s,false,())):=by
 unfold kD fk;rw[Jl,ab];by_cases h:s.take p.length=p
 .have a:p.length<=s.length:=by
   grind
  rw[dn h,aV,ah,show inside (len p) _ (len s)=true from aL (by rw[bw];omega) (by rw[bw,bw];omega) (tc _),ai,ab,aN h];rw[show sub s (len p) (minus _<|len p)=s.drop p.length from jc s p.length a]
 .rw[cm h,aI,ai,ab,aJ h]
def Pc l s (n:l.length<=1048576):bD (l,s,())=aa (decide<|s∈l,()):=by
 unfold bD eN;have key:=qc (f:=bV (l,s,())) l (λ_ i=>((0,i,()),()))
  (λi _ x=>aa (if s=x then .inr _ else .inl ())) (λi _=>(0,(0,i,()),())) (λ_ _=>True)
  (λu i x d j _=>by
   unfold bV;rw[al j,ao d,ab];by_cases e:s=x
   .rw[ck e,aN e];rfl
   .rw[aY e,aJ e,az ag];rfl)
  (λ_ _ _ _ _ _ _=>trivial)
  (λu _=>by
   unfold bV;rw[aq,ah])
  (λ_ _ _ _ _ h=>by cases h) () trivial
 have run:∀r i,∃q,va (λi _ x=>aa (if s=x then aB (1,((i:Int),(i:Int),()),()) else aA ())) (λi _=>(0,(0,i,()),())) r i ()=aa q /\
   (if s∈r then q.1=1/\0<=q.2.1.1 else q.1=0):=by
  intro r;induction r with
  | nil=>intro i;exact⟨_,rfl,aS⟩
  | cons x r o =>
    unfold va;by_cases h:s=x
    .simp_all
    .simp_all
 obtain⟨q,k,a⟩:=run l 0;have c:Loop (bV _) ((0,0,()),())=aa q:=key.trans k;rw[c,ab];by_cases h:s∈l
 .rw[aN h] at a;rw[a.1,gM,ah,ab,dn h];rw[bA a.2]
 .rw[aJ h] at a;rw[a,cm h];rfl
def wh:bg:=[46,119,104,46]
def nN(n:bg):Int×bg :=
 if n.take 4=wh then(if n.drop 4=[46,119,104,46,46,111,112,113] then(2,[]) else if(n.drop 4).take 4=wh\/n.drop 4=[]\/n.drop 4=[46]\/n.drop 4=[46,46] then(3,[]) else(1,n.drop 4)) else(0,n)
def VA n:sk (n,())=aa ((nN n).1,(nN n).2,()):=by
 unfold sk nN;rw[show([46,119,104,46])=wh from rfl,aeW,ab,show wh.length=4 from rfl];by_cases h:n.take 4=wh
 .have e:n=wh++n.drop 4:=by rw[<-h,Fk]
  rw[aN h,aN h];rw[aV,ah];generalize n.drop 4=r at e;by_cases a:r=[46,119,104,46,46,111,112,113]
  .rw[aN a,ck (by rw[e,a];rfl),ai]
  .rw[aJ a,aY (by rw[e];intro q;exact a (by simpa [wh] using q)),ah,M1,ab];rw[show wh.length=4 from rfl];by_cases c:r.take 4=wh
   .rw[aN<|.inl c,dn c,aV,ah,ab,ai]
   .rw[cm c,aI,ai,Pc _ _ aD,ab,ab,MO]
    grind
 .rw[aJ h,aJ h];rfl
def Jm n:so (n,())=aa ((nN n).1,(nN n).2,()):=by
 unfold so nN;rw[EZ,EZ];by_cases h:n.take 4=wh
 .have e:n=wh++n.drop 4:=by rw[<-h,Fk]
  rw[aN h];generalize j:n.drop 4=r at e;by_cases a:r=[46,119,104,46,46,111,112,113]
  .rw[aN a,ck (by rw[e,a];rfl),ai]
  .rw[aJ a,aY (by rw[e];intro q;exact a (by simpa [wh] using q)),ah,ab];have k:decide (n.take ([46,119,104,46,46,119,104,46]:bg).length=[46,119,104,46,46,119,104,46])=decide (r.take 4=wh):=by
    rw[e];apply gO.2;simp[wh]
   have l:br n [46,119,104,46]=decide (r=[]):=by
    rw[e];apply gO.2;simp[wh]
   have o:br n [46,119,104,46,46]=decide (r=[46]):=by
    rw[e];apply gO.2;simp[wh]
   have p:br n [46,119,104,46,46,46]=decide (r=[46,46]):=by
    rw[e];apply gO.2;simp[wh]
   have s:decide (n.take ([46,119,104,46]:bg).length=[46,119,104,46])=true:=dn h;rw[k,l,o,p,s];have hs:ak (ak (nt<|ak (nt<|ak (nt<|decide<|r.take 4=wh) (decide<|r=[]) true) (decide<|r=[46]) true) (decide<|r=[46,46]) true)=λ(x y:Option (Int×bg×aj))=>if r.take 4=wh\/r=[]\/r=[46]\/r=[46,46] then x else y:=by
    funext x y;by_cases c:r.take 4=wh
    .simp[c,ak,nt]
    .by_cases d:r=[]
     .simp[d,ak,nt]
     .by_cases f:r=[46]
      .simp[f,ak,nt]
      .by_cases i:r=[46,46]
       .simp[i,ak]
       .rw[aJ<|by simp[c,d,f,i]];simp[c,d,f,i,ak,nt]
   rw[hs];dsimp only;by_cases b:r.take 4=wh\/r=[]\/r=[46]\/r=[46,46]
   .grind
   .rw[aJ b,aJ b,ab];have v:4<=n.length:=by rw[e];simp[wh]
    rw[ai,show inside 4 _ _=true from aL aD (by rw[bw];omega) (tc _),ai,show sub n 4 (minus _ 4)=n.drop 4 from jc n 4 v,j]
 .rw[aJ h];have w:n≠[46,119,104,46,46,119,104,46,46,111,112,113]:=λq=>h (by rw[q];rfl);have A:n≠[46,119,104,46]:=λq=>h (by rw[q];rfl);have B:n≠[46,119,104,46,46]:=λq=>h (by rw[q];rfl);have C:n≠[46,119,104,46,46,46]:=λq=>h (by rw[q];rfl);have D:¬n.take ([46,119,104,46,46,119,104,46]:bg).length=[46,119,104,46,46,119,104,46]:=λq=>h (by
   have:=congrArg (List.take 4) q;rw[Oj] at this;exact this)
  rw[aY w,ah,ab];rw[cm D,aY A,aY B,aY C];rw[show ak _=λx y=>y from rfl];rw[ab];rw[cm<|by exact h,ah]
def qS{a b}:ak a b false=(a&&b):=by cases a<;>rfl
def abn{s}(h:(lE s).2=0):nM s=true/\(lE s).1=aP (names s):=by
 unfold lE at h⊢
 grind
def rI{s}(h:nM s=true):(names s).all tR=true/\(names s).length<=8/\(aP<|names s).length<=96:=by
 unfold nM at h
 grind
def Ya{l}(h:∀x∈l,47∉x/\x≠[]):(aP l).head?≠aa 47:=by
 cases l with
 | nil=>simp[aP]
 | cons x r =>
   obtain⟨c,a⟩:=h x (qT ..);have e:(aP (x::r)).head?=x.head?:=by
    cases x with
    | nil=>exact absurd rfl a
    | cons b x=>cases r<;>simp[aP]
   cases x with
   | nil=>exact absurd rfl a
   | cons b x =>
     grind
def M3 l a (h:∀x∈a++l,47∉x/\x≠[]):l.foldl rH (aP a)=aP (a++l):=by
 induction l generalizing a with
 | nil=>simp
 | cons x r f =>
   have e:rH (aP a) x=aP (a++[x]):=by
    unfold rH;cases a with
    | nil=>rfl
    | cons y q =>
      have d:aP (y::q)≠[]:=by
       have:=(h y aS).2;cases q with
       | nil=>exact this
       | cons z q=>rw[aP];simp
      have gen:∀y q,aP (y::q++[x])=aP (y::q)++47::x:=by
       intro y q;induction q generalizing y with
       | nil=>rfl
       | cons z q c =>
         rw[Lh,Lh,aP,<-Lh,c z];rw[aP];simp
      grind
   grind
def Cq{l}(h:∀x∈l,47∉x/\x≠[]) c:bh (aP l)=(aP l.dropLast,l.getLast c):=by
 have hs:=GM l c λx f=>(h x f).1;rcases rG _ with ⟨d,e⟩|⟨a,b,i,d,e⟩
 .rw[pt _ d] at hs;rw[e];generalize aP l=p at hs;subst hs;rfl
 .rw[e];rw[i,Co a b d] at hs;subst hs;rw[List.dropLast_concat,List.getLast_concat,wv]
def GO(a:Tx)(x:Nm):List Tx:=if x.1.take a.length=a then [x.1] else []
def M4(l:List Nm)(a:Tx):List Tx:=l.flatMap (GO a)
def pv(c:Tx)(f:List Tx):Tx×Int×aj:=if c=[]\/6<=c.length then([],3,()) else match f with|[]=>([],3,())|[a]=>(a,0,())|_=>([],9,())
def aR(l:List Nm)(a:Tx):Tx×Int×aj:=if ∃x∈l,x.1=a then(a,0,()) else
 match l.find? (λx=>decide (a∈x.2.1)) with|some x=>(x.1,0,())|none=>pv a (M4 l a)
def SR(c:Tx) f:ak (ak (nt<|ak (nt<|br c ([]:Tx)) (cw 6<|@len UInt8 c) true) (aG (@len Tx f) 0) true) (aa (([]:Tx),3,()))
  (ak (aU 1<|@len Tx f) (aa (([]:Tx),9,()))<|ak (within 0<|@len Tx f) (ae (@idx Tx f 0) λi=>aa (i,0,())) af)=aa (pv c f):=by
 have j:br c ([])=decide (c=[]):=rfl;have k:cw 6 (@len UInt8 c)=decide (6<=c.length):=by unfold len;apply gO.2;omega
 unfold pv;rw[j,k];by_cases d:c=[]
 .rw[aN<|.inl d,dn d];rfl
 .rw[cm d];by_cases e:6<=c.length
  .rw[aN<|.inr e,dn e];rfl
  .rw[aJ<|by rintro(h|h);exact d h;exact e h,cm e]
   match f with
   | []=>rfl
   | [a]=>rfl
   | a::b::r =>
     have:aU 1 (@len Tx (a::b::r))=true:=aT (by simp only[len,iE];omega);rw[ this];rfl
def Yb(l:List Nm) ref (j:l.length<=1000000) (q:Nat×(Int×Int×aj)×Tx×aj) (c:q.2.2.1=ref) :
  Loop (pc (l,ref,()) q) (((),0,()),([]:List Tx),())=aa (((),(l.length:Int),()),M4 l ref,()):=by
 refine hM l (λa i=>(((),i,()),a,())) (GO ref) _ ag (λi x d e f=>?_) ?_
 .have k:((l.take i).flatMap<|GO ref).length<=l.length:=by
   have:=eY (g:=GO ref) (λx=>by unfold GO;split<;>simp) l i;omega
  unfold pc;rw[al e,ao d,ab,c,M1,f];unfold GO;by_cases h:x.1.take ref.length=ref
  .rw[dn h,aN h];have:fits (plus (@len Tx<|(l.take i).flatMap<|GO ref)<|@len Tx<|[x.1])=true:=aH (by show _+1<=_;omega);unfold GO at this;rw[this];rfl
  .rw[cm h,aJ h];rw[vl];rfl
 .unfold pc;rw[aq];rfl
def mM l (ref:Tx) (d:Small l) (e:l.length<=1000000):ix (l,ref,())=aa (aR l ref):=by
 unfold ix;have mid:∀{f1},f1=pb (l,ref,()) ->
   (∃(i:Nat) (x:Nm),l[i]?=aa x/\decide (ref∈x.2.1)=true/\(∀j y,j<i->l[j]?=aa y->decide (ref∈y.2.1)=false)/\Loop f1 ((0,0,()),ref,())=aa (1,((i:Int),(i:Int),()),ref,())) \/
   ((∀(i:Nat) x,l[i]?=aa x->decide (ref∈x.2.1)=false)/\Loop f1 ((0,0,()),ref,())=aa (0,(0,len l,()),ref,())):=by
  intro f1 r;subst r;exact eL l (λi=>((0,i,()),_)) _ _ _ d.1 (λi x a c k=>by
   unfold pb;rw[al c,ai,ao a,ab,Cj x.2.1 ref (d.2 x<|dW a),ab,dw,k];by_cases h:ref∈x.2.1<;>simp[h]) (by unfold pb;rw[aq];rfl)
 rcases eL (f:=pa (l,_)) l (λi=>((0,i,()),ref,())) (λ_ x=>decide (x.1=ref)) (λi x=>(1,(i,i,()),ref,())) _ d.1 (λi x a c k=>by
  unfold pa;rw[al c,ai,ao a,ab,dw,k];by_cases h:x.1=ref<;>simp[br,h]) (by unfold pa;rw[aq];rfl) with ⟨i,x,a,n,q,h⟩|⟨hn,h⟩
 .rw[h,ab];dsimp only;rw[show cK 1 0=false from rfl,ah,bA ag,ai];unfold aR;rw[aN ⟨x,dW a,fU n⟩]
 .rw[h,ab];rw[show cK 0 0=true from rfl,ai,show cw 0 (-1)=false from rfl,ah];have o:¬∃x∈l,x.1=ref:=by
   rintro⟨x,a,s⟩;obtain⟨i,c⟩:=bq.1 a;have:=hn i x c;simp[s] at this
  unfold aR;rw[aJ o];rcases mid rfl with ⟨i,x,a,n,q,h⟩|⟨hn,h⟩
  .rw[h,ab];dsimp only;rw[show cK 1 0=false from rfl,ah,bA ag,ai,ao a,ab];have:l.find? (λx=>decide (ref∈x.2.1))=aa x:=by
    rw[aau];refine⟨n,i,av a,?_,λj p=>?_⟩
    .have:=fX (av a);rw[a] at this;exact(aF this).symm
    .have v:=av a;have:=q j l[j] p (fX ag);simpa using this
   rw[this]
  .rw[h,ab];rw[ Yb l ref e _ rfl];have:l.find? (λx=>decide (ref∈x.2.1))=none:=by
    rw[Tu];intro x a;obtain⟨i,c⟩:=bq.1 a;have:=hn i x c;simpa using this
   rw[this];exact SR ref _
def idN(n:Int):Tx:=ve (bm [ju .u8<|jv .i64 n 16,ju .u8 (jv .i64 n 8),ju .u8 n])
def idK(d:Int)(k:Nat):Tx:=idN (eU (aw .i64 (gP .i64 d 16777215) (k:Int)) 16777216)
def akY(s:Tx):Prop:=(H2 s).isSome=true/\s.length=6
def Pd n:yr (n,())=aa (idN n,()):=by
 unfold yr;rw[ SI _ (by show 3<=1048576;omega)];rfl
def ajj n:akY (idN n):=by
 have h:∀a b c,(H2<|ve [a,b,c]).isSome=true/\(ve [a,b,c]).length=6:=λa b c=>⟨by rw[H3];rfl,rfl⟩;apply h
def zQ(l:List Nm)(d:Int)(k:Nat):Bool:=decide (∀x∈l,x.1≠idK d k)
def dE(l:List Nm)(d:Int):Tx×Int×aj:=if 32<=l.length then([],5,()) else
 match(List.range<|l.length+1).find? (zQ l d) with|some k=>(idK d k,0,())|none=>([],5,())
def abo(l:List Nm) d (s:Tx) (n:l.length<=1000000) :
  (∃i:Nat,Loop (gK (l,d,())) (((0:Int),(0:Int),()),s,())=aa (1,((i:Int),(i:Int),()),s,())/\∃x∈l,x.1=s) \/
  (Loop (gK (l,d,())) ((0,0,()),s,())=aa (0,(0,len l,()),s,())/\∀x∈l,x.1≠s):=by
 rcases eL (f:=gK (l,_)) l (λi=>((0,i,()),s,())) (λ_ x=>decide (x.1=s)) (λi x=>(1,(i,i,()),s,())) _ ag (λi x a c e=>by
  unfold gK;rw[al c,ai,ao a,ab,dw,e];by_cases h:x.1=s<;>simp[br,h]) (by unfold gK;rw[aq];rfl) with ⟨i,x,a,j,o,h⟩|⟨hn,h⟩
 .exact .inl ⟨i,h,x,dW a,fU j⟩
 .refine .inr ⟨h,λx a k=>?_⟩;obtain⟨i,c⟩:=bq.1 a;have:=hn i x c;simp[k] at this
def H8(l:List Nm) d:iO (l,d,())=aa (dE l d):=by
 unfold iO dE;have f:cw 32 (len l)=decide (32<=l.length):=by unfold len;apply gO.2;omega
 rw[f];by_cases a:32<=l.length
 .rw[dn a,aN a];rfl
 rw[cm a,aJ a];have p:aw .i64 (len l) 1=((l.length+1):Int):=by rw[eA ef ef];unfold len;omega
 have hlen:(List.range _).length=l.length+1:=Re;have key:∀k,k<l.length+1->nF (l,_) ((([]),0,k,()),())=aa (if zQ l d k=true then .inr _ else .inl _):=λk c=>by
  unfold nF;dsimp only;rw[ aT ag,Pd,(az ag)];show ae _ _=_
  rcases abo l d _ ag with ⟨i,h,x,e,r⟩|⟨h,hn⟩
  .rw[h,ab];dsimp only;rw[show cK 1 0=false from rfl,ah,bA ag,aV,ah,aJ (by unfold zQ;rw[TI];exact λs=>s x e r)]
  .rw[h,ab];rw[ aN (by unfold zQ;rw[TI];exact hn)];rfl
 rcases eL (List.range<|l.length+1) (λk=>((([]),0,k,()),())) _ _ _ ag
  (λk x e q y=>key k (by rw[hlen] at q;exact q)) (by
   unfold nF;dsimp only;rw[ aC ag,ah]) with ⟨k,x,e,v,w,h⟩|⟨hn,h⟩
 .have c:=av e;rw[hlen] at c;rw[h];have n:(List.range<|l.length+1).find? (zQ l d)=aa k:=by
   rw[aau];refine⟨v,k,by rw[hlen];exact c,aS,λj o=>?_⟩;have:=w j j o (by rw[JI ag]);simpa using this
  rw[n];rfl
 .rw[h];have n:(List.range<|l.length+1).find? (zQ l d)=none:=by
   rw[Tu];intro k c;have:=hn k k (by rw[JI<|Lk.1 c]);simpa using this
  rw[n];rfl
def Cr{l d}(h:(dE l d).2.1=0):l.length<32/\akY (dE l d).1/\∀x∈l,x.1≠(dE l d).1:=by
 unfold dE at h⊢;by_cases a:32<=l.length
 .rw[aN a] at h;cases h
 .rw[aJ a] at h⊢;cases c:(List.range _).find? _ with
  | none=>rw[c] at h;cases h
  | some k =>
    have:=Y8 c;exact⟨ag,ajj _,fU this⟩
def ajk d:∃m:Nat,m<16777216/\gP .i64 d 16777215=m:=by
 refine⟨(BitVec.ofInt IntKind.i64.bits d &&& BitVec.ofInt IntKind.i64.bits 16777215).toNat,?_,?_⟩
 .rw[BitVec.toNat_and];exact Nat.lt_succ_of_le Nat.and_le_right
 .unfold gP;have h:(BitVec.ofInt IntKind.i64.bits d &&& BitVec.ofInt IntKind.i64.bits 16777215).toNat<16777216:=by
   exact Nat.lt_succ_of_le Nat.and_le_right
  exact uI ag ag
def aio d:∃m,∀k:Nat,k<=64->eU (aw .i64 (gP .i64 d 16777215) k) 16777216=(((m+k) % 16777216:Nat):Int):=by
 obtain⟨m,a,e⟩:=ajk d;refine⟨m,λk c=>?_⟩;rw[e,eA ag ag];exact sX _ 16777216
def VB(n:Nat):Nat->Tx
 | 0=>[]
 | k+1=>hx (n / 16 ^ k % 16)::VB n k
def aeX n k:(VB n k).length=k:=by
 induction k with
 | zero=>rfl
 | succ k a=>simp only[VB,iE,a]
def aeY{i:Nat}(h:i<16):sub O5 i (minus ((i+1:Nat):Int) i)=[hx i]:=by
 have a:O5.length=16:=rfl;refine sub_one ?_;unfold hx;rw[ah1,fX ag];rfl
def abp(n:Nat)(i:n<16777216):AA (n,())=aa (VB n 6,()):=by
 unfold AA;have key:=cB (f:=uE) 6 (λk=>((((n / 16 ^ k:Nat):Int),VB n k,k,()),())) (λk j=>by
  unfold uE;dsimp only;have Hb:eU ((n / 16 ^ k:Nat):Int) 16=_:=sX _ 16;have a:n / 16 ^ k<=n:=Nat.div_le_self _ _;have c:Hg .i64 ((n / 16 ^ k:Nat):Int) 16=((n / 16 ^ (k+1):Nat):Int):=by
   rw[Nat.pow_succ,<-Nat.div_div_eq_div_mul];generalize n / 16 ^ k=q at a;have e:(q:Int).tdiv 16=((q / 16:Nat):Int):=by
    rw[Int.tdiv_eq_ediv_of_nonneg ag];omega
   exact uI ag ag
  rw[Hb,c,az ag,az ag,aT ag];have d:([48,49,50,51,52,53,54,55,56,57,97,98,99,100,101,102])=O5:=rfl;rw[d,aeY (BE _ aD),aL ag ag (by show _<=16;omega),aH (by rw[aeX];simp;omega)];rfl) (by
  unfold uE;dsimp only;rfl)
 rw[show((n:Int),_)=((((n / 16 ^ 0:Nat):Int),VB n 0,((0:Nat):Int),()):Int×Tx×Int×aj) from by rw[ Nat.div_one];rfl,key,ab]
def zR(n k:Nat)(a:k<=60):jv .i64 n k=((n / 2 ^ k:Nat):Int):=by
 unfold jv;rw[show min _ IntKind.i64.bits=k from by show min k 64=k;omega,ahZ _ (by exact Int.le_of_lt<|Int.pow_pos aD)]
 norm_cast
def SS(m:Nat):(UInt8.ofNat (ju .u8 m).toNat).toNat=m % 256:=by
 rw[ai9,show((m:Int) % 256).toNat=m % 256 by omega];simp
def ahf(n:Nat)(a:n<16777216):idN n=VB n 6:=by
 unfold idN;rw[show jv .i64 n 16=_ from zR n 16 aD,show jv .i64 n 8=_ from zR n 8 aD];simp only[bm,TP,List.map_nil,ve,SS,VB];rw[show n / 2 ^ 16 % 256 / 16=n / 16 ^ 5 % 16 by omega,show n / 2 ^ 16 % 256 % 16=n / 16 ^ 4 % 16 by omega,show n / 2 ^ 8 % 256 / 16=n / 16 ^ 3 % 16 by omega,show n / 2 ^ 8 % 256 % 16=n / 16 ^ 2 % 16 by omega,
  show n % 256 / 16=n / 16 ^ 1 % 16 by omega,show n % 256 % 16=n / 16 ^ 0 % 16 by omega]
def ahg{n m:Nat}(f:n<16777216)(i:m<16777216)(h:idN n=idN m):n=m:=by
 unfold idN at h;have e:=congrArg H2 h;rw[H3,H3] at e;have d:=aF e;rw[show jv .i64 n 16=_ from zR n 16 aD,show jv .i64 n 8=_ from zR n 8 aD,
  show jv .i64 m 16=_ from zR m 16 aD,show jv .i64 m 8=_ from zR m 8 aD] at d
 simp only[bm,TP,ac8,TT] at d;obtain⟨a,b,c⟩:=d;have a:=congrArg UInt8.toNat a;have b:=congrArg UInt8.toNat b;have c:=congrArg UInt8.toNat c;rw[SS,SS] at a b c;omega
def Jn(l:List Nm)(s:Tx):Bool:=l.any λy=>decide (y.1=s)
def aeZ(l:List Nm) d (s:Tx) (c:l.length<=1000000) :
  Loop (lz (l,d,()) (s,())) ((false,0,()),())=aa ((Jn l s,((l.length:Nat):Int),()),()):=by
 have key:=cB (f:=lz (l,d,()) (s,())) l.length (λk=>((Jn (l.take k) s,k,()),())) (λk a=>by
  have hx:=fX a;unfold lz;rw[al a,ao hx,az ag];have e:Jn (l.take<|k+1) s=(Jn (l.take k) s||decide (l[k].1=s)):=by
   unfold Jn;rw[wN,hx,List.any_append];simp
  rw[e];cases Jn _ s with
  | true=>rfl
  | false=>rfl) (by
  unfold lz;rw[aq,yI];rfl)
 exact key
def Yc l d (h:l.length<32):∃k,k<l.length+1/\zQ l d k=true:=by
 apply BB;intro i;obtain⟨m,r⟩:=aio d;have c:∀k,k<=64->idK d k=idN _:=λk j=>by unfold idK;rw[r k j]
 have e:(List.range<|l.length+1).map (idK d) ⊆ l.map (·.1):=by
  intro x s;obtain⟨k,j,rfl⟩:=Lm.1 s;have n:=λq=>i ⟨k,(Lk.1 j),q⟩;unfold zQ at n;rw[TI] at n;apply BB;intro hn;exact n λy v f=>hn (Lm.2 ⟨y,v,f⟩)
 have o:((List.range<|l.length+1).map<|idK d).Nodup:=by
  unfold List.Nodup;rw[List.pairwise_map];refine List.Pairwise.imp_of_mem (λ{a b} A p w f=>?_) (List.pairwise_lt_range);have p:=Lk.1 p;rw[c a ag,c b ag] at f;have:=ahg (BE _ aD) (BE _ aD) f;omega
 have hlen:=o.length_le_of_subset e;rw[yJ,Re,yJ] at hlen;omega
def AV(l:List Nm) d (r:l.length<=1000000):na (l,d,())=aa (dE l d):=by
 unfold na dE;have i:cw 32 (len l)=decide (32<=l.length):=by unfold len;apply gO.2;omega
 rw[i];by_cases a:32<=l.length
 .rw[dn a,aN a];rfl
 rw[cm a,aJ a];obtain⟨m,o⟩:=aio d;have key:∀k:Nat,k<=32->pn (l,d,()) ((([]),0,k,()),())=aa (if zQ l d k=true then .inr _ else .inl _):=λk s=>by
  unfold pn;dsimp only;rw[bA ag,o k ag,abp _ (BE _ aD),ab,<-ahf _ (BE _ aD),<-o k ag,aeZ l d _ r,ab,az ag];have e:nt (Jn l<|idN<|eU (aw .i64 (gP .i64 d 16777215) k) 16777216)=zQ l d k:=by
   unfold zQ idK nt Jn;rw[Rg];simp
  rw[e];cases zQ l d k<;>rfl
 obtain⟨c,v,f⟩:=Yc l d ag;rcases eL (List.range 33) (λk=>((([]),0,k,()),())) _ _ _ aD
  (λk x p w C=>key k (by rw[Re] at w;omega)) (by
   unfold pn;dsimp only;rw[Re,cR ag,ah]) with ⟨k,x,p,y,q,h⟩|⟨hn,h⟩
 .have s:=av p;rw[h];have A:k<=c:=by
   apply BB;intro D;have:=q c c ag (by rw[JI ag]);rw[f] at this;cases this
  have B:(List.range<|l.length+1).find? (zQ l d)=aa k:=by
   rw[aau];refine⟨y,k,by rw[Re];omega,aS,λj n=>?_⟩;have:=q j j n (by rw[JI ag]);simpa using this
  rw[B];rfl
 .have:=hn c c (by rw[JI ag]);rw[f] at this;cases this
abbrev It:=Tx×Tx×Tx×aj
def wy(l:List It)(p:Tx):Option Nat:=l.findIdx? λx=>decide (x.1=p)
def abq{l p i x}(a:l[i]?=aa x)(d:x.1=p)(e:∀j y,j<i->l[j]?=aa y->y.1≠p):wy l p=aa i:=by
 unfold wy;rw[WK];have hi:=av a;refine⟨hi,?_,λj c=>?_⟩
 .rw[fX hi] at a;rw[aF a];simpa using d
 .have:=e j l[j] c (fX ag);simpa using this
def abr{l p}(h:∀(i:Nat) x,l[i]?=aa x->x.1≠p):wy l p=none:=by
 unfold wy;rw[YS];intro x a;obtain⟨i,c⟩:=bq.1 a;simpa using h i x c
def E0(l:List It)(p:Tx):Tx×Int:=match l.find? λx=>decide (x.1=p) with|some x=>(x.2.2.1,0)|none=>([],3)
def Qu{l p}{i:Nat}{x}(a:l[i]?=aa x)(d:x.1=p)(e:∀j y,j<i->l[j]?=aa y->y.1≠p):E0 l p=(x.2.2.1,0):=by
 unfold E0;have hi:=av a;have:l.find? (λx=>decide (x.1=p))=aa x:=by
  rw[aau];refine⟨by simpa using d,i,hi,?_,λj c=>?_⟩
  .rw[fX hi] at a;exact aF a
  .have:=e j l[j] c (fX ag);simpa using this
 rw[this]
def Qv{l p}(h:∀(i:Nat) x,l[i]?=aa x->x.1≠p):E0 l p=([],3):=by
 unfold E0;have:l.find? (λx=>decide (x.1=p))=none:=by
  rw[Tu];intro x a;obtain⟨i,c⟩:=bq.1 a;simpa using h i x c
 rw[this]
def H9{c:Type}[DecidableEq c]{a b:c}(h:decide (a=b)=false):a≠b:=by simpa using h
def Jo(l:List It)(p:Tx)(q:l.length<=100000):lq (l,p,())=aa ((E0 l p).1,(E0 l p).2,()):=by
 unfold lq;rcases eL (f:=kN (l,_)) l (λi=>(((0,i,()),(),p,()))) (λ_ x=>decide _) _ _ ag (λi x a e c=>by
  unfold kN b0;rw[al e,ao a,ab,ab,c,uJ];cases decide (x.1=p)<;>rfl) (by
  unfold kN;rw[aq,ah]) with ⟨i,x,a,k,n,h⟩|⟨hn,h⟩
 .rw[h,ab];dsimp only;rw[show cK 1 0=false from rfl,ah,aC ag,ah,ao a,ab,Qu a (fU k) λj y d o=>H9 (n j y d o)]
 .rw[h,ab];rw[show cK 0 0=true from rfl,ai,aT aD,ai,Qv λi x a=>H9 (hn i x a)]
def Cs(l:List It)(p:Tx)(q:l.length<=100000):qB (l,p,())=aa ((E0 l p).1,(E0 l p).2,()):=by
 unfold qB;rcases eL (f:=l8 (l,p,())) l (λi=>((([]:Tx),(0:Int),i,()),())) (λ_ x=>decide (x.1=p)) (λi x=>(1,(x.2.2.1,(0:Int),(i:Int),()),())) (0,(([]:Tx),(0:Int),(l.length:Int),()),()) ag (λi x a e c=>by
  unfold l8;dsimp only;rw[al e,ai,ao a,ab,ab,c,uJ];cases decide (x.1=p)<;>rfl) (by
  unfold l8;dsimp only;rw[aq,ah]) with ⟨i,x,a,k,n,h⟩|⟨hn,h⟩
 .rw[h,ab];dsimp only;rw[show cK 1 0=false from rfl,ah,Qu a (fU k) λj y d o=>H9 (n j y d o)]
 .rw[h,ab];dsimp only;rw[show cK 0 0=true from rfl,ai,Qv λi x a=>H9 (hn i x a)]
def Tr(l:List It)(p:Tx):List It:=match wy l p with|some i=>l.take i++l.drop (i+1)|none=>l
def Ia(l:List It)(x:It):List It:=l.takeWhile (λy=>fM y.1 x.1)++[x]++l.dropWhile (λy=>fM y.1 x.1)
def nq(l:List It)(p d:Tx):List It×Int :=
 if ik p=true/\d.length<=64 then(if wy l p=af/\4<=l.length then([],5) else(Ia (Tr l p) (p,SJ d,d,()),0)) else([],1)
def ZQ l p:(Tr l p).length<=l.length:=by
 unfold Tr;split
 .rw[jt,dk,qU];omega
 .apply bX
def ae0{l:List It}{p:Tx}{k}(f:k<=l.length)(d:∀j y,j<k->l[j]?=aa y->fM y.1 p=true)(e:∀y,l[k]?=aa y->fM y.1 p=false) :
  l.takeWhile (λy=>fM y.1 p)=l.take k/\l.dropWhile (λy=>fM y.1 p)=l.drop k:=by
 induction l generalizing k with
 | nil=>simp
 | cons a r i =>
   cases k with
   | zero =>
     have:=e a rfl;simp[ this]
   | succ k =>
     obtain⟨n,o⟩:=i (by simpa using f) (λj y q c=>d (j+1) y ag (by simpa using c)) (λy c=>e y (by simpa using c));simp only[Y1,TG,(d 0 a ag rfl),x9,Y2,List.drop_succ_cons,n,o];exact⟨trivial,trivial⟩
abbrev KS:=(Int×Int×aj)×aj×Tx×aj
abbrev PS':=(Int×Int×aj)×aj×It×aj
def M5(l:List It)(p:Tx):Nat×(Int×Int×aj)×aj×Tx×aj:=match wy l p with
 | some i=>(1,((i:Int),(i:Int),()),(),p,())
 | none=>(0,((0:Int),(l.length:Int),()),(),p,())
def gh(m:List It)(p:Tx):Nat:=(m.takeWhile λy=>fM y.1 p).length
def VC(m:List It)(a:It):Nat×(Int×Int×aj)×aj×It×aj:=if gh m a.1<m.length then(1,((gh m a.1:Int),(gh m a.1:Int),()),(),a,()) else(0,((0:Int),(m.length:Int),()),(),a,())
def SU{f:KS->Option (KS⊕(Nat×KS))} l p (o:l.length<=100000)
  (hs:∀(i:Nat) x,l[i]?=aa x->f ((0,i,()),(),p,())=aa (if decide (x.1=p)=true then .inr (1,(i,i,()),(),p,()) else .inl ((0,((i+1:Nat):Int),()),(),p,())))
  (d:f ((0,(l.length:Int),()),(),p,())=aa (.inr (0,(0,(l.length:Int),()),(),p,()))) :
  Loop f ((0,0,()),(),p,())=aa (M5 l p):=by
 unfold M5;rcases eL l (λi=>(((0,i,()),_))) _ _ _ ag (λi x hx hi c=>hs i x hx) d with ⟨i,x,hx,e,k,h⟩|⟨hn,h⟩
 .rw[h,abq hx (fU e) λj y a n=>H9 (k j y a n)]
 .rw[h,abr λi x hx=>H9 (hn i x hx)]
def wz{m}{p:Tx}{k}(a:k<=m.length)(c:∀j y,j<k->m[j]?=aa y->fM y.1 p=true)(d:∀y,m[k]?=aa y->fM y.1 p=false):gh m p=k:=by
 unfold gh;rw[(ae0 a c d).1,dk];omega
def K1{f:PS'->Option (PS'⊕(Nat×PS'))} m it (q:m.length<=100000)
  (hs:∀(i:Nat) x,m[i]?=aa x->f ((0,i,()),(),it,())=aa (if nt (fM x.1 it.1)=true then .inr (1,(i,i,()),(),it,()) else .inl ((0,((i+1:Nat):Int),()),(),it,())))
  (o:f ((0,(m.length:Int),()),(),it,())=aa (.inr (0,(0,(m.length:Int),()),(),it,()))) :
  Loop f ((0,0,()),(),it,())=aa (VC m it):=by
 unfold VC;have a:∀{x:It},nt (fM x.1 it.1)=false->fM x.1 it.1=true:=λ{x} h=>by
  cases k:fM x.1 it.1 with
  | true=>rfl
  | false=>rw[k] at h;cases h
 rcases eL m (λi=>(((0,i,()),_))) _ _ _ ag (λi x hx hi l=>hs i x hx) o with ⟨i,x,hx,n,p,h⟩|⟨hn,h⟩
 .have hi:=av hx;have e:=wz ag (λj y d c=>a (p j y d c)) (λy c=>by
   rw[hx] at c;obtain rfl:=aF c;cases k:fM x.1 it.1 with
   | false=>rfl
   | true=>rw[k] at n;cases n)
  grind
 .have e:=wz (bX _) (λj y d c=>a (hn j y c)) (λy c=>by
   rw[yH<|bX _] at c;cases c)
  grind
def abt m it (a:m.length<=100000):tE m ((gh m it.1:Nat):Int) [it]=aa (Ia m it):=by
 have c:gh m it.1<=m.length:=by
  unfold gh;have:=congrArg List.length (BA (p:=λy:It=>fM y.1 it.1) (l:=m))
  grind
 unfold tE Ia;rw[show inside 0 _ _=true from aL aD ag ef,aH cJ];have e:=BA (p:=λy=>fM y.1 it.1) (l:=m);have d:m.take (gh m it.1)=m.takeWhile (λy=>fM y.1 it.1):=by
  unfold gh
  grind
 grind
def ae1 m it (j:m.length<=100000) {f:PS'->Option (PS'⊕(Nat×PS'))} (h:Loop f ((0,0,()),(),it,())=aa (VC m it)) :
  (ae (Loop f ((0,0,()),(),it,())) λ(a:Nat×(Int×Int×aj)×aj×(bg×bg×bg×aj)×aj)=>ak (cK a.1 0)
 (ae (aK m (((ak (aU (-1:Int) 0)
 ((@len (bg×bg×bg×aj) m,()),())
 (((-1:Int),()),())).1).1,([a.2.2.2.1]:List (bg×bg×bg×aj)),())) λ(c:List (bg×bg×bg×aj))=>aa (c,(0:Int),()))
 (ae (aK m (((ak (aU a.2.1.1 0)
 ((@len (bg×bg×bg×aj) m,()),())
 ((a.2.1.1,()),())).1).1,([a.2.2.2.1]:List (bg×bg×bg×aj)),())) λ(c:List (bg×bg×bg×aj))=>aa (c,0,())))=aa (Ia m it,0,()):=by
 rw[h,ab];unfold VC aK;have e:=abt m it j;by_cases i:gh m it.1<m.length
 .rw[aN i];dsimp only;rw[show cK 1 0=false from rfl,ah,aC ag,ah];rw[e,ab]
 .rw[aJ i];have d:gh m it.1=m.length:=by
   have:gh m it.1<=m.length:=by
    unfold gh;have:=congrArg List.length (BA (p:=λy=>fM y.1 it.1) (l:=m))
    grind
   omega
  rw[show cK 0 0=true from rfl,ai,aT aD,ai];rw[bw,<-d,e,ab]
def aip l p d g (k:l.length<=100000) {n:KS->Option (KS⊕(Nat×KS))} {o q:(aj×aj)×(List It)×aj->PS'->Option (PS'⊕(Nat×PS'))}
  (s:Loop n ((0,0,()),(),p,())=aa (M5 l p))
  (v:∀m f,m.length<=100000->Loop (o (((),()),m,())) ((0,0,()),(),f,())=aa (VC m f))
  (w:∀m f,m.length<=100000->Loop (q (((),()),m,())) ((0,0,()),(),f,())=aa (VC m f)) :
  (ak (fits<|@len (bg×bg×bg×aj) l)
 (ae (Loop n ((0,0,()),(),p,())) λ(j:Nat×(Int×Int×aj)×aj×bg×aj)=>ak (cK j.1 0)
 (ae (ak (cw 0 (-1:Int))
 (ae (bJ l ((-1:Int),aw i64 (-1:Int) 1,())) λ(a:List (bg×bg×bg×aj))=>aa (((),()),a,()))
 (aa (((),()),l,()))) λ(a:(aj×aj)×(List<|bg×bg×bg×aj)×aj)=>ae (Loop (o a) ((0,0,()),(),(p,g,d,()),())) λ(c:Nat×(Int×Int×aj)×aj×(bg×bg×bg×aj)×aj)=>ak (cK c.1 (0:Nat))
 (ae (aK a.2.1 (((ak (aU (-1:Int) (0:Int))
 ((@len (bg×bg×bg×aj) a.2.1,()),())
 (((-1:Int),()),())).1).1,([c.2.2.2.1]:List (bg×bg×bg×aj)),())) λ(e:List (bg×bg×bg×aj))=>aa (e,(0:Int),()))
 (ae (aK a.2.1 (((ak (aU c.2.1.1 (0:Int))
 ((@len (bg×bg×bg×aj) a.2.1,()),())
 ((c.2.1.1,()),())).1).1,([c.2.2.2.1]:List (bg×bg×bg×aj)),())) λ(e:List (bg×bg×bg×aj))=>aa (e,(0:Int),())))
 (ae (ak (cw 0 j.2.1.1)
 (ae (bJ l (j.2.1.1,aw i64 j.2.1.1 1,())) λ(a:List (bg×bg×bg×aj))=>aa (((),()),a,()))
 (aa (((),()),l,()))) λa=>ae (Loop (q a) ((0,0,()),(),(p,g,d,()),())) λ(c:Nat×(Int×Int×aj)×aj×(bg×bg×bg×aj)×aj)=>ak (cK c.1 0)
 (ae (aK a.2.1 (((ak (aU (-1:Int) 0)
 ((@len (bg×bg×bg×aj) a.2.1,()),())
 (((-1:Int),()),())).1).1,([c.2.2.2.1]:List (bg×bg×bg×aj)),())) λ(e:List (bg×bg×bg×aj))=>aa (e,(0:Int),()))
 (ae (aK a.2.1 (((ak (aU c.2.1.1 0)
 ((@len (bg×bg×bg×aj) a.2.1,()),())
 ((c.2.1.1,()),())).1).1,([c.2.2.2.1]:List (bg×bg×bg×aj)),())) λ(e:List (bg×bg×bg×aj))=>aa (e,0,()))))
 af)=aa (Ia (Tr l p) (p,g,d,()),0,()):=by
 rw[cY ag,s,ab];unfold M5 Tr bJ;cases r:wy l p with
 | none =>
   exact ae1 l _ k (v l _ k)
 | some i =>
   have hi:i<l.length:=by
    unfold wy at r;rw[WK] at r
    grind
   have hlen:(l.take i++l.drop (i+1)).length<=100000:=by rw[jt,dk,qU];omega
   rw[ az ag];unfold J5;rw[jd ag ag];exact ae1 _ _ hlen (w _ _ hlen)
def ahi{l p i}(h:wy l p=aa i):i<l.length:=by
 unfold wy at h;rw[WK] at h
 grind
def Jp(l:List It)(p d:Tx)(j:l.length<=100000)(r:d.length<=1048576):lp (l,p,d,())=aa ((nq l p d).1,(nq l p d).2,()):=by
 have s:Loop (kG (l,p,d,())) _=aa (M5 l p):=SU l p j (λi x c=>by
  have hi:=av c;unfold kG b0;rw[al hi,ai,ao c,ab,ab,az ag,uJ];cases decide (x.1=p)<;>rfl) (by unfold kG;rw[aq,ah])
 have v:Loop (kH (l,p,d,())) _=aa (M5 l p):=SU l p j (λi x c=>by
  have hi:=av c;unfold kH b0;rw[al hi,ai,ao c,ab,ab,az ag,uJ];cases decide (x.1=p)<;>rfl) (by unfold kH;rw[aq,ah])
 have w:Loop (kK (l,p,d,())) _=aa (M5 l p):=SU l p j (λi x c=>by
  have hi:=av c;unfold kK b0;rw[al hi,ai,ao c,ab,ab,az ag,uJ];cases decide (x.1=p)<;>rfl) (by unfold kK;rw[aq,ah])
 have y:∀m _,m.length<=100000->Loop (kI (((),()),m,())) _=aa _:=λm a f=>K1 m a f (λi x c=>by
  have hi:=av c;unfold kI b0;rw[al hi,ai,aE ag (show(i:Int)<len m by unfold len;omega),ai,ao c,ab,ab,ab,az ag];cases nt _<;>rfl) (by unfold kI;rw[aq,ah])
 have A:∀m a,m.length<=100000->Loop (kJ (((),()),m,())) _=aa (VC m a):=λm a f=>K1 m a f (λi x c=>by
  have hi:=av c;unfold kJ b0;rw[al hi,ai,aE ag (show(i:Int)<len m by unfold len;omega),ai,ao c,ab,ab,ab,az ag];cases nt (fM x.1 a.1)<;>rfl) (by unfold kJ;rw[aq,ah])
 have B:∀m a,m.length<=100000->Loop (kL (((),()),m,())) _=aa (VC m a):=λm a f=>K1 m a f (λi x c=>by
  have hi:=av c;unfold kL b0;rw[al hi,ai,aE ag (show(i:Int)<len m by unfold len;omega),ai,ao c,ab,ab,ab,az ag];cases nt (fM x.1 a.1)<;>rfl) (by unfold kL;rw[aq,ah])
 have C:∀m a,m.length<=100000->Loop (kM (((),()),m,())) _=aa _:=λm a f=>K1 m a f (λi x c=>by
  have hi:=av c;unfold kM b0;rw[al hi,aE ag (show i<len m by unfold len;omega),ao c,ab,ab,ab,az ag];cases nt _<;>rfl) (by unfold kM;rw[aq,ah])
 unfold lp nq;rw[GG,ab];have n:aU 64 (len d)=decide (64<d.length):=by unfold len;apply gO.2;omega
 have o:cw 4 (len l)=decide (4<=l.length):=by unfold len;apply gO.2;omega
 rw[n];by_cases hv:ik p=true/\d.length<=64
 .rw[aN hv,hv.1,cm ag,show ak (ak _ false true)=ak false from rfl,ah,s,ab,aeQ d r];cases q:wy l p with
  | none =>
    have e:M5 l p=(0,(0,(l.length:Int),()),(),p,()):=by unfold M5;rw[q]
    rw[e];rw[show cK 0 0=true from rfl,ai,aT aD,ai,o];by_cases k:4<=l.length
    .rw[dn k,ai,aN ⟨rfl,k⟩]
    .rw[cm k,aJ λh=>k h.2];exact aip l p d _ j v (λm a f=>y m a f) (λm a f=>A m a f)
  | some i =>
    have e:M5 l p=(1,((i:Int),(i:Int),()),(),p,()):=by unfold M5;rw[q]
    rw[e];exact aip l p d _ j w (λm a f=>B m a f) (λm a f=>C m a f)
 .rw[aJ hv];have:ak (ak (nt<|nt<|ik p) (decide<|64<d.length) true)=ak (α:=Option (List It×Int×aj)) true:=by
   cases hn:ik p with
   | false=>rfl
   | true =>
     by_cases D:d.length<=64
     .grind
     .rw[dn ag];rfl
  rw[this,ai]
def ajl(l:List It)(p d:Tx)(j:l.length<=100000):Loop (iP (l,p,d,())) (((-1:Int),cH .i64 (len l) 1,()),())=aa (((match wy l p with|some i=>(i:Int)|none=>-1),(-1:Int),()),()):=by
 have key:∀n k,n<=l.length->(k=match(wy (l.drop n) p) with|some i=>((n+i:Nat):Int)|none=>-1) ->
   Loop (iP (l,p,d,())) ((k,n-1,()),())=aa (((match wy l p with|some i=>i|none=>-1),(-1),()),()):=by
  intro n;induction n with
  | zero =>
    intro k hn c;rw[aO];unfold iP;dsimp only;rw[c];simp;rfl
  | succ n f =>
    intro k hn c;rw[aO];unfold iP;dsimp only;have e:((n+1:Nat):Int)-1=n:=ag;rw[e,ao (fX ag),dv ag ag];refine(f _ ag ?_);rw[(BK ag)];unfold wy;rw[List.findIdx?_cons];by_cases a:l[n].1=p
    .rw[ck a,ai,dn a];simp
    .rw[aY a,cm a];rw[c];unfold wy;cases List.findIdx? _ _ with
     | none=>rfl
     | some i=>exact congrArg _ (show n+1+i=n+(i+1) by omega)
 rw[dv ef ef];exact(key l.length (-1) (bX _)<|by rw[Tw];rfl)
def abu{a:Type}(m:List a) x {k} (h:m.length=k):(m++[x]).take k++(m++[x]).drop (k+1)=m.take k++m.drop (k+1):=by
 subst h;simp
def abv{e:Type}(m:List e) x {k} (h:m.length≠k):(m++[x]).take k++(m++[x]).drop (k+1)=m.take k++m.drop (k+1)++[x]:=by
 rw[List.take_append,List.drop_append];by_cases i:k<m.length
 .have a:k-m.length=0:=ag;have c:k+1-m.length=0:=ag;rw[a,c];simp
 .obtain⟨d,f⟩:∃d,k=m.length+1+d:=⟨k-m.length-1,ag⟩;subst f;have a:m.length+1+d-m.length=d+1:=ag;have c:m.length+1+d+1-m.length=d+2:=ag;rw[a,c,Fj ag];simp
def akZ l (p d:Tx) (A:l.length<=100000) q (o:q=match wy l p with|some i=>i|none=>-1) :
  Loop (iQ (l,p,d,()) ((q,(-1:Int),()),())) (((),0,()),([]:List It),())=aa (((),(l.length:Int),()),Tr l p,()):=by
 obtain⟨t,r,s,B⟩:=rE (f:=iQ (l,_) ((q,_),())) l (λt i=>(((),i,()),t,())) (λt i x=>if i=q then t else t++[x]) _
  (λt i=>t=(match wy l p with|some k=>(l.take i).take k++(l.take i).drop (k+1)|none=>l.take i)) ag (λt i x j v a n=>by
   have w:t.length<=l.length:=by
    rw[n];split
    .rw[jt,dk,qU,dk];omega
    .rw[dk];omega
   constructor
   .unfold iQ;rw[al v,ai,ao j,ab,a];by_cases e:i=q
    .rw[au e,aV,ah,ab,aN e,ka]
    .rw[ar e,aH cJ,aJ e];rfl
   .have c:l.take (i+1)=l.take i++[x]:=by rw[wN,j];rfl
    have y:(l.take i).length=i:=by rw[dk];omega
    rw[n,o];cases C:wy l p with
    | none=>dsimp only;rw[aJ ag,c]
    | some k =>
      dsimp only;rw[c];by_cases e:i=k
      .rw[aN ag,abu _ x ag]
      .rw[aJ ag,abv _ x ag]) (λt _=>by
   unfold iQ;rw[aq];rfl) [] (by cases wy l p<;>simp)
 rw[s,r];unfold Tr;rw[yI];all_goals (cases wy l p<;>rfl)
def ae2(l m:List It)(p d:Tx) n (w:m.length<=100000):Loop (iR (l,p,d,()) (((),n,()),m,())) ((0,()),())=aa (((gh m p:Int),()),()):=by
 rcases eL (f:=iR (l,p,_) (((),_),m,())) m (λi=>((i,()),())) (λ_ x=>nt (fM x.1 p)) _ _ ag (λi x o r e=>by
  unfold iR;dsimp only;rw[al r,aE ag ef,ao o,ab,e];cases fM x.1 p<;>rfl) (by
  unfold iR;rw[aq];rfl) with ⟨i,x,o,s,v,h⟩|⟨hn,h⟩
 all_goals
  have a:∀{x:It},nt (fM x.1 p)=false->fM x.1 p=true:=λ{x} h=>by
   cases q:fM x.1 p with
   | true=>rfl
   | false=>rw[q] at h;cases h
 .have r:=av o;rw[h,wz ag (λj y k c=>a (v j y k c)) (λy c=>by
   rw[o] at c;obtain rfl:=aF c;cases q:fM x.1 p with
   | false=>rfl
   | true=>rw[q] at s;cases s)]
 .rw[h,wz (bX _) (λj y k c=>a (hn j y c)) λy c=>by
  rw[yH<|bX _] at c;cases c]
def Yd m it:m.take (gh m it.1)++[it]++m.drop (gh m it.1)=Ia m it:=by
 unfold Ia;have e:=BA (p:=λy=>fM y.1 it.1) (l:=m);have a:m.take (gh m it.1)=m.takeWhile (λy=>fM y.1 it.1):=by
  unfold gh
  conv=>lhs;rw[<-e]
  rw[List.take_left'];rw[e]
 have c:m.drop (gh m it.1)=m.dropWhile (λy=>fM y.1 it.1):=by
  unfold gh
  conv=>lhs;rw[<-e]
  rw[List.drop_left'];rw[e]
 rw[a,c]
def Ct(l:List It)(p d:Tx)(j:l.length<=100000)(n:p.length<=4294967296)(o:d.length<=1048576):qA (l,p,d,())=aa ((nq l p d).1,(nq l p d).2,()):=by
 unfold qA nq;rw[Bi p n,ab];have c:aU 64 (len d)=decide (64<d.length):=by unfold len;apply gO.2;omega
 have e:cw 4 (len l)=decide (4<=l.length):=by unfold len;apply gO.2;omega
 rw[c];by_cases hv:ik p=true/\d.length<=64
 .rw[aN hv,hv.1,cm ag,show ak (ak _ false true)=ak false from rfl,ah,ajl l p d j,ab];rw[akZ l p d j _ rfl,ab,e];dsimp only;have q:=ZQ l p;rw[ae2 l _ p d _ ag,ab,Qm d o,ab];have k:gh (Tr l p) p<=(Tr l p).length:=by
   unfold gh;have:=congrArg List.length (BA (p:=λy=>fM y.1 p) (l:=Tr l p));rw[jt] at this;omega
  rw[fV,jc _ _ k];have s:((Tr l p).take<|gh (Tr l p) p).length<=100000:=by rw[dk];omega
  have r:((Tr l p).drop<|gh (Tr l p) p).length<=100000:=by rw[qU];omega
  rw[show inside 0 (gh _ p:Int) _=true from aL aD ag ef,ai,aH cJ,ai,aH (by simp only[gX,JJ,iE,pM];omega),ai];rw[show inside (gh _ p:Int) _ _=true from aL ag ef (tc _),ai,aH (by simp only[gX,jt,iE,pM];omega),ai];rw[show app (app (app [] _) [(p,_)]) _=Ia _ _ from(Yd _ _)];cases k:wy l p with
  | none =>
    rw[aT aD,ai];by_cases a:4<=l.length
    .rw[dn a,ai,aN ⟨rfl,a⟩]
    .rw[cm a,ah,aJ λh=>a h.2]
  | some i =>
    rw[aC<|Int.natCast_nonneg i,ah,ah,aJ λh=>by cases h.1]
 .rw[aJ hv];have:ak (ak (nt<|nt<|ik p) (decide<|64<d.length) true)=ak (α:=Option (List It×Int×aj)) true:=by
   cases hn:ik p with
   | false=>rfl
   | true =>
     by_cases f:d.length<=64
     .exact absurd ⟨hn,f⟩ hv
     .rw[dn ag];rfl
  rw[this,ai]
end Go.Ge
namespace Go.Ge
set_option maxRecDepth 100000
end Go.Ge
namespace Go.Ge
variable [Lp]
abbrev xE:=Tx×Int×aj
abbrev aW:=List AL×List lC×List cO×List Tx×List xE×aj
def xF(l:List Item):Prop:=l.length<=8/\∀x∈l,x.1.length<=100/\x.2.2.1.length<=200
def dt a b:br a b=decide (a=b):=rfl
def ahj a b:aG a b=decide (a=b):=rfl
def Pe(s:bg)(j:s.length<=1048576) m:∀n i,s.length-i<=n->i<=s.length->∃q,Loop (gb (s,m,())) ((false,i,()),())=aa q/\(if zN (s.drop i) then q.1=0 else q.1=1/\q.2.1.1=false):=by
 intro n;induction n with
 | zero =>
   intro i h d;have:i=s.length:=ag;subst this;rw[aO];refine⟨(0,(false,s.length,()),()),?_,?_⟩
   .unfold gb;rw[aC<|by simp only[len];omega,ah];rfl
   .rw[Tw,aN (by intro x hx;cases hx)]
 | succ n k =>
   intro i h d;rw[aO];by_cases c:i<s.length
   .have hd:=BK c;have f:gb (s,m,()) ((false,i,()),())=if s[i]=0 then aa (.inr (1,(false,i,()),())) else aa (.inl ((false,((i+1:Nat):Int),()),())):=by
     unfold gb;rw[aT<|by simp only[len];omega,ai,K0 s c,ab];by_cases a:s[i]=0
     .rw[a,show aG _ 0=true from rfl,ai,aN rfl]
     .rw[show aG _ 0=false from ar (λe=>a (aeO e)),ah,aJ a,az ag]
    rw[f];by_cases a:s[i]=0
    .rw[aN a];refine⟨_,rfl,?_⟩;rw[aJ λhn=>hn s[i] (by rw[hd];exact qT ..) a]
     grind
    .rw[aJ a];have e:zN (s.drop i)↔zN (s.drop<|i+1):=by
      rw[hd];constructor
      .intro h x hx;exact h x (vK _ hx)
      .intro h x hx;rcases fI.1 hx with rfl|hx
       .exact a
       .exact h x hx
     grind
   .have:i=s.length:=ag;subst this;refine⟨(0,(false,s.length,()),()),?_,?_⟩
    .unfold gb;rw[aC<|by simp only[len];omega];rfl
    .rw[Tw,aN (by intro x hx;cases hx)]
def GP s (hs:s.length<=1048576) m:mU (s,m,())=aa (decide<|clr s m,()):=by
 unfold mU;dsimp only;obtain⟨q,c,a⟩:=Pe s hs m s.length 0 ag ag;rw[show Loop (gb _) ((false,0,()),())=aa q from c,ab];rw[DG] at a;by_cases hn:zN s
 .rw[aN hn] at a;rw[a,show cK 0 0=true from rfl,ai];by_cases h:s=[]
  .subst h;rw[cR aD,ah,cm λe=>e.1 rfl]
  .have:=TH.2 h;rw[bA<|by simp only[len];omega,ai];unfold cw;rw[show decide (len s<=m)=decide (clr s m) from gO.2 ⟨λe=>⟨h,e,hn⟩,λe=>e.2.1⟩]
 .rw[aJ hn] at a;rw[a.1,show cK 1 0=false from rfl,ah,a.2,cm λe=>hn e.2.2]
def zT n b:qX (n,b,())=aa (decide<|SM n b,()):=EX n b
def ahk(h:Hd) m (w:h.1.length<=1048576) (x:h.2.2.2.2.2.2.2.1.length<=1048576):u7 (h,m,())=aa (decide<|O9 h m,()):=by
 unfold u7;dsimp only;have a:(ak (aG h.2.1 3) (ae (mU (h.2.2.2.2.2.2.2.1,100,())) λy=>aa ((y.1,()),()))<|some ((br h.2.2.2.2.2.2.2.1 [],()),())) =
   aa ((decide<|(h.2.1=3/\clr h.2.2.2.2.2.2.2.1 100)\/(h.2.1≠3/\h.2.2.2.2.2.2.2.1=[]),()),()):=by
  by_cases r:h.2.1=3
  .rw[r,xg,ai,GP _ x,ab]
   grind
  .rw[ar r,ah];unfold br
   grind
 rw[a,ab,GP _ w,ab];by_cases d:clr h.1 m
 case neg=>rw[cm d,ah,ah,ah,ab,ah,ab,ah,ab,ah,ab,ah,ab,ah,ah,cm λe=>d e.2.2.2.2.2.1]
 rw[dn d,ai];have c:O9 h m->1<=h.2.1/\h.2.1<=3:=λe=>by
  rcases e.2.2.2.2.2.2 with k|k|k<;>omega
 by_cases s:1<=h.2.1
 case neg=>rw[cR ag,ah,ah,ab,ah,ab,ah,ab,ah,ab,ah,ab,ah,ah,cm λe=>s (c e).1]
 rw[bA s,ai];by_cases v:h.2.1<=3
 case neg=>rw[cR ag,ah,ab,ah,ab,ah,ab,ah,ab,ah,ab,ah,ah,cm λe=>v (c e).2]
 rw[bA v,ai,zT,ab,ab];by_cases f:SM h.2.2.1 2097152
 case neg=>rw[cm f,ah,ab,ah,ab,ah,ab,ah,ab,ah,ah,cm λe=>f e.1]
 rw[dn f,ai,zT,ab,ab];by_cases i:SM h.2.2.2.1 2097152
 case neg=>rw[cm i,ah,ab,ah,ab,ah,ab,ah,ah,cm λe=>i e.2.1]
 rw[dn i,ai,zT,ab,ab];by_cases j:SM h.2.2.2.2.1 2097152
 case neg=>rw[cm j,ah,ab,ah,ab,ah,ah,cm λe=>j e.2.2.1]
 rw[dn j,ai,zT,ab,ab];by_cases l:SM h.2.2.2.2.2.1 8589934592
 case neg=>rw[cm l,ah,ab,ah,ah,cm λe=>l e.2.2.2.1]
 rw[dn l,ai,zT,ab,ab];by_cases n:SM h.2.2.2.2.2.2.1 8589934592
 case neg=>rw[cm n,ah,ah,cm λe=>n e.2.2.2.2.1]
 rw[dn n,ai];have A:decide (O9 h m)=decide (kindOk h):=gO.2 ⟨λe=>e.2.2.2.2.2.2,λe=>⟨f,i,j,l,n,d,e⟩⟩;rw[A];have q:h.2.1=1\/h.2.1=2\/h.2.1=3:=ag;by_cases o:h.2.2.2.2.2.1=0
 .rw[au o,aV,ah,ai];rw[show decide _=decide (kindOk h) from gO.2 (by
   unfold kindOk;rcases q with k|k|k<;>simp[k,o])]
 .rw[ar o,aI,ai];by_cases p:h.2.1=1
  .rw[au p,ai];rw[show decide _=decide (kindOk h) from gO.2 (by unfold kindOk;simp[p])]
  .rw[ar p,ah];rw[show decide _=false from cm (by unfold kindOk;simp[p,o])]
def M6(b:bg)(k:Nat):Nat:=if 148<=k/\k<156 then 32 else(b.getD k 0).toNat
def Bk(b:bg):Nat->Nat
 | 0=>0
 | k+1=>Bk b k+M6 b k
def M7 b k:M6 b k<=255:=by
 unfold M6;have:=(b.getD k 0).toNat_lt
 grind
def VD b k:Bk b k<=255*k:=by
 induction k with
 | zero=>apply bX
 | succ k a=>have:=M7 b k;simp only[Bk];omega
def Ye:idx ([(0,100,()),(100,8,()),(108,8,()),(116,8,()),(124,12,()),(136,12,()),(148,8,()),(156,1,()),(157,100,()),(257,8,()),(345,155,())]:List (Int×Int×aj)) 6=aa (148,8,()):=rfl
def Ib b (f:b.length<=1048576):vU (b,())=aa ((Bk b b.length:Int),()):=by
 unfold vU mv;rw[ab];rw[Ye,ab,dU (by simp only[len];omega),ai];have key:Loop (qi (b,()) (148,8,())) ((0,0,()),())=aa _ :=
  cB b.length (λk=>(((Bk b k:Int),(k:Int),()),())) (λk c=>by
   unfold qi;dsimp only;have i:=VD b k;have j:=M7 b k;have a:b.getD k 0=b[k]:=by simp[ c]
   rw[lD,aT ag,aE ag ag,zK b c,ab,az ag,show aw .i64 148 8=156 from aD];have hs:(ak (ak (cw 148 k) (aU k 156) false) ((32,()),()) ((u8 b[k],()),())).1.1=M6 b k:=by
    unfold M6;by_cases h:148<=k
    .by_cases d:k<156
     .rw[bA ag,ai,aT ag,aN ⟨h,d⟩];rfl
     .rw[bA ag,aC ag,aJ (λe=>d e.2),a];rfl
    .rw[cR ag,aJ (λe=>h e.1),a];rfl
   rw[hs,uI ag ag,show aw .i64 _ _=_ from zL ag];rfl) (by
   unfold qi;dsimp only;rw[lD,aC ag,ah,mK])
 rw[key,ab]
def GQ b (i:b.length<=1048576):yl (b,())=aa ((Bk b b.length:Int),()):=by
 unfold yl;have key:Loop (si (b,())) ((0,0,()),())=aa _ :=
  cB b.length (λk=>(((Bk b k:Int),(k:Int),()),())) (λk c=>by
   unfold si;dsimp only;have j:=VD b k;have l:=M7 b k;have a:b.getD k 0=b[k]:=by simp[ c]
   have n:=b[k].toNat_lt;have e:∀v,v=M6 b k->aw .i64 (Bk b k:Int) _=((Bk b (k+1):Nat):Int):=λv d=>by
    rw[d,zL ag];rfl
   rw[aT<|by simp only[len];omega,ai];unfold M6 at e;by_cases h:148<=k
   .by_cases f:k<156
    .rw[bA ag,ai,aT ag,ai,ab,ka,az ag]
     grind
    .rw[bA ag,ai,aC ag,ah,K0 b c,ab,ab,ka,az ag];rw[show ju .i64 (u8 b[k])=(b[k].toNat:Int) from uI (by unfold u8;omega) (by unfold u8;omega),e b[k].toNat (by rw[aJ<|λe=>f e.2,a])]
   .rw[cR ag,ah,ah,K0 b c,ab,ab,ka,az ag];rw[show ju .i64 (u8 b[k])=(b[k].toNat) from uI (by unfold u8;omega) (by unfold u8;omega),e b[k].toNat (by rw[aJ<|λe=>h e.1,a])]) (by
   unfold si;rw[aC<|by simp only[len];omega,ah,mK])
 rw[key,ab]
def WI(n:Nat):bg:=List.replicate n 0
def E1 n:(WI n).length=n:=acV
def rJ:bg:=[117,115,116,97,114,0,48,48]
def ZR:List (Int×Int×aj):=[(0,100,()),(100,8,()),(108,8,()),(116,8,()),(124,12,()),(136,12,()),(148,8,()),(156,1,()),(157,100,()),(257,8,()),(345,155,())]
def Yf:mv ()=aa (ZR,()):=rfl
def Kk s (hs:s.length<=1048576):∃n d,dI (s,())=aa (n,d,()):=by
 unfold dI;cases l:(ak _ _ true) with
 | true=>exact⟨0,false,rfl⟩
 | false =>
   rw[ dU (by simp only[len];omega)];have key:∀k i v,s.length-i<=k->i<=s.length->∃q,Loop (bO (s,())) ((0,false,v,i,()),())=aa q:=by
    intro k;induction k with
    | zero =>
      intro i v h e;rw[aO];unfold bO;dsimp only;rw[lD,aC ag,ah];exact⟨_,rfl⟩
    | succ k f =>
      intro i v h e;by_cases a:i<s.length
      .cases hd:(ak _ _ true) with
       | true =>
         have c:bO (s,()) ((0,false,v,(i:Int),()),())=aa (.inr (1,(0,false,v,i,()),())):=by
          unfold bO;dsimp only;rw[lD,aT ag,ai,aE ag ag,ai,zK s a,ab,hd,ai]
         rw[aO,c];exact⟨_,rfl⟩
       | false =>
         have c:bO (s,()) ((0,false,v,i,()),())=aa (.inl ((0,false,Ac .i64 (nO .i64 v 3)<|ju .i64<|cH .u8 (u8 s[i]) 48,((i+1:Nat):Int),()),())):=by
          unfold bO;dsimp only;rw[lD,aT ag,ai,aE ag ag,ai,zK s a,ab,hd,ah,aC aD,ah,az ag]
         rw[aO,c];exact f _ _ ag ag
      .rw[aO];unfold bO;dsimp only;rw[lD,aC ag];exact⟨_,rfl⟩
   obtain⟨q,j⟩:=key s.length 0 0 ag ag;rw[show Loop (bO _) ((0,false,0,0,()),())=aa q from j,ab];cases cK q.1 0 with
   | true=>exact⟨_,_,rfl⟩
   | false=>exact⟨_,_,rfl⟩
def px p s:(dq p s).length<=s.length:=by
 unfold dq;rw[PI];have:=BA (p:=p) (l:=s.reverse);have:=congrArg List.length this;rw[jt,PI] at this;omega
def eR s (hs:s.length<=1048576):∃n,dA (s,())=aa (n,()):=by
 unfold dA;have a:=px BG s;rw[GJ s hs,ab];obtain⟨n,c,h⟩:=Kk (dq BG s) ag;rw[h,ab];cases (ak _ _ true) with
 | true=>exact⟨_,rfl⟩
 | false=>exact⟨_,rfl⟩
def gB(b:bg)(a n:Nat):bg:=(b.drop a).take n
def cP b a n:(gB b a n).length<=n:=by simp[gB];omega
def oA b (d:b.length=512) k (a n:Nat) (c:idx ZR k=aa ((a:Int),(n:Int),())) (h:a+n<=512):ca (b,k,())=aa (gB b a n,()):=by
 unfold ca;rw[Yf,ab];rw[c,ab];rw[show aw .i64 a n=_ from zL ag,aL ag ag (by simp only[len];omega),ai];unfold sub minus gB;rw[vM,show(((a+n:Nat):Int)-a).toNat=n by omega]
section
variable (b:bg)
def o0(a:b.length=512):ca (b,0,())=aa (gB b 0 100,()):=oA b a 0 0 100 rfl ag
def o1(a:b.length=512):ca (b,1,())=aa (gB b 100 8,()):=oA b a 1 100 8 rfl ag
def o2(a:b.length=512):ca (b,2,())=aa (gB b 108 8,()):=oA b a 2 108 8 rfl ag
def o3(a:b.length=512):ca (b,3,())=aa (gB b 116 8,()):=oA b a 3 116 8 rfl ag
def o4(a:b.length=512):ca (b,4,())=aa (gB b 124 12,()):=oA b a 4 124 12 rfl ag
def o5(a:b.length=512):ca (b,5,())=aa (gB b 136 12,()):=oA b a 5 136 12 rfl ag
def o6(a:b.length=512):ca (b,6,())=aa (gB b 148 8,()):=oA b a 6 148 8 rfl ag
def o7(a:b.length=512):ca (b,7,())=aa (gB b 156 1,()):=oA b a 7 156 1 rfl ag
def o8(a:b.length=512):ca (b,8,())=aa (gB b 157 100,()):=oA b a 8 157 100 rfl ag
def o9(a:b.length=512):ca (b,9,())=aa (gB b 257 8,()):=oA b a 9 257 8 rfl ag
def o10(a:b.length=512):ca (b,10,())=aa (gB b 345 155,()):=oA b a 10 345 155 rfl ag
end
def abw:Hd:=([],0,0,0,0,0,0,[],())
def E2 b (a:b.length=512) (c:gB b 257 8≠rJ):fe (b,())=aa (abw,2,()):=by
 unfold fe;rw[au<|by simp only[len];omega,o9 b a,ab,show([117,115,116,97,114,0,48,48])=rJ from rfl];rw[show br _ rJ=false from cm c];rfl
def VE b (a:b.length=512) {n} (hn:dA (gB b 148 8,())=aa (n,())) (c:n≠Bk b 512):fe (b,())=aa (abw,2,()):=by
 by_cases d:gB b 257 8=rJ
 .unfold fe;rw[au<|by simp only[len];omega,aV,aI,ai,o9 b a,ab,ab];rw[d,o6 b a,ab];rw[hn,ab,Ib b ag,ab];rw[a,ar c];rfl
 .exact E2 b a d
section
variable {h:Hd} {m u g z t:Nat} {kd:UInt8}
end
abbrev Pt:=Hd×bg×aj
def Bl(n:Nat):Nat:=(512-n % 512) % 512
def VF n:Bl n<512:=BE _ aD
def VG(n:Nat)(a:n<=1048576):xj (n,())=aa ((Bl n:Int),()):=by
 unfold xj;dsimp only;have c:eU n 512=((n % 512):Int):=rfl;rw[ dv ag ag,show 512-_=((512-n % 512:Nat):Int) by omega];rfl
def VH n:Lib.repeatL [0] n=WI n:=by
 induction n with
 | zero=>rfl
 | succ n a =>
   show [0]++Lib.repeatL [0] n=WI _
   rw[a];rfl
def VI(n:Nat)(a:n<=1048576):D6 (n,())=aa (WI n,()):=by
 unfold D6;have:oJ ([0],n,())=aa (WI n,()):=by
  show(fZ [0] n).map _=_
  unfold fZ;rw[aJ cJ,VH];rfl
 rw[this,ab]
def VJ(n:Nat)(c:n<=1048576):mV (n,())=aa (((n+Bl n:Nat):Int),()):=by
 unfold mV;have key:=cB (f:=kW) (Bl n) (λi=>((((n+i:Nat):Int),()),())) (λi a=>by
  unfold Bl at a;unfold kW;dsimp only;rw[show aG 512 0=false from rfl,ah,show eU _ 512=(((n+i) % 512:Nat):Int) from rfl,ar ag,az ag];rfl) (by
  unfold kW;rw[show aG 512 0=false from rfl,show eU _ 512=(((n+Bl n) % 512:Nat):Int) from rfl,au (by unfold Bl;omega)];rfl)
 rw[show Loop kW ((n,()),())=_ from key,ab]
def SV a:(ax a).length=a.length:=yJ ..
abbrev Rd:=Bool×bg×Int×Bool×Bool×aj
def SW:Pt:=(abw,[],())
def rd(r:bg)(n:Int):Rd:=(true,r,n,false,false,())
def GR(n:Int)(b:Bool):Rd:=(true,[],n,true,b,())
def abx r n b:bZ ((),(true,r,n,true,b,()),())=aa ((SW,false,()),(true,r,n,true,b,()),()):=by
 rfl
def GS r n b:eD ((b,()),rd r n,())=aa ((SW,false,()),GR n b,()):=rfl
def M8 r n (h:r.length<512):bZ ((),rd r n,())=aa ((SW,false,()),GR n true,()):=by
 have e:=GS r n true;unfold bZ;dsimp only[rd] at e⊢;rw[aV,aI,ai,ah,aT (by rw[bw];omega),ai,e,ab]
def Qw r n (h:512<=r.length) (f:r.length<=1048576) (i:∀x∈r.take 512,x=0) :
  bZ ((),rd r n,())=aa ((SW,false,()),GR n<|!decide (1024<=r.length/\r.length % 512=0/\∀x∈r,x=0),()):=by
 have e:=λb=>GS r n b;unfold bZ;dsimp only[rd] at e⊢;have j:(r.take 512).length=512:=by rw[dk];omega
 rw[aV,aI,ai,ah,aC (by rw[bw];omega),ah,aL aD aD (by rw[bw];omega),ai,show sub r 0 (minus 512 0)=r.take 512 from fV r 512,MZ _ ag,dn ⟨j,i⟩,ab,ai];rw[show aG 512 0=false from rfl,ah,show eU _ 512=((r.length % 512):Int) from rfl,show cw 1024 _=decide (1024<=r.length) from by unfold len;apply gO.2;omega,show aG _ 0=decide (r.length % 512=0) from by apply gO.2;omega,Vw r f];by_cases a:1024<=r.length
 .by_cases b:r.length % 512=0
  .by_cases c:∀x∈r,x=0
   .have d:=(AR r).2 c;rw[dn a,ai,dn b,ab,aV,aI,ai,ab,ab];dsimp only;rw[ck d,dn ⟨a,b,c⟩];rfl
   .have d:¬(dq db r).dropWhile db=[]:=λq=>c ((AR r).1 q);rw[dn a,ai,dn b,ab,ab];rw[aY d,cm λq=>c q.2.2];rfl
  .rw[dn a,ai,cm b,ab,aI,aV,ah,ab,e,ab,cm λq=>b q.2.1];rfl
 .rw[cm a,ah,cm λq=>a q.1];rfl
def Qx(p:Pt)(a:List Pt)(d:Rd)(f:a.length<=1000){e:Pt}{ok1}{c:Rd}(h:bZ ((),d,())=aa ((e,ok1,()),c,())) :
  kr (((),(),true,()),p,a,d,())=aa (.inl (((),(),ok1,()),e,a++[p],c,())):=by
 unfold kr;rw[ aH cJ,h];rfl
def Qy s (h:8192<s.length):gd (s,())=aa ([],10,()):=by
 unfold gd;dsimp only;rw[aT<|by rw[bw];omega,abx,ab];rw[aO];rfl
def ajn c (h:Hd):∃x e,ae (ak c (ae (rv (h,256,())) λa=>aa (nt a.1))<|some true) (λy=>ak y (aa (abw,(2:Int),())) (aa (h,0,())))=aa (x,e,())/\(e=0->O9 x 256):=by
 rw[Vx];cases c with
 | false=>exact⟨_,_,rfl,λq=>absurd q aD⟩
 | true =>
   by_cases d:O9 h 256
   .rw[dn d];exact⟨h,0,rfl,λ_=>d⟩
   .rw[cm d];exact⟨_,_,rfl,λq=>absurd q aD⟩
def ZS b (a:b.length=512):∃x e,fe (b,())=aa (x,e,())/\(e=0->O9 x 256):=by
 by_cases d:gB b 257 8=rJ
 case neg=>exact⟨_,_,E2 b a d,λe=>absurd e aD⟩
 obtain⟨i,f⟩:=eR (gB b 148 8) (by have:=cP b 148 8;omega);by_cases hs:i=Bk b 512
 case neg=>exact⟨_,_,VE b a f hs,λe=>absurd e aD⟩
 obtain⟨r,j⟩:=eR (gB b 100 8) (by have:=cP b 100 8;omega);obtain⟨s,k⟩:=eR (gB b 108 8) (by have:=cP b 108 8;omega);obtain⟨v,l⟩:=eR (gB b 116 8) (by have:=cP b 116 8;omega);obtain⟨w,n⟩:=eR (gB b 124 12) (by have:=cP b 124 12;omega);obtain⟨y,o⟩:=eR (gB b 136 12) (by have:=cP b 136 12;omega);have A:=px db (gB b 0 100);have l10:=px db (gB b 345 155);have m0:=cP b 0 100;have m10:=cP b 345 155;unfold fe;rw[au<|by simp only[len];omega,aV,aI,ai,o9 b a,ab,ab,show([117,115,116,97,114,0,48,48])=rJ from rfl];rw[d,show br rJ rJ=true from zy _,aV,aI,ai,o6 b a,ab];rw[f,ab,Ib b ag,ab];rw[a,au hs,ab,o0 b a,ab];rw[(GL (gB b 0 100) ag),ab,o8 b a,ab];rw[(GL (gB b 157 100) (by have:=cP b 157 100;omega)),ab,o10 b a,ab];rw[(GL (gB b 345 155) ag),ab];have c:∃p,(ak (nt<|br (dq db<|gB b 345 155) []) (ak (fits<|plus (len<|dq db<|gB b 345 155)<|len ([47]:bg)) (ak (fits<|plus (len<|app (dq db<|gB b 345 155) [47])<|len<|dq db<|gB b 0 100)
   (aa ((app (app (dq db<|gB b 345 155) [47])<|dq db<|gB b 0 100,()),())) af) af)<|some ((dq db<|gB b 0 100,()),()))=aa ((p,()),()):=by
  cases (nt _) with
  | true =>
    rw[ai,dU (by simp only[plus,len,iE,pM];omega),ai,dU (by simp only[plus,len,app,jt,iE,pM];omega),ai]
    grind
  | false=>exact⟨_,rfl⟩
 obtain⟨p,q⟩:=c;rw[q,ab,o1 b a,ab];rw[j,ab,o2 b a,ab];rw[k,ab,o3 b a,ab];rw[l,ab,o4 b a,ab];rw[n,ab,o5 b a,ab];rw[o,o7 b a];apply ajn
def VK r (n:Nat) (B:r.length<=10000):∃p c d,bZ ((),rd r n,())=aa ((p,c,()),d,()) /\
  ((c=false/\∃b,d=GR n b)\/(c=true/\O9 p.1 256/\p.2.1.length<=r.length/\n<64/\∃i,d=rd i ((n+1:Nat):Int)/\i.length+512<=r.length)):=by
 by_cases a:r.length<512
 .exact⟨_,_,_,M8 r n a,.inl ⟨rfl,_,rfl⟩⟩
 by_cases j:∀x∈r.take 512,x=0
 .exact⟨_,_,_,Qw r n ag ag j,.inl ⟨rfl,_,rfl⟩⟩
 have e:=λb=>GS r n b;have l:(r.take 512).length=512:=by rw[dk];omega
 obtain⟨x,o,s,v⟩:=ZS _ l;have w:(r.drop 512).length=r.length-512:=qU;unfold bZ;dsimp only[rd] at e⊢;rw[aV,aI,ai,ah,aC (by rw[bw];omega),ah,aL aD aD (by rw[bw];omega),ai,show sub r 0 (minus 512 0)=r.take 512 from fV r 512];rw[MZ _ ag,ab];rw[cm<|λq=>j q.2,ah,ai,s,ab,aL aD (by rw[bw];omega) (tc _),ai,show sub r 512 (minus _ 512)=r.drop 512 from jc r 512 ag];by_cases f:o=0
 case neg =>
  rw[ar f,aI,ai,e,ab]
  grind
 rw[au f,aV,ah];obtain⟨y,C⟩:=(v f).2.2.2.1;obtain⟨k,A⟩:=YT y;rw[A];by_cases D:(r.drop 512).length<k
 .rw[aT<|by rw[bw];omega,ai,e,ab]
  grind
 .have E:=VF k;rw[aC<|by rw[bw];omega,ah,VG k ag,ab,eA ag ag];by_cases F:(r.drop 512).length<k+Bl k
  .rw[aT<|by rw[bw];omega,ai,e,ab]
   grind
  .rw[aC<|by rw[bw];omega,ah];by_cases G:64<=n
   .rw[bA ag,ai,e,ab]
    grind
   .rw[cR ag,ah,ab,eA ag ag,aL ag (by rw[bw];omega) (tc _),ai,aL ag ag (by rw[bw];omega),ai];rw[show sub _ 0 _=(r.drop 512).take k from fV _ k,show k+Bl k=((k+Bl k:Nat):Int) by omega,jc _ _ ag,az ag]
    grind
def M9{h}(k:O9 h 256):h.1.length<=300/\h.2.2.2.2.2.2.2.1.length<=300:=by
 obtain⟨_,_,_,_,_,⟨_,c,_⟩,a⟩:=k;rcases a with ⟨_,e⟩|⟨_,e,_⟩|⟨_,⟨_,e,_⟩,_⟩
 .grind
 .grind
 .omega
def RdP(p:Pt):Prop:=p.1.1.length<=300/\p.1.2.2.2.2.2.2.2.1.length<=300/\p.2.1.length<=8192
def aby:∀(m n:Nat) r out p,r.length<=m->r.length<=8192->out.length+1=n->n<=64->(∀q∈out++[p],RdP q) ->
  ∃(a:List Pt) (e:Pt) (b:Int×Bool),Loop kr (((),(),true,()),p,out,rd r n,())=aa (((),(),false,()),e,a,GR b.1 b.2,())/\a.length<=64/\∀q∈a,RdP q:=by
 intro m;induction m using Nat.strongRecOn with
 | _ m j =>
   intro n r out p D E hn k l;obtain⟨f,s,v,w,x⟩:=VK r n ag;have c:=Qx p out _ ag w;rcases x with ⟨rfl,b,rfl⟩|⟨rfl,y,F,G,i,rfl,H⟩
   .refine⟨out++[p],f,(n,b),?_,cJ,l⟩;rw[aO,c];show Loop _ _=_
    rw[aO];rfl
   .have hs:=M9 y;obtain⟨o,e,b,A,B,C⟩:=j i.length ag (n+1) i (out++[p]) f (bX _) ag cJ ag (λq d=>by
     rcases Oi.1 d with d|d
     .grind
     .rw[DD] at d;subst d;exact⟨hs.1,hs.2,ag⟩)
    exact⟨o,e,b,by rw[aO,c];exact A,B,C⟩
def ae3 s:∃l e,gd (s,())=aa (l,e,())/\l.length<=64/\(∀q∈l,RdP q)/\(e=0\/(e=10/\l=[])):=by
 by_cases f:8192<s.length
 .exact⟨_,_,Qy s f,aS,λq a=>(by cases a),.inr ⟨rfl,rfl⟩⟩
 obtain⟨p,v,w,i,j⟩:=VK s 0 ag;have fin:∀(b:Int×Bool) o,(ae (iB ((),GR b.1 b.2,())) λc=>ak c.1.1 (aa (([]:List Pt),(10:Int),())) (aa (o,_)))=aa (if b.2=true then _ else(o,0,())):=λb o=>by
  obtain⟨x,k⟩:=b;cases k<;>rfl
 unfold gd;dsimp only;rw[aC<|by rw[bw];omega,show bZ ((),(true,s,0,_),())=_ from i,ab];rcases j with ⟨rfl,b,rfl⟩|⟨rfl,n,y,A,d,rfl,B⟩
 .rw[aO];show ∃l e,(ae (iB _) λc=>ak c.1.1 _ _)=_/\_
  rw[fin (_,_)]
  grind
 .have hs:=M9 n;obtain⟨o,C,b,r,D,E⟩:=aby d.length 1 d [] p (bX _) ag rfl ag (λq a=>by
   rw[JJ,DD] at a;subst a;exact⟨hs.1,hs.2,ag⟩)
  rw[show Loop kr _=_ from r,ab]
  grind
set_option maxRecDepth 100000
end Go.Ge
namespace Go.Ge
variable [Lp]
abbrev Nd:=bg×Int×Int×bg×bg×aj
def K2{a b}:(cw a b=true)↔a<=b:=by
 refine⟨?_,bA⟩
 .intro h;rcases Int.lt_or_le b a with g|g
  .rw[cR g] at h;cases h
  .exact g
def wB{a b}:cw a b=decide (a<=b):=by
 rw[Rg,K2,Ae]
def Yg{p}(j:p≠[]):((lE p).2=0/\(lE p).1=p)↔((parts p).all tR=true/\(parts p).length<=8/\p.length<=96):=by
 constructor
 .rintro⟨c,e⟩;obtain⟨d,k⟩:=abn c;obtain⟨l,n,o⟩:=rI d;have q:parts p=names p:=by
   have:=Jk p
   grind
  grind
 .rintro⟨c,e,d⟩;have f:∀x∈parts p,nL x=true:=λx a=>by
   have:=vN.1 c x a;unfold tR at this;unfold nL
   grind
  have hn:names p=parts p:=Ld.2 f;have i:aP (names p)=p:=by rw[hn,dP]
  have r:p.head?≠aa 47:=by
   rw[<-i];exact Ya λx a=>⟨(wJ p x a).1,(wJ p x a).2.1⟩
  have s:nM p=true:=by
   unfold nM
   grind
  unfold lE
  grind
def xG(p:bg):Bool:=decide (p≠[])&&(parts p).all tR&&decide ((parts p).length<=8)&&decide (p.length<=92)&&decide ((bh p).2.length<=28)&&decide ((nN (bh p).2).1=0)
def Yh p (c:p.length<=4096):uk (p,())=aa (xG p,()):=by
 unfold uk;rw[Qr p c,ab,rk p ag,ab];rw[VA,ab];rw[qS,qS,qS,qS,qS]
 congr 2
 rw[Rg];unfold xG;by_cases a:p=[]
 .subst a;simp[br,nt]
 .have d:=Yg a;simp only[gz,aG,br,aik,K2,len]
  grind
def Qz(n:Nd):Bool:=if n.2.1=1 then decide (n.2.2.2.2.1=[]/\n.2.2.2.1.length<=8192) else if n.2.1=2 then decide (n.2.2.2.2.1=[]/\n.2.2.2.1=[]) else if n.2.1=3 then decide (n.2.2.2.1=[]/\n.2.2.2.2.1≠[]/\n.2.2.2.2.1.length<=100/\0∉n.2.2.2.2.1) else false
def fW(n:Nd):Bool:=xG n.1&&decide (0<=n.2.2.1)&&decide (n.2.2.1<=4095)&&Qz n
def Pg s c:dy (s,u8 c,())=aa (Lib.indexByte s c,()):=by
 have:(u8 c).toNat.toUInt8=c:=by simp[u8]
 unfold dy fj;rw[this];rfl
def ZT(n:Nd)(j:n.1.length<=4096):zB (n,())=aa (fW n,()):=by
 obtain⟨p,k,m,d,l,u⟩:=n;unfold zB fW Qz;rw[Yh p j,ab];have o:aU m 0=!decide (0<=m):=by unfold aU;by_cases h:m<0<;>simp[h]<;>omega
 have q:aU 4095 m=!decide (m<=4095):=by unfold aU;by_cases h:4095<m<;>simp[h]<;>omega
 rw[o,q];cases xG p with
 | false=>rfl
 | true =>
   cases decide (0<=m) with
   | false=>rfl
   | true =>
     cases decide (m<=4095) with
     | false=>rfl
     | true =>
       simp only[aV,aI,ai,ah,Bool.not_true,Bool.true_and];by_cases a:k=1
       .subst a;simp only[aG,Zc,ai,x9,br,wB,len,qS]
        congr 2
        grind
       .rw[show aG k 1=false by simp[aG,a],ah,aJ a];by_cases c:k=2
        .subst c;simp only[aG,Zc,ai,br,qS];simp_all
        .rw[show aG k 2=false by simp[aG,c],ah,aJ c];by_cases e:k=3
         .subst e;rw[show aG 3 3=true by rfl,show((l,_):bg×Int×aj)=(l,u8 0,()) by rfl,Pg,ab];have r:aU _ 0=decide (0∉l):=Ea l;rw[r];by_cases hd:d=[]
          .by_cases f:l=[]
           .subst hd f;rfl
           .by_cases i:l.length<=100
            .simp[br,hd,f,wB,len,nt,ak,ae,i,show(l.length:Int)<=100 by omega]
            .simp[ wB,len,ak,ae,i,show ¬(l.length:Int)<=100 by omega]
          .simp[br,hd,ak,ae]
         .rw[show aG k 3=false by simp[aG,e],ah,aJ e]
def Yi s (hs:s.length<=1048576):sq (s,())=aa (decide<|s≠[]/\s.length<=100/\0∉s,()):=by
 unfold sq;rcases eL (f:=nz (s,())) s (λi=>((false,i,()),())) (λ_ x=>decide (x=0)) (λi x=>(1,(false,i,()),())) _ ag (λi x a c e=>by
  unfold nz;rw[al c,ai,ao a,ab,akX,dw,e];by_cases j:x=0<;>simp[j]) (by unfold nz;rw[aq,ah]) with ⟨i,x,a,l,_,h⟩|⟨hn,h⟩
 .rw[h,ab,gM,ah]
  grind
 .rw[h,ab,cV,ai,qS];have d:0∉s:=λd=>by
   obtain⟨i,c⟩:=bq.1 d
   grind
  congr 2
  rw[Rg];simp only[gz,K2,len,Ae];constructor
  .grind
  .rintro⟨k,n,_⟩;exact⟨by have:=TH.2 k;omega,ag⟩
def yz(n:Nd)(i:n.1.length<=4096)(j:n.2.2.2.2.1.length<=4096):lL (n,())=aa (fW n,()):=by
 obtain⟨p,k,m,d,l,u⟩:=n;unfold lL fW Qz;dsimp only at i j⊢;rw[wx p i,ab];rw[Jm,Qq p ag,Yi l ag];simp only[ab,qS];have o:(ak (nt<|br p []) (aa<|(parts p).all tR&&decide ((parts p).length<=8)&&decide (p.length<=96)) (aa false):Option Bool)=aa (decide (p≠[])&&(parts p).all tR&&decide ((parts p).length<=8)&&decide (p.length<=96)):=by
  by_cases h:p=[]
  .subst h;rfl
  .simp[br,h,ak,nt]
 rw[o,ab];have q:((((((decide (p≠[])&&(parts p).all tR&&decide ((parts p).length<=8)&&decide (p.length<=96))&&cw (len p) 92)&&cw (len (bh p).2) 28)&&aG (nN (bh p).2).1 0)&&cw 0 m)&&cw m 4095)=(xG p&&decide (0<=m)&&decide (m<=4095)):=by
  rw[Rg];unfold xG;simp only[gz,K2,len,aG]
  grind
 simp only[q];generalize (xG p&&decide (0<=m)&&decide (m<=4095))=c;by_cases a:k=1
 .subst a;rw[show aG 1 1=true by rfl,ai]
  congr 2
  rw[Bool.and_assoc];rw[Rg];simp[br,wB,len];omega
 .rw[show aG k 1=false by simp[aG,a],ah,aJ a];by_cases e:k=2
  .subst e;rw[show aG 2 2=true by rfl,ai];rw[Bool.and_assoc];simp[br]
  .rw[show aG k 2=false by simp[aG,e],ah,aJ e];by_cases f:k=3
   .subst f;rw[show aG 3 3=true by rfl];cases c with
    | false=>rfl
    | true =>
      by_cases hd:d=[]
      .simp[br,hd,ak,ae]
      .simp[br,hd,ak,ae]
   .rw[show aG k 3=false by simp[aG,f],ah,aJ f,adg]
def Sm(n:Nd):Prop:=n.1.length<=200/\n.2.2.2.2.1.length<=300/\n.2.2.2.1.length<=8192
def vI(l:List Nd):Prop:=l.length<=4096/\∀x∈l,Sm x
def key(n:Nd):List bg:=parts n.1
def cmp(n:Nd)(p:bg):Int:=cmpL (parts n.1) (parts p)
def vI.at{l}(h:vI l){i:Nat}{x}(a:l[i]?=aa x):Sm x:=h.2 x (dW a)
def vI.take{l}(h:vI l) k:vI (l.take k):=⟨by rw[dk];have:=h.1;omega,λx a=>h.2 x (DC a)⟩
def Na(n:Nd) p (hn:n.1.length<=4096) (a:p.length<=4096):mw (n,p,())=aa (cmp n p,()):=by
 unfold mw;rw[Cp _ _ hn a];rfl
def ahl{a b:Nat}(c:a<=1048576)(d:b<=1048576):ju .i64 (jv .u64 (ju .u64<|aw .i64 a b) 1)=(((a+b) / 2:Nat):Int):=by
 rw[eA ag ag,ag2 ag ag];have e:jv .u64 (a+b) 1=(((a+b) / 2:Nat):Int):=by
  unfold jv;have f:2 ^ min 1 IntKind.u64.bits=2:=aD
  grind
 rw[e,uI ag ag]
def abz l p (w:vI l) (G:p.length<=4096):∀n e d,d-e<=n->e<=d->d<=l.length ->
  ∃k,e<=k/\k<=d/\Loop (jH (l,p,())) ((e,d,()),())=aa (((k:Int),(k:Int),()),()) /\
   ((∀(i j:Nat) x y,i<=j->l[i]?=aa x->l[j]?=aa y->cmp y p<0->cmp x p<0)->(∀j y,j<e->l[j]?=aa y->cmp y p<0)->(∀j y,d<=j->l[j]?=aa y->¬cmp y p<0) ->
    (∀j y,j<k->l[j]?=aa y->cmp y p<0)/\(∀j y,k<=j->l[j]?=aa y->¬cmp y p<0)):=by
 intro n;induction n with
 | zero =>
   intro e d H I A;obtain rfl:d=e:=ag;refine⟨d,bX _,bX _,?_,λ_ a b=>⟨a,b⟩⟩;rw[aO];unfold jH;rw[aC<|tc _];rfl
 | succ n B =>
   intro e d H I A;by_cases h:d=e
   .simp_all
   .have J:=w.1;obtain⟨x,q⟩:∃x,l[(e+d) / 2]?=aa x:=⟨_,fX ag⟩;have f:jH (l,p,()) ((e,d,()),())=aa (.inl<|if cmp x p<0 then(((((e+d) / 2+1:Nat):Int),d,()),()) else((e,(((e+d) / 2:Nat):Int),()),())):=by
     unfold jH;dsimp only;rw[aT ag,aC aD,ahl ag ag,ao q,ab,Na x p (by have:=(w.at q).1;omega) G,ab];rw[az ag];by_cases o:cmp x p<0
     .rw[aT o,aN o];rfl
     .rw[aC ag,aJ o];rfl
    rw[aO,f];by_cases o:cmp x p<0
    .obtain⟨k,C,D,r,s⟩:=B ((e+d) / 2+1) d ag ag A;refine⟨k,ag,D,by rw[aN o];exact r,λa b c=>s a (λj y E F=>?_) c⟩
     grind
    .obtain⟨k,C,D,r,s⟩:=B e ((e+d) / 2) ag ag ag;refine⟨k,C,ag,by rw[aJ o];exact r,λa b c=>s a b λj y E F v=>o (a _ _ x y E q F v)⟩
def Ord(l:List Nd):Prop:=∀(i j:Nat) (x y:Nd),i<j->l[i]?=aa x->l[j]?=aa y->cmpL (key x) (key y)<0
def Ord.mono{l}(h:Ord l) p:∀(i j:Nat) x y,i<=j->l[i]?=aa x->l[j]?=aa y->cmp y p<0->cmp x p<0:=by
 intro i j x y a c d e;rcases rR i j with g|g
 .exact mg (h i j x y g c d) e
 .grind
def Ord.take{l}(h:Ord l) k:Ord (l.take k):=λi j x y d a c=>by
 rw[jq] at a c;split at a
 .split at c
  .exact h i j x y d a c
  .cases c
 .cases a
structure Plc (l:List Nd) (p:bg) (k:Nat) (b:Bool):Prop where
 le:k<=l.length
 lo:∀(j:Nat) (y:Nd),j<k->l[j]?=aa y->cmp y p<0
 hi:∀(j:Nat) (y:Nd),k<=j->l[j]?=aa y->¬cmp y p<0
 is:b=true->∃x,l[k]?=aa x/\x.1=p
 no:b=false->∀x∈l,x.1≠p
def VL{n p}(h:cmp n p=0):n.1=p:=by
 have:=HX h;rw[<-dP n.1,this,dP]
def Nb{n p}(h:n.1=p):cmp n p=0:=by subst h;apply jP
def Dk l p (r:vI l) (s:p.length<=4096):∃(k:Nat) (b:Bool),en (l,p,())=aa ((k:Int),b,())/\k<=l.length/\(b=true->k<l.length)/\(Ord l->Plc l p k b):=by
 obtain⟨k,_,i,w,A⟩:=abz l p r s l.length 0 l.length ag ag (bX _);have c:Loop (jH _) ((0,len l,()),())=aa _:=w;have a:=λ(h:Ord l)=>A (h.mono p) (λj y n=>ag) (λj y n d=>by have:=av d;omega);by_cases o:k<l.length
 .obtain⟨x,f⟩:∃x,l[k]?=aa x:=⟨_,fX o⟩;refine⟨k,decide _,?_,i,λ_=>o,λh=>⟨i,(a h).1,(a h).2,λq=>⟨x,f,VL (fU q)⟩,λq y d e=>?_⟩⟩
  .unfold en;rw[c,ab];rw[al o,ao f,ab,Na x p (by have:=(r.at f).1;omega) s];rfl
  .obtain⟨j,n⟩:=bq.1 d;have B:=Nb e;rcases Ll j k with g|g|g
   .grind
   .grind
   .have v:=h k j x y g f n;rw[show key y=parts p by unfold key;rw[e]] at v;exact(a h).2 k x (bX _) f v
 .obtain rfl:k=l.length:=ag;refine⟨l.length,false,?_,i,λh=>(by cases h),λh=>⟨i,(a h).1,(a h).2,λh=>(by cases h),λq y d e=>?_⟩⟩
  .unfold en;rw[c,ab];rw[aq,ah]
  .obtain⟨j,n⟩:=bq.1 d;have B:=Nb e
   grind
def Dir(l:List Nd)(d:bg)(e:Int):Prop:=(d=[]/\e=0)\/(d≠[]/\(((∀x∈l,x.1≠d)/\e=3)\/∃x∈l,x.1=d/\((x.2.1=2/\e=0)\/(x.2.1≠2/\e=12))))
def ZU l d (n:vI l) (hd:d.length<=4096):∃e,oh (l,d,())=aa (e,())/\(Ord l->Dir l d e):=by
 unfold oh;by_cases c:d=[]
 .subst c;exact⟨0,rfl,λ_=>.inl ⟨rfl,rfl⟩⟩
 .rw[aY c];obtain⟨k,b,o,q,p,i⟩:=Dk l d n hd;rw[o,ab];cases b with
  | false =>
    exact⟨3,rfl,λh=>.inr ⟨c,.inl ⟨(i h).no rfl,rfl⟩⟩⟩
  | true =>
    obtain⟨x,f⟩:∃x,l[k]?=aa x:=⟨_,fX (p rfl)⟩;rw[ ao f,ab];have j:Ord l->x.1=d:=λh=>by
     obtain⟨y,r,e⟩:=(i h).is rfl
     grind
    by_cases a:x.2.1=2
    .refine⟨0,?_,λh=>.inr ⟨c,.inr ⟨x,dW f,j h,.inl ⟨a,rfl⟩⟩⟩⟩;rw[au a];rfl
    .refine⟨12,?_,λh=>.inr ⟨c,.inr ⟨x,dW f,j h,.inr ⟨a,rfl⟩⟩⟩⟩;rw[show aG x.2.1 2=false by simp[aG,a]];rfl
def Cu l p (d:vI l):(∃(i:Nat) (x:Nd),l[i]?=aa x/\x.1=p/\hW (l,p,())=aa ((i:Int),()))\/((∀x∈l,x.1≠p)/\hW (l,p,())=aa (-1,())):=by
 unfold hW;rcases eL (f:=ql (l,p,())) l (λi=>((0,i,()),())) (λ_ x=>decide (x.1=p)) (λi x=>(1,(i,i,()),())) _ (by have:=d.1;omega) (λi x a c j=>by
  unfold ql;rw[al c,ao a,ab,uJ,j];by_cases h:x.1=p<;>simp[h,ak]) (by unfold ql;rw[aq,ah]) with ⟨i,x,a,k,_,h⟩|⟨hn,h⟩
 .left;refine⟨i,x,a,fU k,?_⟩;rw[h];rfl
 .right;refine⟨λx a e=>?_,by rw[h];rfl⟩;obtain⟨i,c⟩:=bq.1 a
  grind
def Nc l d (p:vI l):∃b,oi (l,d,())=aa (b,())/\(b=true->d=[]\/∃x∈l,x.1=d/\x.2.1=2)/\(Ord l->b=false->d≠[]/\∀x∈l,x.1=d->x.2.1≠2):=by
 unfold oi;by_cases f:d=[]
 .subst f;rcases Cu l [] p with ⟨i,x,a,c,h⟩|⟨_,h⟩<;>rw[h]<;>exact⟨true,rfl,λ_=>.inl rfl,λ_ h=>by cases h⟩
 .rcases Cu l d p with ⟨i,x,a,c,h⟩|⟨hn,h⟩
  .rw[h,ab,aY f,aI,ai];rw[ ao a];refine⟨_,rfl,λn=>.inr ⟨x,dW a,c,fU n⟩,λq n=>⟨f,λy s o w=>?_⟩⟩;have v:=wM n;obtain⟨j,r⟩:=bq.1 s;have k:key x=key y:=by unfold key;rw[c,o]
   rcases Ll i j with g|g|g
   .have:=q i j x y g a r;rw[k,jP] at this;omega
   .grind
   .have:=q j i y x g r a;rw[k,jP] at this;omega
  .rw[h,aY f];exact⟨false,rfl,λh=>(by cases h),λ_ _=>⟨f,λx a e=>absurd e (hn x a)⟩⟩
end Go.Ge
