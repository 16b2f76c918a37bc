import Derived.Test.YtcebnmppipejfaaGreatDoorPlD
set_option linter.unusedSectionVars false
set_option linter.unusedVariables false
set_option linter.unusedSimpArgs false
set_option linter.defProp false
open Option renaming some->aa,none->af
open Sum renaming inl->aG,inr->aH
open Go.IntKind (i64)
namespace Go.Ge
variable [Lp]
def EK l (p:l.length<=1048576) (hx:(aX l).length<=1048576):pA (l,())=aa (aX l,()):=by
 unfold pA;have pre:∀a b,a≠[]->b≠[]->aX (a++b)=aX a++47::aX b:=by intro a;induction a with|nil=>intro b h;exact absurd rfl h|cons x r o =>intro b _ c;cases r with|nil =>(cases b with|nil=>exact absurd rfl c|cons y b=>rfl)|cons y r =>have:=o b aW c;rw[Na,Na,aX,aX,<-Na,this];simp
 have mono:∀i,(aX<|l.take i).length<=(aX l).length:=by intro i;by_cases k:l.take i=[];{rw[k];simp[aX]};by_cases c:l.drop i=[];{rw[show l.take i=l from by have:=Ba i l;rw[c,zo] at this;exact this];apply b8};have:=pre _ _ k c;simp_all
 have step:∀i x,l[i]?=aa x->aX (l.take<|i+1)=(if 0<i then aX (l.take i)++[47] else aX (l.take i))++x:=by
  intro i x hx;have e:l.take (i+1)=l.take i++[x]:=by rw[yn,hx];rfl
  rw[e];cases i with|zero=>rfl|succ i =>rw[ pre _ _ (by have:=aA hx;intro q;have:=congrArg List.length q;rw[cY] at this;simp only[qp] at this;omega) aW];simp[aX]
 have key:=cp (f:=re (l,())) l.length (λi=>((aX<|l.take i,i,()),())) (λi m=>by
  obtain⟨x,d⟩:∃x,l[i]?=aa x:=⟨_,gQ m⟩;have g:=step i x d;have c:=mono (i+1);rw[g] at c;unfold re;dsimp only;rw[aq m,aj];by_cases n:0<i;{rw[aN n] at g c;rw[gR,gR] at c;rw[aT ai,aj,aP ai,aj,ab,au d,ab,aP<|by simp only[hJ,gR];omega,aJ ai,g];rfl}
  .rw[aK n] at g c;rw[gR] at c;rw[aF ai,ag,ab,au d,ab];dsimp only;rw[aP ai,aJ ai,g];rfl) (by
  unfold re;rw[aw,Ao];rfl)
 have j:Loop _ ((([]),(0:Int),()),())=aa _:=key;rw[j,ab]
def uU(s:bj):Bool:=decide (s≠[46]/\s≠[46,46]/\1<=s.length/\s.length<=32/\0∉s)
def GW s:decide (Lib.indexByte s 0<0)=decide (0∉s):=by
 rw[Lm];by_cases h:BE s
 {rw[cT h,cT];intro a;exact h 0 a rfl};rw[cj h,cj];intro a;exact h λx b e=>a (e▸b)
def acO s:tk (s,())=aa (uU s,()):=by
 unfold tk;have one:∀i:Nat,i<2->nS (s,()) ((false,i,()),())=if bA s (if i=0 then [46] else [46,46])=true then aa (.inr (1,(false,i,()),())) else aa (.inl ((false,((i+1:Nat):Int),()),())):=by intro i h;unfold nS;dsimp only;rw[aT ai,aj,xC];rcases(by omega:i=0\/i=1) with rfl|rfl;{rw[show([[46],[46,46]]:List bj)[0]?=aa [46] from rfl,ab,di];rfl};rw[show([[46],[46,46]]:List bj)[1]?=aa [46,46] from rfl,ab,di];rfl
 by_cases c:s=[46]
 {rw[aZ,show((false,(0:Int),()),())=((false,((0:Nat):Int),()),()) from rfl,one 0 ai];subst c;rfl};rw[aZ,show((false,0,()),())=((false,((0:Nat):Int),()),()) from rfl,one 0 ai,aK (by rw[aN rfl,bg c];simp)];by_cases d:s=[46,46];{simp only[Option.bind];rw[aZ,one 1 ai];subst d;rfl};(simp only[Option.bind];rw[aZ,one 1 ai,aK (by rw[aK ai,bg d];simp)];simp only[Option.bind];rw[aZ];have e:nS (s,()) ((false,((1+1:Nat):Int),()),())=aa _:=rfl;rw[e];simp;rw[ab,cu];have el:cm 1 (len s)=decide (1<=s.length):=by unfold len;apply fk.2;omega);have f:cm _ 32=decide _:=CD 32 s;rw[el,f];have g:dq (s,0,())=aa (Lib.indexByte s 0,()):=rfl;rw[g,ab,show ba _ 0=decide _ from GW s];unfold uU;by_cases a:1<=s.length;{by_cases b:s.length<=32;{simp[a,b,ao,ae,c,d]};simp[ b,ao,ae]};simp[a,ao,ae]
def Tv s (t:s.length<=1048576):tm (s,())=aa (uU s&&decide (47∉s),()):=by
 unfold tm;have key:=qK (f:=nT (s,())) s (λ_ i=>((false,i,()),()))
  (λi _ x=>aa (if x=0\/x=47 then .inr _ else .inl ())) (λi _=>(0,(false,i,()),())) (λ_ _=>True) (λu i x l m _=>by unfold nT;rw[aq m,au l,ab,apy];by_cases j:x=0;{rw[cT j,aN (.inl j)];rfl};rw[cj j,ab,aeE];by_cases b:x=47;{rw[cT b,aN (.inr b)];rfl};rw[cj b,aK (by simp[j,b]),aJ ai];rfl)
  (λ_ _ _ _ _ _ _=>trivial) (λu _=>by unfold nT;rw[aw,ag])
  (λ_ _ _ _ _ h=>by cases h) () trivial
 have run:∀(r:bj) i,∃q,wg (λi _ x=>aa (if x=0\/x=47 then aH (1,(false,(i:Int),()),()) else aG ())) (λi _=>(0,(false,i,()),())) r i ()=aa q /\
   q.1=(if 0∉r/\47∉r then 0 else 1)/\q.2.1.1=false:=by
  intro r;induction r with|nil=>intro i;exact⟨_,rfl,aW,rfl⟩|cons x r n =>intro i;unfold wg;by_cases h:x=0\/x=47;{simp;grind};simp;obtain⟨q,b,k,o⟩:=n (i+1);grind
 obtain⟨q,b,k,o⟩:=run s 0;have g:Loop _ ((false,(0:Int),()),())=aa q:=key.trans b;rw[g,ab];have el:cm 1 (len s)=decide (1<=s.length):=by unfold len;apply fk.2;omega
 have p:cm _ 32=decide _:=CD 32 s;rw[el,p,k];unfold uU;by_cases a:0∉s/\47∉s
 {rw[aN a,cu];by_cases c:1<=s.length;{by_cases d:s.length<=32;{by_cases e:s=[46];{simp[e,ao,bA,nt]};by_cases f:s=[46,46];{simp[f,ao,bA,nt]};simp[a,c,d,ao,bA,nt]};simp[d,ao]};simp[c,ao]};rw[aK a,js,ag];grind
def U3 p (j:p.length<=1048576):yF (p,())=aa ((parts p).all uU&&decide ((parts p).length<=8)&&decide (p.length<=96),()):=by
 unfold yF;rw[ix p j,ab];have e:=U2 p;have k:=fF p;generalize parts p=l at e k;have key:=qK (f:=vl (l,())) l (λ_ i=>((false,i,()),()))
  (λi _ x=>aa (if uU x=false then .inr _ else .inl ())) (λi _=>(0,(false,i,()),())) (λ_ _=>True) (λu i x g m _=>by unfold vl;have c:=e x (kG g);rw[aq m,au g,ab,Tv x ai,ab,cT c.1,ahZ];cases h:uU x with|true=>rw[ aJ ai];rfl|false=>rfl)
  (λ_ _ _ _ _ _ _=>trivial) (λu _=>by unfold vl;rw[aw,ag])
  (λ_ _ _ _ _ h=>by cases h) () trivial
 have run:∀r i,∃q,wg (λi _ x=>aa (if uU x=false then aH (1,(false,(i:Int),()),()) else aG ())) (λi _=>(0,(false,i,()),())) r i ()=aa q /\
   q.1=(if r.all uU=true then 0 else 1)/\q.2.1.1=false:=by
  intro r;induction r with|nil=>intro i;exact⟨_,rfl,rfl,rfl⟩|cons x r v =>intro i;unfold wg;cases h:uU x with|false=>exact⟨_,rfl,by simp[h],rfl⟩|true =>simp_all
 obtain⟨q,n,o,s⟩:=run l 0;have b:Loop _ ((false,(0:Int),()),())=aa q:=key.trans n;rw[b,ab,o,s];have t:cm _ 8=decide _:=CD 8 l;have d:cm _ 96=decide _:=CD 96 p;rw[t,d];cases h:l.all uU with|true =>rw[aN rfl,cu];by_cases a:l.length<=8<;>simp[ ao]|false=>rw[aK aW,js,ag];simp
def oe(x:bj):Bool:=decide (x≠[]/\x≠[46])
def names(s:bj):List bj:=(parts s).filter oe
def oh(s:bj):Bool:=(names s).all uU&&decide (s.head?≠aa 47)&&decide ((names s).length<=8)&&decide ((aX<|names s).length<=96)
def lM(s:bj):bj×Int:=if oh s then(aX<|names s,0) else([],2)
def yk s:∀x∈names s,47∉x/\x≠[]/\x.length<=s.length:=by intro x a;obtain⟨b,c⟩:=B8.1 a;obtain⟨d,e⟩:=U2 s x b;simp only[oe] at c;grind
def JN s:(names s).length<=s.length+1:=gS (X6 _ _) (fF s)
def MC s:parts (aX<|names s)=names s:=ka _ λx a=>⟨(yk s x a).1,(yk s x a).2.1⟩
def yS s:(aX<|names s).length<=s.length:=by
 have gen:∀l,(aX<|l.filter oe).length<=(aX l).length:=by intro l;induction l with|nil=>simp|cons x r a =>by_cases b:oe x=true;{rw[am2 b];cases c:r.filter oe with|nil =>(cases r with|nil=>apply b8|cons y r=>simp only[aX,gR,iG];omega)|cons y q =>rw[c] at a;cases r with|nil=>simp at c|cons z r=>simp only[aX,gR,iG] at a⊢;omega};rw[List.filter_cons_of_neg b];cases r with|nil=>simp[aX]|cons z r=>rw[aX];simp;omega
 have:=gen (parts s);rw[dP] at this;exact this
def ZU s:cA (s,[47],())=aa (decide<|s.head?=aa 47,()):=by unfold cA cr;cases s with|nil=>rfl|cons b r =>have a:inside 0 (len [(47:UInt8)]) (len (b::r))=true:=aV aI aI (by simp only[len,iG,qp];omega);rw[(bL<|by simp only[len,iG,qp];omega),aj,a,aj,UW,ab,ab];simp[bA]
def U4 s (A:s.length<=4096):qy (s,())=aa ((lM s).1,(lM s).2,()):=by
 unfold qy;rw[sA s ai,ab];have B:=fF s;have key:=qK (f:=pz (parts s,())) (parts s) (λo i=>((([]),0,(),(i:Int),()),o,()))
  (λi o x=>aa (if oe x=false then .inl o else if uU x=false then .inr _ else .inl (o++[x]))) (λi o=>(0,(([]),0,(),(i:Int),()),o,())) (λi o=>o.length<=i) (λo i x l t u=>by (unfold pz;rw[aq t,aj,au l,ab];have e:oe x=(nt (bA x [])&&nt (bA x [46])):=by simp[oe,bA,nt]);by_cases a:x=[];{rw[cc a,aM,ag,aj,ab, aJ ai,aN (by rw[e,cc a];rfl)];rfl};by_cases b:x=[46];{rw[bg a,aE,aj,cc b,aj,ab, aJ ai,aN (by rw[e,cc b];simp[nt])];rfl};(rw[bg a,aE,aj,bg b,ag,acO,ab];have g:oe x=true:=by rw[e,bg a,bg b];rfl);cases h:uU x with|false =>rw[aE,aj,ab, aK (by rw[g];simp)];rfl|true =>rw[aM,ag,aP dW, aJ ai,aK (by rw[g];simp)];rfl)
  (λo i x C l u j=>by have j:=aU j;by_cases a:oe x=false;{grind};rw[aK a] at j;by_cases b:uU x=false;{grind};rw[aK b] at j;obtain rfl:=Ym j;simp;omega)
  (λo _=>by unfold pz;rw[aw,ag])
  (λ_ _ _ _ _ h=>by cases h) [] (b8 _)
 have run:∀r i o,∃q,wg (λi o x=>aa (if oe x=false then aG o else if uU x=false then aH (1,(([]:bj),(2:Int),(),(i:Int),()),o,()) else aG (o++[x]))) (λi o=>(0,(([]),0,(),i,()),o,())) r i o=aa q /\
   (if(r.filter oe).all uU=true then q.1=0/\q.2.2.1=o++r.filter oe else q.1=1/\q.2.1.1=[]/\q.2.1.2.1=2):=by
  intro r;induction r with|nil=>intro i o;exact⟨_,rfl,aW⟩|cons x r v =>intro i o;unfold wg;cases e:oe x with|false =>simp_all|true =>rw[am2 e];cases l:uU x with|false=>exact⟨_,rfl,by simp[l]⟩|true =>obtain⟨q,n,d⟩:=v (i+1) (o++[x]);grind
 obtain⟨q,n,d⟩:=run _ 0 [];have k:Loop _ ((([]),(0:Int),(),(0:Int),()),_)=aa q:=key.trans n;rw[k,ab];rw[show(parts s).filter oe=names s from rfl,Gn] at d;have D:=yS s;have w:=JN s;unfold lM oh;cases p:(names s).all uU with|false =>rw[p] at d;rw[d.1,d.2.1,d.2.2];rfl|true =>(rw[p] at d;rw[d.1,cu,d.2];have y:lf (names s,[47],())=aa (aX<|names s,()):=by show(HM (names s) [47]).map _=_;unfold HM;rw[ajv,aN ⟨ai,ai⟩];rfl);(rw[y,ab,ZU,ab];have z:ba 8 (len<|names s)=!decide ((names s).length<=8):=by by_cases h:(names s).length<=8;{rw[aF<|by simp only[len];omega];simp[h]};rw[aT<|by simp only[len];omega];simp[h]);(have m:ba 96 (len<|aX<|names s)=!decide ((aX<|names s).length<=96):=by by_cases h:(aX<|names s).length<=96;{rw[aF<|by simp only[len];omega];simp[h]};rw[aT<|by simp only[len];omega];simp[h]);rw[z,m];by_cases a:s.head?=aa 47;{simp[a,ao,nt]};by_cases b:(names s).length<=8;{by_cases c:(aX<|names s).length<=96<;>simp[a,b,c,ao,nt]};simp[ b,ao,nt]
def W5 s (u:s.length<=4096):vm (s,())=aa ((lM s).1,(lM s).2,()):=by
 unfold vm;rw[ix s ai,ab];have v:=fF s;have key:=qK (f:=lr (parts s,())) (parts s) (λo i=>(((),i,()),o,()))
  (λi o x=>aa (.inl<|if oe x=true then o++[x] else o)) (λi o=>(((),(i:Int),()),o,())) (λi o=>o.length<=i) (λo i x g k l=>by (unfold lr;rw[aq k,aj,au g,ab,ab];have e:oe x=(nt (bA x [])&&nt (bA x [46])):=by simp[oe,bA,nt]);by_cases a:x=[];{rw[cc a,aJ ai,aK (by rw[e,cc a];simp[nt])];rfl};by_cases b:x=[46];{rw[bg a,aE,aj,cc b,aJ ai,aK (by rw[e,cc b];simp[nt])];rfl};rw[bg a,aE,aj,bg b,ab,ab,aP dW,aJ ai,aN (by rw[e,bg a,bg b];rfl)];rfl)
  (λo i x w g l m=>by obtain rfl:=Ym (aU m);by_cases a:oe x=true;{grind};rw[aK a];omega)
  (λo _=>by unfold lr;rw[aw];rfl)
  (λ_ _ _ _ _ h=>by cases h) [] (b8 _)
 have run:∀r i o,∃j,wg (λi o x=>aa (aG<|if oe x=true then o++[x] else o)) (λi o=>(((),(i:Int),()),o,())) r i o=aa (((),j,()),o++r.filter oe,()):=by intro r;induction r with|nil=>intro i o;exact⟨i,by simp[wg]⟩|cons x r n =>intro i o;unfold wg;by_cases e:oe x=true;{simp only;obtain⟨j,h⟩:=n (i+1) (o++[x]);grind};simp_all
 obtain⟨j,p⟩:=run _ 0 [];have d:Loop (lr (parts s,())) (((),0,()),([]),())=aa (((),j,()),names s,()):=by have:=key.trans p;exact this
 have y:=yS s;have q:=JN s;rw[d,ab];dsimp only;rw[EK _ ai ai,ab];have e0:ae (ao (nt<|bA s []) (ae (idx s 0) λt=>aa (aR (u8 t) 47))<|some false)=λ(f:Bool->Option (bj×Int×al))=>f (decide<|s.head?=aa 47):=by funext f;cases s with|nil=>rfl|cons b r =>rw[bg aW,aE,aj,show idx _ 0=aa b from rfl,ab,aeE,ab];simp_all
 rw[e0];dsimp only;rw[U3 _ ai,MC];unfold lM oh;by_cases a:s.head?=aa 47
 {simp[a,ao,nt,ae]};cases z:(names s).all uU with|false=>simp[ ao,nt,ae]|true =>by_cases b:(names s).length<=8;{by_cases c:(aX<|names s).length<=96<;>simp[a,b,c,ao,nt,ae]};simp[ b,ao,nt,ae]
def Dz(p:bj):Nat->Option Nat|0=>af|n+1=>if p[n]?=aa 47 then aa n else Dz p n
def W6 p (f:p.length<=1048576):db (p,47,())=aa (match Dz p p.length with|some k=>k|none=>-1,()):=by
 unfold db;have run:∀n,n<=p.length->∃q,Loop (cQ (p,47,())) ((0,(n-1),()),())=aa q/\(match Dz p n with|some k=>q.1=1/\q.2.1.1=k|none=>q.1=0):=by intro n;induction n with|zero =>intro _;refine⟨(0,(0,-1,()),()),?_,rfl⟩;rw[aZ];rfl|succ n g =>(intro h;obtain⟨y,c⟩:∃y,p[n]?=aa y:=⟨_,gQ ai⟩;rw[ aZ];have st:cQ (p,47,()) ((0,n,()),())=if y=47 then aa (.inr (1,(n,n,()),())) else aa (.inl ((0,n-1,()),())):=by unfold cQ;dsimp only;rw[bL ai,aj,au c,ab,aeE,dc ai ai,QN]);rw[ Dz];grind
 obtain⟨q,d,a⟩:=run p.length (b8 _);have e:cR .i64 (len p) 1=p.length-1:=by rw[bG,dc ai ai]
 rw[e,d,ab];cases b:Dz p p.length with|none=>rw[b] at a;rw[a,cu,aj]|some k=>rw[b] at a;rw[a.1,a.2,js,ag]
def QY:∀{p n k},Dz p n=aa k->k<n/\p[k]?=aa 47/\∀j,k<j->j<n->p[j]?≠aa 47:=by intro p n;induction n with|zero=>intro k h;cases h|succ n a =>intro k h;rw[Dz] at h;grind
def acP:∀{p n},Dz p n=af->∀j,j<n->p[j]?≠aa 47:=by intro p n;induction n with|zero=>omega|succ n a =>intro h j b;rw[Dz] at h;grind
def bt(p:bj):bj×bj:=match Dz p p.length with|some k=>(p.take k,p.drop (k+1))|none=>([],p)
def sB p:(47∉p/\bt p=([],p))\/∃a b,p=a++47::b/\47∉b/\bt p=(a,b):=by unfold bt;cases h:Dz p p.length with|none =>(refine .inl ⟨λd=>?_,rfl⟩;obtain⟨j,c,e⟩:=ahG d;exact acP h j c (by rw[gQ c,e]))|some k =>obtain⟨l,f,g⟩:=QY h;refine .inr ⟨p.take k,p.drop _,?_,λd=>?_,rfl⟩;{obtain⟨i,e⟩:=ga.1 f;rw[<-e,<-zm i,Ba]};obtain⟨j,c,e⟩:=ahG d;rw[qo] at c;rw[List.getElem_drop] at e;exact g (k+1+j) ai ai (by rw[gQ ai,e])
def r9 p (a:p.length<=1048576):gn (p,())=aa ((bt p).1,(bt p).2,()):=by unfold gn qi;rw[show aR _ 0=false from rfl,ag,show aR _ 1=true from rfl,aj,show idx [(47:UInt8)] 0=aa 47 from rfl,ab,show u8 47=47 from rfl,W6 p a,ab,ab];unfold bt;cases h:Dz p p.length with|none=>rw[aT aI,aj]|some k =>obtain⟨b,_,_⟩:=QY h;dsimp only;rw[aF ai,ag,show inside 0 _ _=true from aV ai ai (by rw[bG];omega),aj,aJ ai,aV ai (by rw[bG];omega) (sK _),aj,fY,je p _ ai]
def EL a b (g:47∉b):cD (a++47::b)=cD a++[b]:=by induction a with|nil =>(have e:cD (47::b)=[]::cD b:=by rw[cD,aN rfl]);rw[Gn,e,qb b g];rfl|cons c a d =>rw[Na];by_cases h:c=47;{rw[cD,aN h,d];(conv=>rhs;rw[cD,aN h]);rfl};cases f:cD a with|nil=>exact absurd f (qa a)|cons x t =>rw[f] at d;rw[j9 h f,j9 h (by rw[d];rfl)];rfl
def xY p (h:p.length<=4096):kr (p,())=aa ((bt p).1,(bt p).2,()):=by
 unfold kr;rw[ix p ai,ab];by_cases g:p=[]
 .subst g;rfl
 have c:parts p=cD p:=by unfold parts;rw[aK g]
 rcases sB p with ⟨d,e⟩|⟨a,b,rfl,d,e⟩
 .rw[e,c,qb p d];have f:pA (sub [p] 0<|minus (cR .i64 (len [p]) 1) 0,())=aa ([],()):=by exact EK [] aW (by simp[aX])
  rw[ f];rfl
 rw[e,c,EL a b d];have i:=GV a;rw[gR] at h;have f:cR .i64 (len<|cD a++[b]) 1=(((cD a).length:Nat):Int):=by rw[bG,dc ai dW];grind
 rw[f,ax (by rw[bG,gR];simp;omega),ag,aV ai ai (by rw[bG,gR];omega),aj,fY,Yi,EK _ ai (by rw[xX];omega),xX,xC]
 simp[ae]
def sC(d n:bj):bj:=if d=[]\/n=[] then d++n else d++47::n
def Ln d n (hd:d.length<=1048576) (c:n.length<=1048576):pB (d,n,())=aa (sC d n,()):=by
 unfold pB sC;dsimp only;by_cases a:d=[]
 {rw[cc a,aP ai,aN (.inl a)];rfl};rw[bg a,aE,aj];by_cases b:n=[];{rw[cc b,aP ai,aN (.inr b)];rfl};rw[bg b,ag,aP dW,aj,aP (by simp only[hJ,gR,iG,qp];omega),aj,aK (by simp[a,b])];simp[app]
def CL d n (hd:d.length<=1048576) (c:n.length<=1048576):pC (d,n,())=aa (sC d n,()):=by
 unfold pC sC;by_cases a:d=[]
 {rw[ a];rfl};rw[bg a,ag];by_cases b:n=[];{rw[cc b,aj,aN (.inr b),b,zo]};rw[bg b,ag,aP dW,aj,aP (by simp only[hJ,gR,iG,qp];omega),aj,aK (by simp[a,b])];simp[app]
def ek(x y:List bj):Bool:=decide (y.length<x.length/\x.take y.length=y)
def U5{α}[DecidableEq α](Q:Nat->Nat->Nat×(Bool×Int×al)×al)(a:∀i j,(Q i j).1=j/\(Q i j).2.1.1=false):∀(r:List (α×α)) i,∃q,wg (λi _ p=>aa (if p.1=p.2 then aG () else aH (Q i 1))) (λi _=>Q i 0) r i ()=aa q /\
  q.1=(if r.all (λp=>decide (p.1=p.2))=true then 0 else 1)/\q.2.1.1=false:=by
 intro r;induction r with|nil=>intro i;exact⟨_,rfl,(a _ _).1,(a _ _).2⟩|cons p r b =>intro i;unfold wg;by_cases h:p.1=p.2;{simp;obtain⟨q,c,d,e⟩:=b (i+1);grind};simp_all
def af2 x y (hx:x.length<=1048576) (hy:y.length<=1048576):eU (x,y,())=aa (decide<|x=y,()):=by
 unfold eU;rw[Zw];by_cases a:x.length=y.length
 .rw[cT a,aM,ag];have key:=qK (f:=ed (x,y,())) (x.zip y) (λ_ i=>((false,i,()),()))
   (λi _ p=>aa (if p.1=p.2 then .inl () else .inr _)) (λi _=>(0,(false,i,()),())) (λ_ _=>True) (λu i p g m _=>by obtain⟨b,d⟩:=ajb g;have k:=aA b;unfold ed;rw[aq<|aA b,au b,ab,au d,ab];by_cases e:p.1=p.2;{rw[cc e,aJ ai,aN e];rfl};rw[bg e,aK e];rfl)
   (λ_ _ _ _ _ _ _=>trivial) (λu _=>by (have e:(x.zip y).length=x.length:=by rw[ahT,a,ah2]);unfold ed;rw[e,aw,ag])
   (λ_ _ _ _ _ h=>by cases h) () trivial
  obtain⟨q,b,d,l⟩:=U5 (λi j=>(j,(false,_),())) (λ_ _=>⟨rfl,rfl⟩) (x.zip y) 0;have c:Loop _ ((false,(0:Int),()),())=aa q:=key.trans b;rw[c,ab,d,l,WR a];by_cases e:x=y;{rw[cT e,aN rfl,cu,aj]};rw[cj e,aK aW,js,ag]
 rw[cj a,aE,aj,cj λe=>a (by rw[e])]
def BF p d (a:p.length<=4096) (hd:d.length<=4096):dv (p,d,())=aa (ek (parts p)<|parts d,()):=by
 unfold dv ek;have b:=fF p;rw[sA p ai,ab,sA d ai,ab];dsimp only;rw[JC];by_cases h:(parts d).length<(parts p).length
 {rw[cT h,aj,show inside 0 _ _=true from aV aI (by rw[bG];omega) (by rw[bG,bG];omega),aj,UW,af2 _ _ (by rw[cY];omega) ai,ab,ab];simp[h]};rw[cj h,ag,ab];simp[h]
def W7 p d (k:p.length<=4096) (hd:d.length<=4096):vn (p,d,())=aa (ek (parts p)<|parts d,()):=by
 unfold vn ek;have c:=fF p;have g:=fF d;rw[ix p ai,ab,ix d ai,ab];dsimp only;rw[QM];generalize parts p=x at c;generalize parts d=y at g;by_cases h:y.length<x.length
 .rw[cj ai,ag];have e:(x.zip y).length=y.length:=by rw[ahT];omega
  have key:=qK (f:=pD (x,()) (y,())) (x.zip y) (λ_ i=>((false,i,()),()))
   (λi _ p=>aa (if p.1=p.2 then .inl () else .inr _)) (λi _=>(0,(false,i,()),())) (λ_ _=>True) (λu i p k o _=>by obtain⟨c,g⟩:=ajb k;unfold pD;rw[aq<|aA c,aq (aA g),au c,ab,au g,ab];by_cases e:p.1=p.2;{rw[cc e,aJ ai,aN e];rfl};rw[bg e,aK e];rfl)
   (λ_ _ _ _ _ _ _=>trivial) (λu _=>by unfold pD;rw[e,aw,ag,ag])
   (λ_ _ _ _ _ h=>by cases h) () trivial
  obtain⟨q,l,m,n⟩:=U5 (λi j=>(j,(false,_),())) (λ_ _=>⟨rfl,rfl⟩) (x.zip y) 0;have b:Loop _ ((false,(0:Int),()),())=aa q:=key.trans l;rw[b,ab,m,n,Zy,show min x.length y.length=y.length by omega,Ao];by_cases a:x.take y.length=y;{rw[cT a,aN rfl,cu,aj];simp[h,a]};rw[cj a,aK aW,js,ag];simp[a]
 rw[cT ai,aj];simp[h]
def U6 x:iR (x,())=aa (false,()):=by unfold iR;rw[yC];rfl
def ajw x y:jV (x,y,())=aa (acz x y,()):=by
 unfold jV acz;rw[U6,ab,U6,ab,ag,ag,acy];rcases CE x y with h|rfl|h
 .rw[h,aj,aN rfl]
 {rw[fE,ag,ag,aK aW,aN rfl]};rw[p9 h,ag,h,aj,aK aW,aK λe=>wR h e.symm]
def EM a b (F:a.length<=4096) (G:b.length<=4096):gW (a,b,())=aa (cmpL (parts a)<|parts b,()):=by
 unfold gW;have s:=fF a;have t:=fF b;rw[sA a ai,ab,sA b ai,ab];generalize parts a=x at s;generalize parts b=y at t;have run:∀n i,x.length-i<=n->i<=x.length->i<=y.length->x.take i=y.take i->∃q,Loop (dE (x,()) (y,())) ((0,i,()),())=aa q /\
   (if q.1=0 then x.length<=y.length/\cmpL (x.drop i) (y.drop i)=(if x.length<y.length then -1 else 0) else q.1=1/\q.2.1.1=cmpL (x.drop i) (y.drop i)):=by
  intro n;induction n with|zero =>(intro i w z k A;obtain rfl:i=x.length:=ai;refine⟨(0,(0,x.length,()),()),?_,?_⟩;{(rw[aZ];have:dE (x,()) (y,()) ((0,x.length,()),())=aa (.inr (0,(0,x.length,()),())):=by unfold dE;rw[aw,ag]);grind};rw[aN rfl];refine⟨k,?_⟩;rw[Ix];by_cases h:x.length<y.length;{rw[aN h];cases hd:y.drop x.length with|nil=>have:=congrArg List.length hd;simp at this;omega|cons b r=>rfl};rw[aK h,Iu ai];rfl)|succ n H =>intro i w z k A;by_cases hi:i<x.length;{(obtain⟨u,d⟩:∃u,x[i]?=aa u:=⟨_,gQ hi⟩;obtain⟨B,f⟩:=ga.1 d;have m:x.drop i=u::x.drop (i+1):=by rw[zm hi,f]);rw[aZ];by_cases o:i<y.length;{(obtain⟨v,p⟩:∃v,y[i]?=aa v:=⟨_,gQ o⟩;obtain⟨C,g⟩:=ga.1 p;have D:y.drop i=v::y.drop (i+1):=by rw[zm o,g]);(have st:dE (x,()) (y,()) ((0,(i:Int),()),())=if u=v then aa (.inl ((0,((i+1:Nat):Int),()),())) else aa (.inr (1,(acz u v,i,()),())):=by unfold dE;dsimp only;rw[aq hi,aj,au d,ab,CD,cj ai,ag,au p,ab,ajw,ab];by_cases e:u=v;{rw[aN e,show acz u v=0 by unfold acz;rw[e,fE,aK aW,aN rfl],show nt _=false from rfl,ag,aJ ai]};rw[aK e,show aR _ 0=false from ax (by unfold acz;split<;>(try split)<;>first|decide|exact absurd (by assumption) e),aE,aj]);rw[st,m,D,cmpL];by_cases e:u=v;{grind};rw[aK e];refine⟨_,rfl,?_⟩;unfold acz;grind};(have st:dE (x,()) (y,()) ((0,i,()),())=aa (.inr (1,(1,i,()),())):=by unfold dE;dsimp only;rw[aq hi,aj,au d,ab,CD,cT ai,aj]);rw[st];refine⟨_,rfl,?_⟩;rw[ m,show y.drop i=[] from Iu ai];exact⟨rfl,rfl⟩};grind
 obtain⟨q,E,c⟩:=run x.length 0 ai ai ai rfl;have j:Loop (dE _ _) ((0,0,()),())=aa q:=E;rw[j,ab];rw[D6,D6] at c;by_cases h:q.1=0
 {rw[aN h] at c;rw[h,cu,aj,JC,c.2];by_cases l:x.length<y.length;{rw[cT l,aj,aN l]};rw[cj l,ag,aK l]};rw[aK h] at c;rw[c.1,js,ag,c.2]
def yT a b (F:a.length<=4096) (G:b.length<=4096):jC (a,b,())=aa (cmpL (parts a)<|parts b,()):=by
 unfold jC;have s:=fF a;have t:=fF b;rw[ix a ai,ab,ix b ai,ab];generalize parts a=x at s;generalize parts b=y at t;have run:∀n i,x.length-i<=n->i<=x.length->i<=y.length->∃q,Loop (dF (x,()) (y,())) ((0,i,()),())=aa q /\
   (if q.1=0 then cmpL (x.drop i) (y.drop i)=(if x.length<y.length then -1 else if y.length<x.length then 1 else 0) else q.1=1/\q.2.1.1=cmpL (x.drop i) (y.drop i)):=by
  intro n;induction n with|zero =>(intro i w z A;obtain rfl:i=x.length:=ai;refine⟨(0,(0,x.length,()),()),?_,?_⟩;{(rw[aZ];have:dF (x,()) (y,()) ((0,x.length,()),())=aa (.inr (0,(0,x.length,()),())):=by unfold dF;rw[aw,ag,ag]);grind};rw[aN rfl,Ix];by_cases h:x.length<y.length;{rw[aN h];cases hd:y.drop x.length with|nil=>have:=congrArg List.length hd;simp at this;omega|cons b r=>rfl};rw[aK h,Iu ai,aK ai];rfl)|succ n H =>intro i w z A;by_cases hi:i<x.length;{(obtain⟨u,k⟩:∃u,x[i]?=aa u:=⟨_,gQ hi⟩;obtain⟨B,f⟩:=ga.1 k;have o:x.drop i=u::x.drop (i+1):=by rw[zm hi,f]);rw[aZ];by_cases d:i<y.length;{(obtain⟨v,p⟩:∃v,y[i]?=aa v:=⟨_,gQ d⟩;obtain⟨C,g⟩:=ga.1 p;have D:y.drop i=v::y.drop (i+1):=by rw[zm d,g]);(have st:dF (x,()) (y,()) ((0,(i:Int),()),())=if u=v then aa (.inl ((0,((i+1:Nat):Int),()),())) else aa (.inr (1,(if dK u v=true then -1 else 1,(i,())),())):=by unfold dF;rw[aq hi,aq d,aj,aj,au k,ab,au p,ab,ab,ab,acy];rcases CE u v with h|rfl|h;{rw[h,aj,aK (wR h),aN rfl]};{rw[fE,ag,ag,aN rfl,aJ ai]};rw[p9 h,ag,h,aj,aK (λe=>wR h e.symm),aK aW]);rw[ o,D,cmpL];grind};(have st:dF (x,()) (y,()) ((0,i,()),())=aa (.inr (0,(0,i,()),())):=by unfold dF;rw[aq hi,JA,cj d,aj,ag]);rw[st];refine⟨_,rfl,?_⟩;rw[aN rfl,o,show y.drop i=[] from Iu ai,aK ai,aN ai];rfl};grind
 obtain⟨q,E,c⟩:=run x.length 0 ai ai ai;have j:Loop (dF _ _) ((0,0,()),())=aa q:=E;rw[j,ab];rw[D6,D6] at c;by_cases h:q.1=0
 {rw[aN h] at c;rw[h,cu,aj,JC,JC,c];by_cases l:x.length<y.length;{rw[cT l,aj,aN l]};rw[cj l,ag,aK l];by_cases m:y.length<x.length;{rw[cT m,aj,aN m]};rw[cj m,ag,aK m]};rw[aK h] at c;rw[c.1,js,ag,c.2]
def MD s p:cr (s,p,())=aa (decide<|s.take p.length=p,()):=by
 unfold cr;rw[QM];by_cases h:p.length<=s.length
 {rw[cT h,show inside 0 (len p) (len s)=true from aV aI (by rw[bG];omega) (by rw[bG,bG];omega)];rfl};rw[cj h,ag,ab,cj];grind
def QZ s p:cA (s,p,())=aa (decide<|s.take p.length=p,()):=by unfold cA;rw[MD,ab]
def H2 s p:oM (s,p,())=aa (decide<|s.take p.length=p,()):=by
 unfold oM;rw[QM];by_cases h:p.length<=s.length
 {rw[cT h,show inside 0 (len p) (len s)=true from aV aI (by rw[bG];omega) (by rw[bG,bG];omega)];rfl};rw[cj h,ag,ab,cj];grind
def ajx s p:kL (s,p,())=aa (if s.take p.length=p then(s.drop p.length,true,()) else(s,false,())):=by
 unfold kL fw;rw[MD,ab];by_cases h:s.take p.length=p
 .have a:p.length<=s.length:=by grind
  rw[cT h,aM,ag,show inside (len p) _ (len s)=true from aV (by rw[bG];omega) (by rw[bG,bG];omega) (sK _),aj,ab,aN h,show sub s (len p) (minus _<|len p)=s.drop p.length from je s p.length a]
 rw[cj h,aE,aj,ab,aK h]
def Tw l s (j:l.length<=1048576):bJ (l,s,())=aa (decide<|s∈l,()):=by
 unfold bJ eT;have key:=qK (f:=bX (l,s,())) l (λ_ i=>((0,i,()),()))
  (λi _ x=>aa (if s=x then .inr _ else .inl ())) (λi _=>(0,(0,i,()),())) (λ_ _=>True) (λu i x c d _=>by unfold bX;rw[aq d,au c,ab];by_cases e:s=x;{rw[cc e,aN e];rfl};rw[bg e,aK e,aJ ai];rfl)
  (λ_ _ _ _ _ _ _=>trivial) (λu _=>by unfold bX;rw[aw,ag])
  (λ_ _ _ _ _ h=>by cases h) () trivial
 have run:∀r i,∃q,wg (λi _ x=>aa (if s=x then aH (1,((i:Int),(i:Int),()),()) else aG ())) (λi _=>(0,(0,i,()),())) r i ()=aa q /\
   (if s∈r then q.1=1/\0<=q.2.1.1 else q.1=0):=by
  intro r;induction r with|nil=>intro i;exact⟨_,rfl,aW⟩|cons x r k =>unfold wg;by_cases h:s=x;{simp_all};simp_all
 obtain⟨q,g,a⟩:=run l 0;have b:Loop (bX _) ((0,0,()),())=aa q:=key.trans g;rw[b,ab];by_cases h:s∈l
 {rw[aN h] at a;rw[a.1,js,ag,ab,cT h,bL a.2]};rw[aK h] at a;rw[a,cj h];rfl
def wh:bj:=[46,119,104,46]
def oi(n:bj):Int×bj :=if n.take 4=wh then(if n.drop 4=[46,119,104,46,46,111,112,113] then(2,[]) else if(n.drop 4).take 4=wh\/n.drop 4=[]\/n.drop 4=[46]\/n.drop 4=[46,46] then(3,[]) else(1,n.drop 4)) else(0,n)
def ZV n:tl (n,())=aa ((oi n).1,(oi n).2,()):=by
 unfold tl oi;rw[show([46,119,104,46])=wh from rfl,ajx,ab,show wh.length=4 from rfl];by_cases h:n.take 4=wh
 .have e:n=wh++n.drop 4:=by rw[<-h,Ba]
  rw[aN h,aN h,aM,ag];generalize n.drop 4=r at e;by_cases a:r=[46,119,104,46,46,111,112,113];{rw[aN a,cc (by rw[e,a];rfl),aj]};rw[aK a,bg (by rw[e];intro q;exact a (by simpa [wh] using q)),ag,QZ,ab,show wh.length=4 from rfl];by_cases b:r.take 4=wh;{rw[aN<|.inl b,cT b,aM,ag,ab,aj]};rw[cj b,aE,aj,Tw _ _ aI,ab,ab,QN];grind
 rw[aK h,aK h];rfl
def ME n:tn (n,())=aa ((oi n).1,(oi n).2,()):=by
 unfold tn oi;rw[H2,H2];by_cases h:n.take 4=wh
 .have e:n=wh++n.drop 4:=by rw[<-h,Ba]
  rw[aN h];generalize g:n.drop 4=r at e;by_cases a:r=[46,119,104,46,46,111,112,113];{rw[aN a,cc (by rw[e,a];rfl),aj]};(rw[aK a,bg (by rw[e];intro q;exact a (by simpa [wh] using q)),ag,ab];have i:decide (n.take ([46,119,104,46,46,119,104,46]:bj).length=[46,119,104,46,46,119,104,46])=decide (r.take 4=wh):=by rw[e];apply fk.2;simp[wh]);(have j:bA n [46,119,104,46]=decide (r=[]):=by rw[e];apply fk.2;simp[wh]);(have k:bA n [46,119,104,46,46]=decide (r=[46]):=by rw[e];apply fk.2;simp[wh]);(have l:bA n [46,119,104,46,46,46]=decide (r=[46,46]):=by rw[e];apply fk.2;simp[wh]);(have m:decide (n.take ([46,119,104,46]:bj).length=[46,119,104,46])=true:=cT h;rw[i,j,k,l,m];have o:ao (ao (nt<|ao (nt<|ao (nt<|decide<|r.take 4=wh) (decide<|r=[]) true) (decide<|r=[46]) true) (decide<|r=[46,46]) true)=λ(x y:Option (Int×bj×al))=>if r.take 4=wh\/r=[]\/r=[46]\/r=[46,46] then x else y:=by funext x y;by_cases b1:r.take 4=wh;{simp[b1,ao,nt]};by_cases c:r=[];{simp[c,ao,nt]};by_cases d:r=[46];{simp[d,ao,nt]};by_cases f:r=[46,46];{simp[f,ao]};rw[aK<|by simp[b1,c,d,f]];simp[b1,c,d,f,ao,nt]);rw[o];dsimp only;by_cases b:r.take 4=wh\/r=[]\/r=[46]\/r=[46,46];{grind};(rw[aK b,aK b,ab];have p:4<=n.length:=by rw[e];simp[wh]);rw[aj,show inside 4 _ _=true from aV aI (by rw[bG];omega) (sK _),aj,show sub n 4 (minus _ 4)=n.drop 4 from je n 4 p,g]
 rw[aK h];have s:n≠[46,119,104,46,46,119,104,46,46,111,112,113]:=λq=>h (by rw[q];rfl);have t:n≠[46,119,104,46]:=λq=>h (by rw[q];rfl);have u:n≠[46,119,104,46,46]:=λq=>h (by rw[q];rfl);have v:n≠[46,119,104,46,46,46]:=λq=>h (by rw[q];rfl);have w:¬n.take ([46,119,104,46,46,119,104,46]:bj).length=[46,119,104,46,46,119,104,46]:=λq=>h (by have:=congrArg (List.take 4) q;rw[GH] at this;exact this)
 rw[bg s,ag,ab,cj w,bg t,bg u,bg v,show ao _=λx y=>y from rfl,ab,cj<|by exact h,ag]
def kX{a b}:ao a b false=(a&&b):=by cases a<;>rfl
def af3{s}(h:(lM s).2=0):oh s=true/\(lM s).1=aX (names s):=by unfold lM at h⊢;grind
def sD{s}(h:oh s=true):(names s).all uU=true/\(names s).length<=8/\(aX<|names s).length<=96:=by unfold oh at h;grind
def acQ{l}(h:∀x∈l,47∉x/\x≠[]):(aX l).head?≠aa 47:=by cases l with|nil=>simp[aX]|cons x r =>(obtain⟨c,a⟩:=h x (pg ..);have e:(aX (x::r)).head?=x.head?:=by cases x with|nil=>exact absurd rfl a|cons b x=>cases r<;>simp[aX]);cases x with|nil=>exact absurd rfl a|cons b x =>grind
def Q0 l a (h:∀x∈a++l,47∉x/\x≠[]):l.foldl sC (aX a)=aX (a++l):=by induction l generalizing a with|nil=>simp|cons x r d =>(have e:sC (aX a) x=aX (a++[x]):=by unfold sC;cases a with|nil=>rfl|cons y q =>(have c:aX (y::q)≠[]:=by have:=(h y aW).2;cases q with|nil=>exact this|cons z q=>rw[aX];simp);(have gen:∀y q,aX (y::q++[x])=aX (y::q)++47::x:=by intro y q;induction q generalizing y with|nil=>rfl|cons z q b =>rw[Na,Na,aX,<-Na,b z,aX];simp);grind);grind
def EN{l}(h:∀x∈l,47∉x/\x≠[]) c:bt (aX l)=(aX l.dropLast,l.getLast c):=by
 have d:=JM l c λx g=>(h x g).1;rcases sB _ with ⟨e,f⟩|⟨a,b,i,e,f⟩
 {rw[qb _ e] at d;rw[f];generalize aX l=p at d;subst d;rfl};rw[f];rw[i,EL a b e] at d;subst d;rw[List.dropLast_concat,List.getLast_concat,xX]
def JO(a:Tx)(x:Nm):List Tx:=if x.1.take a.length=a then [x.1] else []
def Q1(l:List Nm)(a:Tx):List Tx:=l.flatMap (JO a)
def qc(b:Tx)(f:List Tx):Tx×Int×al:=if b=[]\/6<=b.length then([],3,()) else match f with|[]=>([],3,())|[a]=>(a,0,())|_=>([],9,())
def aS(l:List Nm)(a:Tx):Tx×Int×al:=if ∃x∈l,x.1=a then(a,0,()) else match l.find? (λx=>decide (a∈x.2.1)) with|some x=>(x.1,0,())|none=>qc a (Q1 l a)
def W9(c:Tx) f:ao (ao (nt<|ao (nt<|bA c ([]:Tx)) (cm 6<|@len UInt8 c) true) (aR (@len Tx f) 0) true) (aa (([]:Tx),3,()))
  (ao (ba 1<|@len Tx f) (aa (([]:Tx),9,()))<|ao (within 0<|@len Tx f) (ae (@idx Tx f 0) λg=>aa (g,0,())) af)=aa (qc c f):=by
 have i:bA c ([])=decide (c=[]):=rfl;have j:cm 6 (@len UInt8 c)=decide (6<=c.length):=by unfold len;apply fk.2;omega
 unfold qc;rw[i,j];by_cases d:c=[]
 .rw[aN<|.inl d,cT d];rfl
 .rw[cj d];by_cases e:6<=c.length
  .rw[aN<|.inr e,cT e];rfl
  .rw[aK<|by rintro(h|h);exact d h;exact e h,cj e]
   match f with
   | []=>rfl
   | [a]=>rfl
   | a::b::r =>
     have:ba 1 (@len Tx (a::b::r))=true:=aT (by simp only[len,iG];omega);rw[ this];rfl
def acR(l:List Nm) ref (f:l.length<=1000000) (q:Nat×(Int×Int×al)×Tx×al) (b:q.2.2.1=ref) :
  Loop (pO (l,ref,()) q) (((),0,()),([]:List Tx),())=aa (((),(l.length:Int),()),Q1 l ref,()):=by
 refine hU l (λa i=>(((),i,()),a,())) (JO ref) _ ai (λi x c d e=>?_) ?_
 .have j:((l.take i).flatMap<|JO ref).length<=l.length:=by have:=fe (g:=JO ref) (λx=>by unfold JO;split<;>simp) l i;omega
  unfold pO;rw[aq d,au c,ab,b,QZ,e];unfold JO;by_cases h:x.1.take ref.length=ref;{rw[cT h,aN h];have:fits (plus (@len Tx<|(l.take i).flatMap<|JO ref)<|@len Tx<|[x.1])=true:=aP (by show _+1<=_;omega);unfold JO at this;rw[this];rfl};rw[cj h,aK h,zo];rfl
 .unfold pO;rw[aw];rfl
def mX l (ref:Tx) (c:Small l) (d:l.length<=1000000):iC (l,ref,())=aa (aS l ref):=by
 unfold iC;have mid:∀{f1},f1=pN (l,ref,()) ->
   (∃(i:Nat) (x:Nm),l[i]?=aa x/\decide (ref∈x.2.1)=true/\(∀j y,j<i->l[j]?=aa y->decide (ref∈y.2.1)=false)/\Loop f1 ((0,0,()),ref,())=aa (1,((i:Int),(i:Int),()),ref,())) \/ ((∀(i:Nat) x,l[i]?=aa x->decide (ref∈x.2.1)=false)/\Loop f1 ((0,0,()),ref,())=aa (0,(0,len l,()),ref,())):=by
  intro f1 p;subst p;exact eR l (λi=>((0,i,()),_)) _ _ _ c.1 (λi x a b e=>by unfold pN;rw[aq b,aj,au a,ab,EE x.2.1 ref (c.2 x<|kG a),ab,di,e];by_cases h:ref∈x.2.1<;>simp[h]) (by unfold pN;rw[aw];rfl)
 rcases eR (f:=pM (l,_)) l (λi=>((0,i,()),ref,())) (λ_ x=>decide (x.1=ref)) (λi x=>(1,(i,i,()),ref,())) _ c.1 (λi x a b e=>by unfold pM;rw[aq b,aj,au a,ab,di,e];by_cases h:x.1=ref<;>simp[bA,h]) (by unfold pM;rw[aw];rfl) with ⟨i,x,a,g,o,h⟩|⟨k,h⟩
 .rw[h,ab];dsimp only;rw[show cF 1 0=false from rfl,ag,bL ai,aj];unfold aS;rw[aN ⟨x,kG a,gb g⟩]
 rw[h,ab,show cF 0 0=true from rfl,aj,show cm 0 (-1)=false from rfl,ag];have m:¬∃x∈l,x.1=ref:=by rintro⟨x,a,q⟩;obtain⟨i,b⟩:=bp.1 a;have:=k i x b;simp[q] at this
 unfold aS;rw[aK m];rcases mid rfl with ⟨i,x,a,g,o,h⟩|⟨k,h⟩;{(rw[h,ab];dsimp only;rw[show cF 1 0=false from rfl,ag,bL ai,aj,au a,ab];have:l.find? (λx=>decide (ref∈x.2.1))=aa x:=by rw[ahw];refine⟨g,i,aA a,?_,λj n=>?_⟩;{have:=gQ (aA a);rw[a] at this;exact(aU this).symm};have r:=aA a;have:=o j l[j] n (gQ ai);simpa using this);rw[this]};(rw[h,ab, acR l ref d _ rfl];have:l.find? (λx=>decide (ref∈x.2.1))=none:=by rw[Pf];intro x a;obtain⟨i,b⟩:=bp.1 a;have:=k i x b;simpa using this);rw[this];exact W9 ref _
def idN(n:Int):Tx:=uT (br [kg .u8<|jv .i64 n 16,kg .u8 (jv .i64 n 8),kg .u8 n])
def idK(d:Int)(k:Nat):Tx:=idN (fX (aC .i64 (gT .i64 d 16777215) (k:Int)) 16777216)
def BG(s:Tx):Prop:=(nP s).isSome=true/\s.length=6
def oZ(s:Tx)(a:s.length<=1048576):∃b,gr (s,())=aa (b,())/\(b=true↔BG s):=by
 unfold gr;rw[JI s a,ab];have e6:aR (@len UInt8 s) 6=decide (s.length=6):=by unfold len;apply fk.2;omega
 rw[e6];unfold BG ans;cases nP s with|none=>simp[ao]|some x=>simp[ao]
def Tz n:zU (n,())=aa (idN n,()):=by unfold zU;rw[ WZ _ (by show 3<=1048576;omega)];rfl
def an0 n:BG (idN n):=by have h:∀a b c,(nP<|uT [a,b,c]).isSome=true/\(uT [a,b,c]).length=6:=λa b c=>⟨by rw[F0];rfl,rfl⟩;apply h
def BH(l:List Nm)(d:Int)(k:Nat):Bool:=decide (∀x∈l,x.1≠idK d k)
def cO(l:List Nm)(d:Int):Tx×Int×al:=if 32<=l.length then([],5,()) else match(List.range<|l.length+1).find? (BH l d) with|some k=>(idK d k,0,())|none=>([],5,())
def af4(l:List Nm) d (s:Tx) (k:l.length<=1000000) :
  (∃i:Nat,Loop (gN (l,d,())) (((0:Int),(0:Int),()),s,())=aa (1,((i:Int),(i:Int),()),s,())/\∃x∈l,x.1=s) \/ (Loop (gN (l,d,())) ((0,0,()),s,())=aa (0,(0,len l,()),s,())/\∀x∈l,x.1≠s):=by
 rcases eR (f:=gN (l,_)) l (λi=>((0,i,()),s,())) (λ_ x=>decide (x.1=s)) (λi x=>(1,(i,i,()),s,())) _ ai (λi x a b c=>by unfold gN;rw[aq b,aj,au a,ab,di,c];by_cases h:x.1=s<;>simp[bA,h]) (by unfold gN;rw[aw];rfl) with ⟨i,x,a,e,m,h⟩|⟨g,h⟩
 .exact .inl ⟨i,h,x,kG a,gb e⟩
 .refine .inr ⟨h,λx a j=>?_⟩;obtain⟨i,b⟩:=bp.1 a;have:=g i x b;simp[j] at this
def Lo(l:List Nm) d:iV (l,d,())=aa (cO l d):=by
 unfold iV cO;have e:cm 32 (len l)=decide (32<=l.length):=by unfold len;apply fk.2;omega
 rw[e];by_cases a:32<=l.length
 .rw[cT a,aN a];rfl
 rw[cj a,aK a];have n:aC .i64 (len l) 1=((l.length+1):Int):=by rw[eh ep ep];unfold len;omega
 have hlen:(List.range _).length=l.length+1:=L9;have key:∀k,k<l.length+1->nZ (l,_) ((([]),0,k,()),())=aa (if BH l d k=true then .inr _ else .inl _):=λk b=>by unfold nZ;dsimp only;rw[ aT ai,Tz,(aJ ai)];show ae _ _=_;rcases af4 l d _ ai with ⟨i,h,x,c,p⟩|⟨h,f⟩;{rw[h,ab];dsimp only;rw[show cF 1 0=false from rfl,ag,bL ai,aM,ag,aK (by unfold BH;rw[Pe];exact λq=>q x c p)]};rw[h,ab, aN (by unfold BH;rw[Pe];exact f)];rfl
 rcases eR (List.range<|l.length+1) (λk=>((([]),0,k,()),())) _ _ _ ai (λk x c o t=>key k (by rw[hlen] at o;exact o)) (by unfold nZ;dsimp only;rw[ aF ai,ag]) with ⟨k,x,c,r,s,h⟩|⟨f,h⟩
 .have b:=aA c;rw[hlen] at b;rw[h];have g:(List.range<|l.length+1).find? (BH l d)=aa k:=by rw[ahw];refine⟨r,k,by rw[hlen];exact b,aW,λj m=>?_⟩;have:=s j j m (by rw[SL ai]);simpa using this
  rw[g];rfl
 rw[h];have g:(List.range<|l.length+1).find? (BH l d)=none:=by rw[Pf];intro k b;have:=f k k (by rw[SL<|Iz.1 b]);simpa using this
 rw[g];rfl
def yU{l d}(h:(cO l d).2.1=0):l.length<32/\BG (cO l d).1/\∀x∈l,x.1≠(cO l d).1:=by
 unfold cO at h⊢;by_cases a:32<=l.length
 {rw[aN a] at h;cases h};rw[aK a] at h⊢;cases b:(List.range _).find? _ with|none=>rw[b] at h;cases h|some k =>have:=Pn b;exact⟨ai,an0 _,gb this⟩
def an1 d:∃m:Nat,m<16777216/\gT .i64 d 16777215=m:=by
 refine⟨(BitVec.ofInt IntKind.i64.bits d &&& BitVec.ofInt IntKind.i64.bits 16777215).toNat,?_,?_⟩
 .rw[BitVec.toNat_and];exact Nat.lt_succ_of_le Nat.and_le_right
 unfold gT;have h:(BitVec.ofInt IntKind.i64.bits d &&& BitVec.ofInt IntKind.i64.bits 16777215).toNat<16777216:=by exact Nat.lt_succ_of_le Nat.and_le_right
 exact xT ai ai
def ank d:∃m,∀k:Nat,k<=64->fX (aC .i64 (gT .i64 d 16777215) k) 16777216=(((m+k) % 16777216:Nat):Int):=by obtain⟨m,a,e⟩:=an1 d;refine⟨m,λk b=>?_⟩;rw[e,eh ai ai];exact ub _ 16777216
def ZW(n:Nat):Nat->Tx|0=>[]|k+1=>hx (n / 16 ^ k % 16)::ZW n k
def ajy n k:(ZW n k).length=k:=by induction k with|zero=>rfl|succ k a=>simp only[ZW,iG,a]
def ajz{i:Nat}(h:i<16):sub Tq i (minus ((i+1:Nat):Int) i)=[hx i]:=by have a:Tq.length=16:=rfl;refine sub_one ?_;unfold hx;rw[amV,gQ ai];rfl
def af5(n:Nat)(g:n<16777216):Cx (n,())=aa (ZW n 6,()):=by
 unfold Cx;have key:=cp (f:=vE) 6 (λk=>((((n / 16 ^ k:Nat):Int),ZW n k,k,()),())) (λk h=>by
  unfold vE;dsimp only;have a:fX ((n / 16 ^ k:Nat):Int) 16=_:=ub _ 16;have b:n / 16 ^ k<=n:=Nat.div_le_self _ _;have c:KB .i64 ((n / 16 ^ k:Nat):Int) 16=((n / 16 ^ (k+1):Nat):Int):=by (rw[Nat.pow_succ,<-Nat.div_div_eq_div_mul];generalize n / 16 ^ k=q at b;have e:(q:Int).tdiv 16=((q / 16:Nat):Int):=by rw[Int.tdiv_eq_ediv_of_nonneg ai];omega);exact xT ai ai
  rw[a,c,aJ ai,aJ ai,aT ai];have d:([48,49,50,51,52,53,54,55,56,57,97,98,99,100,101,102])=Tq:=rfl;rw[d,ajz (D7 _ aI),aV ai ai (by show _<=16;omega),aP (by rw[ajy];simp;omega)];rfl) (by
  unfold vE;dsimp only;rfl)
 rw[show((n:Int),_)=((((n / 16 ^ 0:Nat):Int),ZW n 0,((0:Nat):Int),()):Int×Tx×Int×al) from by rw[ Nat.div_one];rfl,key,ab]
def BI(n k:Nat)(a:k<=60):jv .i64 n k=((n / 2 ^ k:Nat):Int):=by
 unfold jv;rw[show min _ IntKind.i64.bits=k from by show min k 64=k;omega,amT _ (by exact Int.le_of_lt<|Int.pow_pos aI)]
 norm_cast
def Xa(m:Nat):(UInt8.ofNat (kg .u8 m).toNat).toNat=m % 256:=by rw[anQ,show((m:Int) % 256).toNat=m % 256 by omega];simp
def alH(n:Nat)(a:n<16777216):idN n=ZW n 6:=by
 unfold idN;rw[show jv .i64 n 16=_ from BI n 16 aI,show jv .i64 n 8=_ from BI n 8 aI];simp only[br,Pp,List.map_nil,uT,Xa,ZW];rw[show n / 2 ^ 16 % 256 / 16=n / 16 ^ 5 % 16 by omega,show n / 2 ^ 16 % 256 % 16=n / 16 ^ 4 % 16 by omega,show n / 2 ^ 8 % 256 / 16=n / 16 ^ 3 % 16 by omega,show n / 2 ^ 8 % 256 % 16=n / 16 ^ 2 % 16 by omega,
  show n % 256 / 16=n / 16 ^ 1 % 16 by omega,show n % 256 % 16=n / 16 ^ 0 % 16 by omega]
def alI{n m:Nat}(f:n<16777216)(g:m<16777216)(h:idN n=idN m):n=m:=by
 unfold idN at h;have e:=congrArg nP h;rw[F0,F0] at e;have d:=aU e;rw[show jv .i64 n 16=_ from BI n 16 aI,show jv .i64 n 8=_ from BI n 8 aI,show jv .i64 m 16=_ from BI m 16 aI,show jv .i64 m 8=_ from BI m 8 aI] at d
 simp only[br,Pp,List.cons.injEq,and_true] at d;obtain⟨a,b,c⟩:=d;have a:=congrArg UInt8.toNat a;have b:=congrArg UInt8.toNat b;have c:=congrArg UInt8.toNat c;rw[Xa,Xa] at a b c;omega
def MF(l:List Nm)(s:Tx):Bool:=l.any λy=>decide (y.1=s)
def ajA(l:List Nm) d (s:Tx) (b:l.length<=1000000) :
  Loop (lJ (l,d,()) (s,())) ((false,0,()),())=aa ((MF l s,((l.length:Nat):Int),()),()):=by
 have key:=cp (f:=lJ (l,d,()) (s,())) l.length (λk=>((MF (l.take k) s,k,()),())) (λk a=>by
  have hx:=gQ a;unfold lJ;rw[aq a,au hx,aJ ai];have e:MF (l.take<|k+1) s=(MF (l.take k) s||decide (l[k].1=s)):=by unfold MF;rw[yn,hx,List.any_append];simp
  rw[e];cases MF _ s with|true=>rfl|false=>rfl) (by
  unfold lJ;rw[aw,Ao];rfl)
 exact key
def acS l d (h:l.length<32):∃k,k<l.length+1/\BH l d k=true:=by
 apply nF;intro g;obtain⟨m,p⟩:=ank d;have c:∀k,k<=64->idK d k=idN _:=λk i=>by unfold idK;rw[p k i]
 have e:(List.range<|l.length+1).map (idK d) ⊆ l.map (·.1):=by intro x r;obtain⟨k,i,rfl⟩:=Bc.1 r;have j:=λq=>g ⟨k,(Iz.1 i),q⟩;unfold BH at j;rw[Pe] at j;apply nF;intro s;exact j λy t f=>s (Bc.2 ⟨y,t,f⟩)
 have n:((List.range<|l.length+1).map<|idK d).Nodup:=by unfold List.Nodup;rw[Uu];refine List.Pairwise.imp_of_mem (λ{a b} v o u f=>?_) (List.pairwise_lt_range);have o:=Iz.1 o;rw[c a ai,c b ai] at f;have:=alI (D7 _ aI) (D7 _ aI) f;omega
 have hlen:=n.length_le_of_subset e;rw[qg,L9,qg] at hlen;omega
def CM(l:List Nm) d (p:l.length<=1000000):nq (l,d,())=aa (cO l d):=by
 unfold nq cO;have f:cm 32 (len l)=decide (32<=l.length):=by unfold len;apply fk.2;omega
 rw[f];by_cases a:32<=l.length
 .rw[cT a,aN a];rfl
 rw[cj a,aK a];obtain⟨m,i⟩:=ank d;have key:∀k:Nat,k<=32->p6 (l,d,()) ((([]),0,k,()),())=aa (if BH l d k=true then .inr _ else .inl _):=λk q=>by
  unfold p6;dsimp only;rw[bL ai,i k ai,af5 _ (D7 _ aI),ab,<-alH _ (D7 _ aI),<-i k ai,ajA l d _ p,ab,aJ ai];have e:nt (MF l<|idN<|fX (aC .i64 (gT .i64 d 16777215) k) 16777216)=BH l d k:=by unfold BH idK nt MF;rw[Iy];simp
  rw[e];cases BH l d k<;>rfl
 obtain⟨b,r,c⟩:=acS l d ai;rcases eR (List.range 33) (λk=>((([]),0,k,()),())) _ _ _ aI (λk x n s y=>key k (by rw[L9] at s;omega)) (by unfold p6;dsimp only;rw[L9,cN ai,ag]) with ⟨k,x,n,t,o,h⟩|⟨u,h⟩
 .have q:=aA n;rw[h];have v:k<=b:=by apply nF;intro z;have:=o b b ai (by rw[SL ai]);rw[c] at this;cases this
  have w:(List.range<|l.length+1).find? (BH l d)=aa k:=by rw[ahw];refine⟨t,k,by rw[L9];omega,aW,λj g=>?_⟩;have:=o j j g (by rw[SL ai]);simpa using this
  rw[w];rfl
 have:=u b b (by rw[SL ai]);rw[c] at this;cases this
abbrev It:=Tx×Tx×Tx×al
def sO(l:List It)(p:Tx):Option Nat:=l.findIdx? λx=>decide (x.1=p)
def af6{l p i x}(a:l[i]?=aa x)(c:x.1=p)(d:∀j y,j<i->l[j]?=aa y->y.1≠p):sO l p=aa i:=by
 unfold sO;rw[XZ];have hi:=aA a;refine⟨hi,?_,λj b=>?_⟩
 {rw[gQ hi] at a;rw[aU a];simpa using c};have:=d j l[j] b (gQ ai);simpa using this
def af7{l p}(h:∀(i:Nat) x,l[i]?=aa x->x.1≠p):sO l p=none:=by unfold sO;rw[adG];intro x a;obtain⟨i,b⟩:=bp.1 a;simpa using h i x b
def H3(l:List It)(p:Tx):Tx×Int:=match l.find? λx=>decide (x.1=p) with|some x=>(x.2.2.1,0)|none=>([],3)
def U7{l p}{i:Nat}{x}(a:l[i]?=aa x)(c:x.1=p)(d:∀j y,j<i->l[j]?=aa y->y.1≠p):H3 l p=(x.2.2.1,0):=by
 unfold H3;have hi:=aA a;have:l.find? (λx=>decide (x.1=p))=aa x:=by rw[ahw];refine⟨by simpa using c,i,hi,?_,λj b=>?_⟩;{rw[gQ hi] at a;exact aU a};have:=d j l[j] b (gQ ai);simpa using this
 rw[this]
def U8{l p}(h:∀(i:Nat) x,l[i]?=aa x->x.1≠p):H3 l p=([],3):=by
 unfold H3;have:l.find? (λx=>decide (x.1=p))=none:=by rw[Pf];intro x a;obtain⟨i,b⟩:=bp.1 a;simpa using h i x b
 rw[this]
def Lq{c:Type}[DecidableEq c]{a b:c}(h:decide (a=b)=false):a≠b:=by simpa using h
def MG(l:List It)(p:Tx)(n:l.length<=100000):lF (l,p,())=aa ((H3 l p).1,(H3 l p).2,()):=by
 unfold lF;rcases eR (f:=kV (l,_)) l (λi=>(((0,i,()),(),p,()))) (λ_ x=>decide _) _ _ ai (λi x a d b=>by
  unfold kV b7;rw[aq d,au a,ab,ab,b,tZ];cases decide (x.1=p)<;>rfl) (by
  unfold kV;rw[aw,ag]) with ⟨i,x,a,e,g,h⟩|⟨k,h⟩
 {rw[h,ab];dsimp only;rw[show cF 1 0=false from rfl,ag,aF ai,ag,au a,ab,U7 a (gb e) λj y c m=>Lq (g j y c m)]};rw[h,ab,show cF 0 0=true from rfl,aj,aT aI,aj,U8 λi x a=>Lq (k i x a)]
def EO(l:List It)(p:Tx)(n:l.length<=100000):rB (l,p,())=aa ((H3 l p).1,(H3 l p).2,()):=by
 unfold rB;rcases eR (f:=mn (l,p,())) l (λi=>((([]:Tx),(0:Int),i,()),())) (λ_ x=>decide (x.1=p)) (λi x=>(1,(x.2.2.1,(0:Int),(i:Int),()),())) (0,(([]:Tx),(0:Int),(l.length:Int),()),()) ai (λi x a d b=>by
  unfold mn;dsimp only;rw[aq d,aj,au a,ab,ab,b,tZ];cases decide (x.1=p)<;>rfl) (by
  unfold mn;dsimp only;rw[aw,ag]) with ⟨i,x,a,e,g,h⟩|⟨k,h⟩
 {rw[h,ab];dsimp only;rw[show cF 1 0=false from rfl,ag,U7 a (gb e) λj y c m=>Lq (g j y c m)]};rw[h,ab];dsimp only;rw[show cF 0 0=true from rfl,aj,U8 λi x a=>Lq (k i x a)]
def Q2(l:List It)(e:l.length<=100000):gO (l,l,())=aa (true,()):=by
 unfold gO;rw[ay rfl];rcases eR (f:=jX (l,l,())) l (λi=>((false,i,()),())) (λ_ _=>false) (λi _=>(1,(false,i,()),())) _ ai (λi x a b c=>by unfold jX;rw[aq b,au a,ab,ab,cc rfl,cc rfl,cc rfl,c];rfl) (by unfold jX;rw[aw,ag,ag]) with ⟨i,x,_,d,_⟩|⟨g,h⟩
 {cases d};rw[h];rfl
def OS(l:List It)(p:Tx):List It:=match sO l p with|some i=>l.take i++l.drop (i+1)|none=>l
def Gy(l:List It)(x:It):List It:=l.takeWhile (λy=>dK y.1 x.1)++[x]++l.dropWhile (λy=>dK y.1 x.1)
def jy(l:List It)(p d:Tx):List It×Int :=if fh p=true/\d.length<=64 then(if sO l p=af/\4<=l.length then([],5) else(Gy (OS l p) (p,ql d,d,()),0)) else([],1)
def aeF l p:(OS l p).length<=l.length:=by
 unfold OS;split
 {rw[gR,cY,qo];omega};apply b8
def ajB{l:List It}{p:Tx}{k}(e:k<=l.length)(c:∀j y,j<k->l[j]?=aa y->dK y.1 p=true)(d:∀y,l[k]?=aa y->dK y.1 p=false) :
  l.takeWhile (λy=>dK y.1 p)=l.take k/\l.dropWhile (λy=>dK y.1 p)=l.drop k:=by
 induction l generalizing k with|nil=>simp|cons a r f =>cases k with|zero =>have:=d a rfl;simp[ this]|succ k =>obtain⟨g,h⟩:=f (by simpa using e) (λj y i b=>c (j+1) y ai (by simpa using b)) (λy b=>d y (by simpa using b));simp only[Pm,X2,(c 0 a ai rfl),zx,adN,List.drop_succ_cons,g,h];exact⟨trivial,trivial⟩
abbrev KS:=(Int×Int×al)×al×Tx×al
abbrev PS':=(Int×Int×al)×al×It×al
def Q3(l:List It)(p:Tx):Nat×(Int×Int×al)×al×Tx×al:=match sO l p with|some i=>(1,((i:Int),(i:Int),()),(),p,())|none=>(0,((0:Int),(l.length:Int),()),(),p,())
def gk(m:List It)(p:Tx):Nat:=(m.takeWhile λy=>dK y.1 p).length
def ZX(m:List It)(a:It):Nat×(Int×Int×al)×al×It×al:=if gk m a.1<m.length then(1,((gk m a.1:Int),(gk m a.1:Int),()),(),a,()) else(0,((0:Int),(m.length:Int),()),(),a,())
def Xb{f:KS->Option (KS⊕(Nat×KS))} l p (n:l.length<=100000)
  (c:∀(i:Nat) x,l[i]?=aa x->f ((0,i,()),(),p,())=aa (if decide (x.1=p)=true then .inr (1,(i,i,()),(),p,()) else .inl ((0,((i+1:Nat):Int),()),(),p,()))) (d:f ((0,(l.length:Int),()),(),p,())=aa (.inr (0,(0,(l.length:Int),()),(),p,()))) : Loop f ((0,0,()),(),p,())=aa (Q3 l p):=by
 unfold Q3;rcases eR l (λi=>(((0,i,()),_))) _ _ _ ai (λi x hx hi b=>c i x hx) d with ⟨i,x,hx,e,g,h⟩|⟨k,h⟩
 .rw[h,af6 hx (gb e) λj y a m=>Lq (g j y a m)]
 .rw[h,af7 λi x hx=>Lq (k i x hx)]
def xZ{m}{p:Tx}{k}(a:k<=m.length)(b:∀j y,j<k->m[j]?=aa y->dK y.1 p=true)(c:∀y,m[k]?=aa y->dK y.1 p=false):gk m p=k:=by unfold gk;rw[(ajB a b c).1,cY];omega
def OT{f:PS'->Option (PS'⊕(Nat×PS'))} m it (q:m.length<=100000)
  (l:∀(i:Nat) x,m[i]?=aa x->f ((0,i,()),(),it,())=aa (if nt (dK x.1 it.1)=true then .inr (1,(i,i,()),(),it,()) else .inl ((0,((i+1:Nat):Int),()),(),it,()))) (n:f ((0,(m.length:Int),()),(),it,())=aa (.inr (0,(0,(m.length:Int),()),(),it,()))) : Loop f ((0,0,()),(),it,())=aa (ZX m it):=by
 unfold ZX;have a:∀{x:It},nt (dK x.1 it.1)=false->dK x.1 it.1=true:=λ{x} h=>by cases d:dK x.1 it.1 with|true=>rfl|false=>rw[d] at h;cases h
 rcases eR m (λi=>(((0,i,()),_))) _ _ _ ai (λi x hx hi g=>l i x hx) n with ⟨i,x,hx,k,o,h⟩|⟨p,h⟩
 .have hi:=aA hx;have e:=xZ ai (λj y c b=>a (o j y c b)) (λy b=>by rw[hx] at b;obtain rfl:=aU b;cases d:dK x.1 it.1 with|false=>rfl|true=>rw[d] at k;cases k)
  grind
 .have e:=xZ (b8 _) (λj y c b=>a (p j y b)) (λy b=>by rw[SK<|b8 _] at b;cases b)
  grind
def af8 m it (a:m.length<=100000):vX m ((gk m it.1:Nat):Int) [it]=aa (Gy m it):=by
 have b:gk m it.1<=m.length:=by unfold gk;have:=congrArg List.length (Al (p:=λy:It=>dK y.1 it.1) (l:=m));grind
 unfold vX Gy;rw[show inside 0 _ _=true from aV aI ai ep,aP dW];have e:=Al (p:=λy=>dK y.1 it.1) (l:=m);have c:m.take (gk m it.1)=m.takeWhile (λy=>dK y.1 it.1):=by unfold gk;grind
 grind
def ajC m it (g:m.length<=100000) {f:PS'->Option (PS'⊕(Nat×PS'))} (h:Loop f ((0,0,()),(),it,())=aa (ZX m it)) :
  (ae (Loop f ((0,0,()),(),it,())) λ(a:Nat×(Int×Int×al)×al×(bj×bj×bj×al)×al)=>ao (cF a.1 0)
 (ae (aQ m (((ao (ba (-1:Int) 0)
 ((@len (bj×bj×bj×al) m,()),()) (((-1:Int),()),())).1).1,([a.2.2.2.1]:List (bj×bj×bj×al)),())) λ(b:List (bj×bj×bj×al))=>aa (b,(0:Int),()))
 (ae (aQ m (((ao (ba a.2.1.1 0)
 ((@len (bj×bj×bj×al) m,()),()) ((a.2.1.1,()),())).1).1,([a.2.2.2.1]:List (bj×bj×bj×al)),())) λ(b:List (bj×bj×bj×al))=>aa (b,0,())))=aa (Gy m it,0,()):=by
 rw[h,ab];unfold ZX aQ;have d:=af8 m it g;by_cases e:gk m it.1<m.length
 .rw[aN e];dsimp only;rw[show cF 1 0=false from rfl,ag,aF ai,ag,d,ab]
 .rw[aK e];have c:gk m it.1=m.length:=by
   (have:gk m it.1<=m.length:=by unfold gk;have:=congrArg List.length (Al (p:=λy=>dK y.1 it.1) (l:=m));grind);omega
  rw[show cF 0 0=true from rfl,aj,aT aI,aj,bG,<-c,d,ab]
def anl l p d g (h:l.length<=100000) {j:KS->Option (KS⊕(Nat×KS))} {k n:(al×al)×(List It)×al->PS'->Option (PS'⊕(Nat×PS'))}
  (q:Loop j ((0,0,()),(),p,())=aa (Q3 l p)) (r:∀m e,m.length<=100000->Loop (k (((),()),m,())) ((0,0,()),(),e,())=aa (ZX m e)) (s:∀m e,m.length<=100000->Loop (n (((),()),m,())) ((0,0,()),(),e,())=aa (ZX m e)) : (ao (fits<|@len (bj×bj×bj×al) l)
 (ae (Loop j ((0,0,()),(),p,())) λ(f:Nat×(Int×Int×al)×al×bj×al)=>ao (cF f.1 0)
 (ae (ao (cm 0 (-1:Int))
 (ae (bE l ((-1:Int),aC i64 (-1:Int) 1,())) λ(a:List (bj×bj×bj×al))=>aa (((),()),a,())) (aa (((),()),l,()))) λ(a:(al×al)×(List<|bj×bj×bj×al)×al)=>ae (Loop (k a) ((0,0,()),(),(p,g,d,()),())) λ(b:Nat×(Int×Int×al)×al×(bj×bj×bj×al)×al)=>ao (cF b.1 (0:Nat))
 (ae (aQ a.2.1 (((ao (ba (-1:Int) (0:Int))
 ((@len (bj×bj×bj×al) a.2.1,()),()) (((-1:Int),()),())).1).1,([b.2.2.2.1]:List (bj×bj×bj×al)),())) λ(c:List (bj×bj×bj×al))=>aa (c,(0:Int),()))
 (ae (aQ a.2.1 (((ao (ba b.2.1.1 (0:Int))
 ((@len (bj×bj×bj×al) a.2.1,()),()) ((b.2.1.1,()),())).1).1,([b.2.2.2.1]:List (bj×bj×bj×al)),())) λ(c:List (bj×bj×bj×al))=>aa (c,(0:Int),())))
 (ae (ao (cm 0 f.2.1.1)
 (ae (bE l (f.2.1.1,aC i64 f.2.1.1 1,())) λ(a:List (bj×bj×bj×al))=>aa (((),()),a,())) (aa (((),()),l,()))) λa=>ae (Loop (n a) ((0,0,()),(),(p,g,d,()),())) λ(b:Nat×(Int×Int×al)×al×(bj×bj×bj×al)×al)=>ao (cF b.1 0)
 (ae (aQ a.2.1 (((ao (ba (-1:Int) 0)
 ((@len (bj×bj×bj×al) a.2.1,()),()) (((-1:Int),()),())).1).1,([b.2.2.2.1]:List (bj×bj×bj×al)),())) λ(c:List (bj×bj×bj×al))=>aa (c,(0:Int),()))
 (ae (aQ a.2.1 (((ao (ba b.2.1.1 0)
 ((@len (bj×bj×bj×al) a.2.1,()),()) ((b.2.1.1,()),())).1).1,([b.2.2.2.1]:List (bj×bj×bj×al)),())) λ(c:List (bj×bj×bj×al))=>aa (c,0,()))))
 af)=aa (Gy (OS l p) (p,g,d,()),0,()):=by
 rw[ej ai,q,ab];unfold Q3 OS bE;cases o:sO l p with|none =>exact ajC l _ h (r l _ h)|some i =>(have hi:i<l.length:=by unfold sO at o;rw[XZ] at o;grind);(have hlen:(l.take i++l.drop (i+1)).length<=100000:=by rw[gR,cY,qo];omega);rw[ aJ ai];unfold K0;rw[jf ai ai];exact ajC _ _ hlen (s _ _ hlen)
def aeG{l p i}(h:sO l p=aa i):i<l.length:=by unfold sO at h;rw[XZ] at h;grind
def MH(l:List It)(p d:Tx)(f:l.length<=100000)(o:d.length<=1048576):lE (l,p,d,())=aa ((jy l p d).1,(jy l p d).2,()):=by
 have q:Loop (kO (l,p,d,())) _=aa (Q3 l p):=Xb l p f (λi x b=>by have hi:=aA b;unfold kO b7;rw[aq hi,aj,au b,ab,ab,aJ ai,tZ];cases decide (x.1=p)<;>rfl) (by unfold kO;rw[aw,ag])
 have r:Loop (kP (l,p,d,())) _=aa (Q3 l p):=Xb l p f (λi x b=>by have hi:=aA b;unfold kP b7;rw[aq hi,aj,au b,ab,ab,aJ ai,tZ];cases decide (x.1=p)<;>rfl) (by unfold kP;rw[aw,ag])
 have s:Loop (kS (l,p,d,())) _=aa (Q3 l p):=Xb l p f (λi x b=>by have hi:=aA b;unfold kS b7;rw[aq hi,aj,au b,ab,ab,aJ ai,tZ];cases decide (x.1=p)<;>rfl) (by unfold kS;rw[aw,ag])
 have t:∀m _,m.length<=100000->Loop (kQ (((),()),m,())) _=aa _:=λm a c=>OT m a c (λi x b=>by have hi:=aA b;unfold kQ b7;rw[aq hi,aj,aO ai (show(i:Int)<len m by unfold len;omega),aj,au b,ab,ab,ab,aJ ai];cases nt _<;>rfl) (by unfold kQ;rw[aw,ag])
 have u:∀m a,m.length<=100000->Loop (kR (((),()),m,())) _=aa (ZX m a):=λm a c=>OT m a c (λi x b=>by have hi:=aA b;unfold kR b7;rw[aq hi,aj,aO ai (show(i:Int)<len m by unfold len;omega),aj,au b,ab,ab,ab,aJ ai];cases nt (dK x.1 a.1)<;>rfl) (by unfold kR;rw[aw,ag])
 have v:∀m a,m.length<=100000->Loop (kT (((),()),m,())) _=aa (ZX m a):=λm a c=>OT m a c (λi x b=>by have hi:=aA b;unfold kT b7;rw[aq hi,aj,aO ai (show(i:Int)<len m by unfold len;omega),aj,au b,ab,ab,ab,aJ ai];cases nt (dK x.1 a.1)<;>rfl) (by unfold kT;rw[aw,ag])
 have w:∀m a,m.length<=100000->Loop (kU (((),()),m,())) _=aa _:=λm a c=>OT m a c (λi x b=>by have hi:=aA b;unfold kU b7;rw[aq hi,aO ai (show i<len m by unfold len;omega),au b,ab,ab,ab,aJ ai];cases nt _<;>rfl) (by unfold kU;rw[aw,ag])
 unfold lE jy;rw[JE,ab];have j:ba 64 (len d)=decide (64<d.length):=by unfold len;apply fk.2;omega
 have k:cm 4 (len l)=decide (4<=l.length):=by unfold len;apply fk.2;omega
 rw[j];by_cases hv:fh p=true/\d.length<=64
 .rw[aN hv,hv.1,cj ai,show ao (ao _ false true)=ao false from rfl,ag,q,ab,ajr d o];cases n:sO l p with|none =>(have e:Q3 l p=(0,(0,(l.length:Int),()),(),p,()):=by unfold Q3;rw[n]);rw[e,show cF 0 0=true from rfl,aj,aT aI,aj,k];by_cases g:4<=l.length;{rw[cT g,aj,aN ⟨rfl,g⟩]};rw[cj g,aK λh=>g h.2];exact anl l p d _ f r (λm a c=>t m a c) (λm a c=>u m a c)|some i =>(have e:Q3 l p=(1,((i:Int),(i:Int),()),(),p,()):=by unfold Q3;rw[n]);rw[e];exact anl l p d _ f s (λm a c=>v m a c) (λm a c=>w m a c)
 rw[aK hv];have:ao (ao (nt<|nt<|fh p) (decide<|64<d.length) true)=ao (α:=Option (List It×Int×al)) true:=by cases z:fh p with|false=>rfl|true =>by_cases y:d.length<=64;{grind};rw[cT ai];rfl
 rw[this,aj]
def an2(l:List It)(p d:Tx)(g:l.length<=100000):Loop (iW (l,p,d,())) (((-1:Int),cR .i64 (len l) 1,()),())=aa (((match sO l p with|some i=>(i:Int)|none=>-1),(-1:Int),()),()):=by
 have key:∀n k,n<=l.length->(k=match(sO (l.drop n) p) with|some i=>((n+i:Nat):Int)|none=>-1) ->
   Loop (iW (l,p,d,())) ((k,n-1,()),())=aa (((match sO l p with|some i=>i|none=>-1),(-1),()),()):=by
  intro n;induction n with|zero =>intro k c b;rw[aZ];unfold iW;dsimp only;rw[b];simp;rfl|succ n f =>intro k c b;rw[aZ];unfold iW;dsimp only;have e:((n+1:Nat):Int)-1=n:=ai;rw[e,au (gQ ai),dc ai ai];refine(f _ ai ?_);rw[(zm ai)];unfold sO;rw[List.findIdx?_cons];by_cases a:l[n].1=p;{rw[cc a,aj,cT a];simp};rw[bg a,cj a,b];unfold sO;cases List.findIdx? _ _ with|none=>rfl|some i=>exact congrArg _ (show n+1+i=n+(i+1) by omega)
 rw[dc ep ep];exact(key l.length (-1) (b8 _)<|by rw[Ix];rfl)
def af9{a:Type}(m:List a) x {k} (h:m.length=k):(m++[x]).take k++(m++[x]).drop (k+1)=m.take k++m.drop (k+1):=by subst h;simp
def aga{c:Type}(m:List c) x {k} (h:m.length≠k):(m++[x]).take k++(m++[x]).drop (k+1)=m.take k++m.drop (k+1)++[x]:=by
 rw[List.take_append,List.drop_append];by_cases f:k<m.length
 {have a:k-m.length=0:=ai;have b:k+1-m.length=0:=ai;rw[a,b];simp};obtain⟨d,e⟩:∃d,k=m.length+1+d:=⟨k-m.length-1,ai⟩;subst e;have a:m.length+1+d-m.length=d+1:=ai;have b:m.length+1+d+1-m.length=d+2:=ai;rw[a,b,Iu ai];simp
def apz l (p d:Tx) (s:l.length<=100000) q (h:q=match sO l p with|some i=>i|none=>-1) :
  Loop (iX (l,p,d,()) ((q,(-1:Int),()),())) (((),0,()),([]:List It),())=aa (((),(l.length:Int),()),OS l p,()):=by
 obtain⟨t,j,m,u⟩:=sz (f:=iX (l,_) ((q,_),())) l (λt i=>(((),i,()),t,())) (λt i x=>if i=q then t else t++[x]) _
  (λt i=>t=(match sO l p with|some k=>(l.take i).take k++(l.take i).drop (k+1)|none=>l.take i)) ai (λt i x c n a g=>by
   (have o:t.length<=l.length:=by rw[g];split;{rw[gR,cY,qo,cY];omega};rw[cY];omega);constructor;{unfold iX;rw[aq n,aj,au c,ab,a];by_cases e:i=q;{rw[ay e,aM,ag,ab,aN e,j8]};rw[ax e,aP dW,aK e];rfl}
   .have b:l.take (i+1)=l.take i++[x]:=by rw[yn,c];rfl
    have r:(l.take i).length=i:=by rw[cY];omega
    rw[g,h];cases v:sO l p with
    | none=>dsimp only;rw[aK ai,b]
    | some k =>dsimp only;rw[b];by_cases e:i=k;{rw[aN ai,af9 _ x ai]};rw[aK ai,aga _ x ai]) (λt _=>by
   unfold iX;rw[aw];rfl) [] (by cases sO l p<;>simp)
 rw[m,j];unfold OS;rw[Ao];all_goals (cases sO l p<;>rfl)
def ajD(l m:List It)(p d:Tx) n (t:m.length<=100000):Loop (iY (l,p,d,()) (((),n,()),m,())) ((0,()),())=aa (((gk m p:Int),()),()):=by
 rcases eR (f:=iY (l,p,_) (((),_),m,())) m (λi=>((i,()),())) (λ_ x=>nt (dK x.1 p)) _ _ ai (λi x g o c=>by
  unfold iY;dsimp only;rw[aq o,aO ai ep,au g,ab,c];cases dK x.1 p<;>rfl) (by
  unfold iY;rw[aw];rfl) with ⟨i,x,g,q,r,h⟩|⟨s,h⟩
 all_goals have a:∀{x:It},nt (dK x.1 p)=false->dK x.1 p=true:=λ{x} h=>by cases k:dK x.1 p with|true=>rfl|false=>rw[k] at h;cases h
 .have o:=aA g;rw[h,xZ ai (λj y e b=>a (r j y e b)) (λy b=>by rw[g] at b;obtain rfl:=aU b;cases k:dK x.1 p with|false=>rfl|true=>rw[k] at q;cases q)]
 rw[h,xZ (b8 _) (λj y e b=>a (s j y b)) λy b=>by
 rw[SK<|b8 _] at b;cases b]
def acT m it:m.take (gk m it.1)++[it]++m.drop (gk m it.1)=Gy m it:=by
 unfold Gy;have e:=Al (p:=λy=>dK y.1 it.1) (l:=m);have a:m.take (gk m it.1)=m.takeWhile (λy=>dK y.1 it.1):=by
  unfold gk;conv=>lhs;rw[<-e]
  rw[adV];rw[e]
 have b:m.drop (gk m it.1)=m.dropWhile (λy=>dK y.1 it.1):=by
  unfold gk;conv=>lhs;rw[<-e]
  rw[ahS];rw[e]
 rw[a,b]
def EP(l:List It)(p d:Tx)(f:l.length<=100000)(j:p.length<=4294967296)(k:d.length<=1048576):rA (l,p,d,())=aa ((jy l p d).1,(jy l p d).2,()):=by
 unfold rA jy;rw[wS p j,ab];have b:ba 64 (len d)=decide (64<d.length):=by unfold len;apply fk.2;omega
 have c:cm 4 (len l)=decide (4<=l.length):=by unfold len;apply fk.2;omega
 rw[b];by_cases hv:fh p=true/\d.length<=64
 .rw[aN hv,hv.1,cj ai,show ao (ao _ false true)=ao false from rfl,ag,an2 l p d f,ab,apz l p d f _ rfl,ab,c];dsimp only;have m:=aeF l p;rw[ajD l _ p d _ ai,ab,F1 d k,ab];have g:gk (OS l p) p<=(OS l p).length:=by unfold gk;have:=congrArg List.length (Al (p:=λy=>dK y.1 p) (l:=OS l p));rw[gR] at this;omega
  rw[fY,je _ _ g];have q:((OS l p).take<|gk (OS l p) p).length<=100000:=by rw[cY];omega
  have n:((OS l p).drop<|gk (OS l p) p).length<=100000:=by rw[qo];omega
  rw[show inside 0 (gk _ p:Int) _=true from aV aI ai ep,aj,aP dW,aj,aP (by simp only[hJ,Gn,iG,qp];omega),aj,show inside (gk _ p:Int) _ _=true from aV ai ep (sK _),aj,aP (by simp only[hJ,gR,iG,qp];omega),aj,show app (app (app [] _) [(p,_)]) _=Gy _ _ from(acT _ _)];cases g:sO l p with|none =>rw[aT aI,aj];by_cases a:4<=l.length;{rw[cT a,aj,aN ⟨rfl,a⟩]};rw[cj a,ag,aK λh=>a h.2]|some i =>rw[aF<|Int.natCast_nonneg i,ag,ag,aK λh=>by cases h.1]
 rw[aK hv];have:ao (ao (nt<|nt<|fh p) (decide<|64<d.length) true)=ao (α:=Option (List It×Int×al)) true:=by cases o:fh p with|false=>rfl|true =>by_cases e:d.length<=64;{exact absurd ⟨o,e⟩ hv};rw[cT ai];rfl
 rw[this,aj]
end Go.Ge
namespace Go.Ge
set_option maxRecDepth 100000
end Go.Ge
namespace Go.Ge
variable [Lp]
def BJ(l:List It):Prop:=l.Pairwise λx y=>dK x.1 y.1=true
def arv(x:It):Prop:=fh x.1=true/\x.2.2.1.length<=64/\x.2.1=ql x.2.2.1
def OkI(l:List It):Prop:=l.length<=4/\BJ l/\∀x∈l,arv x
def Q4{l}:BJ l↔∀i x y,l[i]?=aa x->l[i+1]?=aa y->dK x.1 y.1=true:=by
 constructor
 .intro h i x y b a;unfold BJ at h;rw[D3] at h;obtain⟨c,g⟩:=ga.1 b;obtain⟨e,k⟩:=ga.1 a;have:=h i _ c e ai;rw[g,k] at this;exact this
 intro h;have key:∀d i x y,l[i]?=aa x->l[i+d+1]?=aa y->dK x.1 y.1=true:=by intro d;induction d with|zero=>intro i x y b a;exact h i x y b a|succ d m =>intro i x y b a;have n:=aA a;have f:l[i+d+1]?=aa l[i+d+1]:=gQ ai;exact Bz (m i x _ b f) (h _ _ y f a)
 unfold BJ;rw[D3];intro i j c e o;obtain⟨d,rfl⟩:∃d,j=i+d+1:=⟨j-i-1,ai⟩;exact key d i _ _ (gQ c) (gQ e)
def JP(l:List It)(i:Nat)(x:It):Bool:=match i with|0=>false|k+1=>match l[k]? with|some y=>!dK y.1 x.1|none=>false
def CN{l k x y}(a:l[k]?=aa y):JP l (k+1) x=!dK y.1 x.1:=by unfold JP;simp only[a]
def Lr(l:List It)(i:Nat)(x:It):Bool:=!fh x.1||(decide (64<x.2.2.1.length)||(!decide (x.2.1=ql x.2.2.1)||JP l i x))
def agb(l:List It)(w:l.length<=100000)(m:∀x∈l,x.1.length<=1000000/\x.2.2.1.length<=1000000):∃b,nj (l,())=aa (b,())/\(b=true↔OkI l):=by
 unfold nj;rcases eR (f:=pQ (l,())) l (λi=>((false,i,()),())) (λi x=>Lr l i x) _ _ ai (λi x c e n=>by
  have o:=m x (kG c);have p:ba 64 (len x.2.2.1)=decide (64<x.2.2.1.length):=by unfold len;apply fk.2;omega
  unfold pQ;dsimp only;rw[aq e,au c,ab,wS x.1 ai,ab,n];cases d:fh x.1 with|false=>rw[show Lr l i x=true by unfold Lr;rw[d];rfl];rfl|true =>rw[ ab,p];by_cases a:64<x.2.2.1.length;{rw[show Lr l i x=true by unfold Lr;rw[d,cT a];rfl,cT a];rfl};rw[cj a,ab,ab,F1 x.2.2.1 ai,ab,tZ];by_cases hd:x.2.1=ql x.2.2.1;{(have j:Lr l i x=JP l i x:=by unfold Lr;rw[d,cj a,cT hd];rfl);rw[j,cT hd];cases i with|zero=>rfl|succ k =>have hy:l[k]?=aa l[k]:=gQ ai;rw[CN hy,aT ai,dc ai ai,show((k+1:Nat):Int)-1=k by omega,au hy,ab,ab];cases dK l[k].1 x.1<;>rfl};rw[show Lr l i x=true by unfold Lr;rw[d,cj a,cj hd];rfl,cj hd];rfl) (by
  unfold pQ;rw[aw,ag]) with ⟨i,x,c,g,_,h⟩|⟨d,h⟩
 .rw[h];refine⟨false,rfl,⟨λh=>(by cases h),λ⟨_,q,r⟩=>?_⟩⟩;obtain⟨s,z,t⟩:=r x (kG c);have j:Lr l i x=JP l i x:=by unfold Lr;rw[s,cj ai,cT t];rfl
  rw[j] at g;cases i with|zero=>cases g|succ k =>have e:=aA c;have hy:l[k]?=aa l[k]:=gQ ai;rw[CN hy,Q4.1 q k _ _ hy c] at g;cases g
 rw[h];refine⟨_,rfl,?_⟩;have u:cm (len l) 4=decide (l.length<=4):=by unfold len;apply fk.2;omega
 rw[u,Pe];refine⟨λv=>⟨v,Q4.2 λi x y c hy=>?_,λx c=>?_⟩,λh=>h.1⟩;{have:=d _ y hy;unfold Lr at this;simp only[CN c,Pc] at this;simpa using this.2.2.2};obtain⟨i,e⟩:=bp.1 c;have:=d i x e;unfold Lr at this;simp only[Pc] at this;exact⟨by simpa using this.1,by simp at this;omega,by simpa using this.2.2.1⟩
abbrev uV:=Tx×Int×al
abbrev aL:=List r5×List eE×List bD×List Tx×List uV×al
def zq(l:List Item):Prop:=l.length<=8/\∀x∈l,x.1.length<=100/\x.2.2.1.length<=200
structure arw (b:JF):Prop extends FewB b where
 im:∀x∈b.2.2.1,x.2.2.2.1.length<=200/\zq x.2.2.2.2.1
 bm:∀x∈b.2.2.2.1,x.2.2.2.2.1.length<=200/\zq x.2.2.2.2.2.1
structure alK (s:aL):Prop where
 base:arw (0,s.2.2.1,s.2.1,s.1,())
 ids:∀x∈s.2.2.1,x.1.length<=100/\x.2.1.length<=100
 lays:s.2.2.1.length<=12
 apA:s.2.2.2.1.length<=12
 auq:∀d∈s.2.2.2.1,d.length<=8192
 U9:s.2.2.2.2.1.length<=40
def AL{β c b o}{k:Bool->Option β}(h:o=aa b):ae (ao c o<|some false) k=k (c&&b):=by subst h;cases c<;>rfl
def H4{β c b o}{k:Bool->Option β}(h:o=aa b):ae (ao c o<|some true) k=k (!c||b):=by subst h;cases c<;>rfl
def cI a b:bA a b=decide (a=b):=rfl
def acU b:nt b=!b:=rfl
def agc a b:cm a b=decide (a<=b):=rfl
def aeH a b:aR a b=decide (a=b):=rfl
def BdL(x:bD):Prop:=x.1.length<=1048576/\x.2.1.length<=1048576/\ow x.2.2.1/\x.2.2.2.1.length<=1048576
def BdI(x:eE):Prop:=x.1.length<=1048576/\ow x.2.1/\x.2.2.1.length<=1048576/\zq x.2.2.2.2.1
def BdB(x:r5):Prop:=x.1.length<=1048576/\ow x.2.1/\x.2.2.1.length<=1048576/\x.2.2.2.1.length<=1048576/\zq x.2.2.2.2.2.1
structure OkL (x:bD):Prop where
 id:BG x.1
 par:x.2.1=[]\/(BG x.2.1/\x.2.1≠x.1)
 SJ:gP x.2.2.1=true
 dig:alG x.2.2.2.1=0
 s0:0<=x.2.2.2.2.1
 s1:x.2.2.2.2.1<=8192
 b0:0<=x.2.2.2.2.2.1
 b1:x.2.2.2.2.2.1<=32
structure acV (x:eE):Prop where
 id:BG x.1
 SJ:gP x.2.1=true
 top:x.2.2.1=[]\/BG x.2.2.1
 iF:x.2.2.2.1.length<=64
 items:OkI x.2.2.2.2.1
structure OkB (x:r5):Prop where
 id:BG x.1
 SJ:gP x.2.1=true
 img:x.2.2.1=[]\/BG x.2.2.1
 lay:BG x.2.2.2.1
 iF:x.2.2.2.2.1.length<=64
 items:OkI x.2.2.2.2.2.1
def agd x (h:BdL x):∃b,qF (x,())=aa (b,())/\(b=true↔OkL x):=by
 obtain⟨k,l,j,m⟩:=h;obtain⟨r,n,o⟩:=oZ x.1 k;obtain⟨s,p,q⟩:=oZ x.2.1 l;unfold qF;rw[n,ab,AL (by rw[H4<|by rw[p,ab,kX]]),AL (by rw[xU x.2.2.1 (j.small) j.each,ab]),AL (by rw[W0 x.2.2.2.1 m,ab])]
 refine⟨_,rfl,?_⟩;simp only[kX,acU,cI,agc,aeH,gC,Iw,ah3,Hr,zn,decide_eq_false_iff_not,o,q];constructor
 {rintro⟨⟨⟨⟨⟨⟨⟨a,b⟩,c⟩,d⟩,e⟩,f⟩,g⟩,i⟩;exact⟨a,b,c,d,e,f,g,i⟩};rintro⟨a,b,c,d,e,f,g,i⟩;exact⟨⟨⟨⟨⟨⟨⟨a,b⟩,c⟩,d⟩,e⟩,f⟩,g⟩,i⟩
def Va{l}(h:zq l):∃b,nj (l,())=aa (b,())/\(b=true↔OkI l) :=agb l (by have:=h.1;omega) λx a=>by have:=h.2 x a;omega
def apB m:cm (@len UInt8 m) 64=decide (m.length<=64):=by unfold len;apply fk.2;omega
def age x (h:BdI x):∃b,qG (x,())=aa (b,())/\(b=true↔acV x):=by
 obtain⟨g,f,i,j⟩:=h;obtain⟨q,k,l⟩:=oZ x.1 g;obtain⟨r,m,n⟩:=oZ x.2.2.1 i;obtain⟨s,o,p⟩:=Va j;unfold qG;rw[k,ab,AL (by rw[xU x.2.1 (f.small) f.each,ab]),AL (by rw[H4<|by rw[m,ab]]),AL (by rw[o,ab])]
 refine⟨_,rfl,?_⟩;simp only[kX,acU,cI,apB,gC,Iw,ah3,zn,l,n,p];constructor
 {rintro⟨⟨⟨⟨a,b⟩,c⟩,d⟩,e⟩;exact⟨a,b,c,d,e⟩};rintro⟨a,b,c,d,e⟩;exact⟨⟨⟨⟨a,b⟩,c⟩,d⟩,e⟩
def alM x (h:BdB x):∃b,wa (x,())=aa (b,())/\(b=true↔OkB x):=by
 obtain⟨i,g,j,k,l⟩:=h;obtain⟨u,m,n⟩:=oZ x.1 i;obtain⟨v,o,p⟩:=oZ x.2.2.1 j;obtain⟨w,q,r⟩:=oZ x.2.2.2.1 k;obtain⟨y,s,t⟩:=Va l;unfold wa;rw[m,ab,AL (by rw[xU x.2.1 (g.small) g.each,ab]),AL (by rw[H4<|by rw[o,ab]]),AL (by rw[q,ab]),AL (by rw[s,ab])]
 refine⟨_,rfl,?_⟩;simp only[kX,acU,cI,apB,gC,Iw,ah3,zn,n,p,r,t];constructor
 {rintro⟨⟨⟨⟨⟨a,b⟩,c⟩,d⟩,e⟩,f⟩;exact⟨a,b,c,d,e,f⟩};rintro⟨a,b,c,d,e,f⟩;exact⟨⟨⟨⟨⟨a,b⟩,c⟩,d⟩,e⟩,f⟩
def TA(b:JF):List Tx:=b.2.1.map (·.1)++b.2.2.1.map (·.1)++b.2.2.2.1.map (·.1)
def TB(b:JF):List Tx:=b.2.1.flatMap (·.2.2.1)++b.2.2.1.flatMap (·.2.1)++b.2.2.2.1.flatMap (·.2.1)
def BK{a:Type}{g:a->List Tx}:∀{l:List a},(∀x∈l,(g x).length<=8)->(l.flatMap g).length<=8*l.length:=by intro l;induction l with|nil=>simp|cons x r b =>intro h;rw[M9,gR,iG];have:=h x (pg ..);have:=b λy c=>h y (wG _ c);omega
def H5{α f}
  (l:List α) id nm (i:l.length<=40) (e:∀x∈l,(nm x).length<=8) ns is (k:ns.length<=10000) (m:is.length<=10000) (g:∀c a b,f (((),(),c,()),a,b,())=cf (ao (ba c<|len l) (ae (idx l c) λx=>ao (fits<|plus (@len Tx b)<|@len Tx [id x]) (ae (idx l c) λy=>ao (fits<|plus (@len Tx a)<|@len Tx<|nm y) (aa<|.inl (((),(),aC .i64 c 1,()),app a<|nm y,app b [id x],())) af) af) (aa<|.inr (0,((),(),c,()),a,b,()))) ) :
  Loop f (((),(),0,()),ns,is,())=aa (((),(),(l.length:Int),()),ns++l.flatMap nm,is++l.map id,()):=by
 have:=cp (f:=f) l.length (λj=>(((),_),ns++(l.take j).flatMap nm,is++(l.take j).map id,()))
  (λj d=>by
   (have hx:=gQ d;have n:((l.take j).flatMap nm).length<=8*40:=by have:=BK (l:=l.take j) λx hx=>e x (Bb hx);rw[cY] at this;omega);(have h:=e _ (ahO d);rw[g,aq d,aj,au hx,ab,show fits _=true from aP (by rw[gR,qg,cY];show _+1<=_;omega),aj,ab,show fits _=true from aP (by rw[gR];omega),aj,aJ ai]);rw[yn,hx,List.flatMap_append,Po];simp[app,cf]) (by
   rw[Ao,g,aw];rfl)
 simpa using this
def agf b (h:FewB b):vB (b,())=aa (TA b,TB b,()):=by
 obtain⟨g,e,i,f,j,k⟩:=h;unfold vB;rw[H5 b.2.1 _ _ g (λx d=>(e x d).1) [] [] aW aW<|λc a b=>rfl,ab];dsimp only;have c1:(b.2.1.flatMap (·.2.2.1)).length<=320:=by have:=BK λx d=>(e x d).1;omega
 have c2:(b.2.2.1.flatMap (·.2.1)).length<=320:=by have:=BK λx d=>(f x d).1;omega
 rw[H5 b.2.2.1 _ _ i (λx d=>(f x d).1) _ _ (by rw[Gn];omega) (by rw[Gn,qg];omega)<|λc a b=>rfl,ab,H5 b.2.2.2.1 _ _ j (λx d=>(k x d).1) _ _ (by rw[gR,Gn];omega) (by rw[gR,Gn,qg,qg];omega) λc a b=>rfl];rfl
open Classical in
def agh{x}(h:BdL x):qF (x,())=aa (decide<|OkL x,()):=by obtain⟨b,a,c⟩:=agd x h;grind
open Classical in
def agi{x}(h:BdI x):qG (x,())=aa (decide<|acV x,()):=by obtain⟨b,a,c⟩:=age x h;grind
open Classical in
def alN{x}(h:BdB x):wa (x,())=aa (decide<|OkB x,()):=by obtain⟨b,a,c⟩:=alM x h;grind
abbrev Cs:=(Int×Int×al)×al
def Q5{d:Type}{f:Cs->Option (Cs⊕(Nat×Cs))}(l:List d)(k:l.length<=1000000) p [DecidablePred p] a
  (e:∀(i:Nat) x,l[i]?=aa x->f ((a,i,()),())=aa (if p x then .inl ((a,aC .i64 i 1,()),()) else .inr (1,(1,i,()),()))) (b:f ((a,(l.length:Int),()),())=aa (.inr (0,(a,(l.length:Int),()),()))) : ((∀x∈l,p x)/\Loop f ((a,0,()),())=aa (0,(a,(l.length:Int),()),())) \/ (¬(∀x∈l,p x)/\∃q,Loop f ((a,0,()),())=aa (1,(1,q),())):=by
 rcases eR l (λi=>((a,i,()),())) (λ_ x=>decide (¬p x)) (λi x=>(1,(1,(i:Int),()),())) _ ai (λi x c g j=>by rw[e i x c,j];by_cases h:p x<;>simp) b with ⟨i,x,c,m,_,h⟩|⟨n,h⟩
 .grind
 .refine .inl ⟨λx c=>?_,h⟩;obtain⟨i,g⟩:=bp.1 c;grind
def Q6{l:List Tx}:l.Pairwise (λx y=>dK x y=true)↔∀(i:Nat) x y,l[i]?=aa x->l[i+1]?=aa y->dK x y=true:=by
 have h:=Q4 (l:=l.map λs=>((s,[],[],()):It));unfold BJ at h;rw[Uu] at h;refine h.trans ⟨λk i x y a b=>?_,λk i x y a b=>?_⟩
 {exact k i _ _ (by rw[B7,a];rfl) (by rw[B7,b];rfl)};grind
def alO(a b:List Tx)(j:a.length<=100000) :
  (a.Pairwise (λx y=>dK x y=true)/\∃q,Loop (iK (a,b,())) (((0:Int),(1:Int),()),())=aa (0,(0,q),())) \/ (¬a.Pairwise (λx y=>dK x y=true)/\∃q,Loop (iK (a,b,())) ((0,1,()),())=aa (1,(1,q),())):=by
 rw[Q6];rcases eR (f:=iK (a,b,())) a.tail (λi=>((0,i+1,()),())) (λi y=>match a[i]? with|some x=>!dK x y|none=>false) (λi x=>(1,(1,i+1,()),())) _ (by rw[ahP];omega) (λi y c e k=>by
  rw[ahP] at e;rw[List.getElem?_tail] at c;obtain⟨x,d⟩:∃x,a[i]?=aa x:=⟨_,gQ ai⟩;unfold iK;dsimp only;rw[show(i+1)=((i+1:Nat):Int) by omega,aq ai,dc ai ai,show _-1=(i:Int) by omega,au d,ab,au c,ab,aJ ai,d];by_cases g:dK x y=true<;>simp[g,nt,ao]) (by
  unfold iK;dsimp only;rw[ahP,aF ep,ag]) with ⟨i,y,c,l,_,h⟩|⟨m,h⟩
 .grind
 .grind
def acW(e a:List Tx)(C:a.length<=100000) :
  (a.Nodup/\∃q,Loop (iM (e,a,())) (((0:Int),(0:Int),()),())=aa (0,((0:Int),q),())) \/ (¬a.Nodup/\∃q,Loop (iM (e,a,())) ((0,0,()),())=aa (1,(1,q),())):=by
 have inner:∀(i:Nat) x,a[i]?=aa x->(∃j y,j<i/\a[j]?=aa y/\y=x/\∃q,Loop (iL (e,a,()) (((0:Int),(i:Int),()),())) (((0:Int),(0:Int),()),())=aa (1,(1,q),())) \/
   ((∀j y,j<i->a[j]?=aa y->y≠x)/\∃q,Loop (iL (e,a,()) (((0:Int),(i:Int),()),())) ((0,0,()),())=aa (0,(0,q),())):=by
  intro i x d;have hi:=aA d;have k:min i a.length=i:=ai;rcases WS (f:=iL (e,a,()) ((0,i,()),())) a i (λj=>((0,j,()),())) (λ_ y=>decide (y=x)) (λj y=>(1,(1,j,()),())) _ ai (λj y p A c s=>by
   unfold iL;rw[aT<|show(j:Int)<i by omega,aj,au p,ab,au d,ab,di,s];by_cases h:y=x<;>simp[bA,h]) (by
   unfold iL;rw[k,aF (sK _),ag]) with ⟨j,y,c,p,z,_,h⟩|⟨r,h⟩
  .grind
  .grind
 have b:∀i x,a[i]?=aa x->(x∈a.take i↔∃j y,j<i/\a[j]?=aa y/\y=x):=by
  intro i x d;rw[bp];constructor
  .grind
  .rintro⟨j,y,c,p,rfl⟩;exact⟨j,by rw[kh,aN c];exact p⟩
 rcases eR (f:=iM (e,a,())) a (λi=>((0,i,()),())) (λi x=>decide _) (λi x=>(1,(1,_),())) _ ai (λi x g hi s=>by
  unfold iM;rw[aq hi];rcases inner i x g with ⟨j,y,l,m,n,q,h⟩|⟨r,q,h⟩
  .rw[h,cT ((b i x g).2 ⟨j,y,l,m,n⟩)];rfl
  .rw[h,cj (λB=>by obtain⟨j,y,l,m,n⟩:=(b i x g).1 B;exact r j y l m n),s];rfl) (by unfold iM;rw[aw,ag]) with ⟨i,x,g,z,_,h⟩|⟨r,h⟩
 .refine .inr ⟨λt=>?_,_,h⟩;obtain⟨j,y,l,m,n⟩:=(b i x g).1 (gb z);obtain⟨u,o⟩:=ga.1 g;obtain⟨v,w⟩:=ga.1 m;exact D3.1 t j i v u l (by rw[w,o,n])
 .refine .inl ⟨D3.2 λj i A hi c D=>?_,_,h⟩;have:=r i a[i] (gQ hi)
  grind
structure BdX (b:JF):Prop extends FewB b where
 xl:∀x∈b.2.1,BdL x
 xi:∀x∈b.2.2.1,BdI x
 xb:∀x∈b.2.2.2.1,BdB x
def agj(a:Int)(b:JF):Nat:=if a=1 then b.2.2.2.1.length else if a=2 then b.2.2.1.length else b.2.1.length
structure jh (kind:Int) (b:JF):Prop where
 few:agj kind b<=32
 only:b.2.2.2.1.length+b.2.2.1.length+b.2.1.length=agj kind b
 ll:∀x∈b.2.1,OkL x
 il:∀x∈b.2.2.1,acV x
 bl:∀x∈b.2.2.2.1,OkB x
 ids:(TA b).Pairwise (λx y=>dK x y=true)
 SJ:(TB b).Nodup
open Classical in
def ER kind b (E:kind=1\/kind=2\/kind=3) (I:b.1=0) (h:BdX b):∃e,nk (kind,b,())=aa (e,())/\(e=0↔jh kind b):=by
 obtain⟨n,c,d,g,u⟩:=b;subst I;obtain⟨F,k,G,l,m,o⟩:=h.toFewB;obtain⟨J,K,L⟩:=(⟨h.xl,h.xi,h.xb⟩:_/\_/\_);dsimp only at F k G l m o;have p:idx ([0,@len r5 g,@len eE d,@len bD c]) kind=aa ((agj kind (0,c,d,g,u):Nat):Int):=by rcases E with rfl|rfl|rfl<;>rfl
 have H:agj kind (0,c,d,g,u)<=40:=by rcases E with rfl|rfl|rfl;{exact m};{exact G};exact F
 unfold nk;rw[aF ai,aF ai,show ba _ 0=false from rfl,ag,show ba _ 0=false from rfl,aO ai ai,p,ab];by_cases r:agj kind (0,c,d,g,u)<=32
 rotate_left
 .rw[aT ai];exact⟨1,rfl,λq=>(by cases q),λq=>absurd q.few r⟩
 rw[aF ai,show idx _ 1=aa (len g) from rfl,ab,show within _ 4=true from rfl,aj,show idx _ 2=aa _ from rfl,ab,show idx ([0,@len r5 g,@len eE d,@len bD c]) 3=aa _ from rfl,ab,ab,eh (b:=len d) ep ep,eh ep ep]
 by_cases j:g.length+d.length+c.length=agj kind (0,c,d,g,u)
 rotate_left
 .rw[ax ep];exact⟨1,rfl,λq=>(by cases q),λq=>absurd q.only j⟩
 rw[ay ep];rcases Q5 (f:=pR (kind,(0,c,_),())) c ai OkL 0 (λi x a=>by unfold pR;rw[aq<|aA a,aj,au a,ab,agh (J x<|kG a),ab];by_cases q:OkL x<;>simp[q,nt,ao]) (by unfold pR;rw[aw,ag]) with ⟨s,t⟩|⟨s,q,t⟩
 rotate_left
 .rw[t];exact⟨1,rfl,λq=>(by cases q),λq=>absurd q.ll s⟩
 rw[t,ab];rcases Q5 (f:=pS (kind,(0,c,d,_),())) d ai acV 0 (λi x a=>by unfold pS;rw[aq<|aA a,aj,au a,ab,agi (K x<|kG a),ab];by_cases q:acV x<;>simp[q,nt,ao]) (by unfold pS;rw[aw,ag]) with ⟨v,w⟩|⟨v,q,w⟩
 rotate_left
 .rw[w];exact⟨1,rfl,λq=>(by cases q),λq=>absurd q.il v⟩
 rw[w,ab];rcases Q5 (f:=pT (kind,(0,c,d,g,u),())) g ai OkB 0 (λi x a=>by unfold pT;rw[aq<|aA a,au a,ab,alN (L x<|kG a),ab];by_cases q:OkB x<;>simp[q,nt,ao]) (by unfold pT;rw[aw,ag]) with ⟨y,z⟩|⟨y,q,z⟩
 rotate_left
 .rw[z];exact⟨1,rfl,λq=>(by cases q),λq=>absurd q.bl y⟩
 rw[z,ab, (agf _ h.toFewB),ab];have O:(c.flatMap (·.2.2.1)).length<=320:=by have:=BK λx a=>(k x a).1;omega
 have c1:(d.flatMap (·.2.1)).length<=320:=by have:=BK λx a=>(l x a).1;omega
 have c2:(g.flatMap (·.2.1)).length<=320:=by have:=BK λx a=>(o x a).1;omega
 rcases alO (TA (0,c,d,g,u)) _ (by unfold TA;simp;omega) with ⟨A,M,B⟩|⟨A,M,B⟩
 rotate_left
 .rw[B];exact⟨1,rfl,λq=>(by cases q),λq=>absurd q.ids A⟩
 rw[B,ab];rcases acW _ (TB (0,c,d,g,u)) (by unfold TB;simp only[gR];omega) with ⟨C,N,D⟩|⟨C,N,D⟩
 rotate_left
 .rw[D];exact⟨1,rfl,λq=>(by cases q),λq=>absurd q.SJ C⟩
 rw[D];exact⟨0,rfl,λ_=>⟨r,j,s,v,y,A,C⟩,λ_=>rfl⟩
def TC(s:bj)(f:s.length<=1048576) m:∀n i,s.length-i<=n->i<=s.length->∃q,Loop (gh (s,m,())) ((false,i,()),())=aa q/\(if BE (s.drop i) then q.1=0 else q.1=1/\q.2.1.1=false):=by intro n;induction n with|zero =>intro i h c;have:i=s.length:=ai;subst this;rw[aZ];refine⟨(0,(false,s.length,()),()),?_,?_⟩;{unfold gh;rw[aF<|by simp only[len];omega,ag];rfl};rw[Ix,aN (by intro x hx;cases hx)]|succ n g =>intro i h c;rw[aZ];by_cases b:i<s.length;{(have hd:=zm b;have e0:gh (s,m,()) ((false,i,()),())=if s[i]=0 then aa (.inr (1,(false,i,()),())) else aa (.inl ((false,((i+1:Nat):Int),()),())):=by unfold gh;rw[aT<|by simp only[len];omega,aj,FZ s b,ab];by_cases a:s[i]=0;{rw[a,show aR _ 0=true from rfl,aj,aN rfl]};rw[show aR _ 0=false from ax (λe=>a (acI e)),ag,aK a,aJ ai]);rw[e0];by_cases a:s[i]=0;{rw[aN a];refine⟨_,rfl,?_⟩;rw[aK λd=>d s[i] (by rw[hd];exact pg ..) a];grind};(rw[aK a];have e:BE (s.drop i)↔BE (s.drop<|i+1):=by rw[hd];constructor;{intro h x hx;exact h x (wG _ hx)};intro h x hx;rcases eK.1 hx with rfl|hx;{exact a};exact h x hx);grind};have:i=s.length:=ai;subst this;refine⟨(0,(false,s.length,()),()),?_,?_⟩;{unfold gh;rw[aF<|by simp only[len];omega];rfl};rw[Ix,aN (by intro x hx;cases hx)]
def JQ s (c:s.length<=1048576) m:ng (s,m,())=aa (decide<|clr s m,()):=by
 unfold ng;dsimp only;obtain⟨q,d,a⟩:=TC s c m s.length 0 ai ai;rw[show Loop (gh _) ((false,0,()),())=aa q from d,ab];rw[D6] at a;by_cases b:BE s
 {rw[aN b] at a;rw[a,show cF 0 0=true from rfl,aj];by_cases h:s=[];{subst h;rw[cN aI,ag,cj λe=>e.1 rfl]};have:=X9.2 h;rw[bL<|by simp only[len];omega,aj];unfold cm;rw[show decide (len s<=m)=decide (clr s m) from fk.2 ⟨λe=>⟨h,e,b⟩,λe=>e.2.1⟩]};rw[aK b] at a;rw[a.1,show cF 1 0=false from rfl,ag,a.2,cj λe=>b e.2.2]
def BL n b:rQ (n,b,())=aa (decide<|W3 n b,()):=HY n b
def alP(h:Hd) m (s:h.1.length<=1048576) (t:h.2.2.2.2.2.2.2.1.length<=1048576):v7 (h,m,())=aa (decide<|QX h m,()):=by
 unfold v7;dsimp only;have a:(ao (aR h.2.1 3) (ae (ng (h.2.2.2.2.2.2.2.1,100,())) λu=>aa ((u.1,()),()))<|some ((bA h.2.2.2.2.2.2.2.1 [],()),())) =
   aa ((decide<|(h.2.1=3/\clr h.2.2.2.2.2.2.2.1 100)\/(h.2.1≠3/\h.2.2.2.2.2.2.2.1=[]),()),()):=by
  by_cases p:h.2.1=3
  .rw[p,mG,aj,JQ _ t,ab];grind
  .rw[ax p,ag];unfold bA;grind
 rw[a,ab,JQ _ s,ab];by_cases c:clr h.1 m;case neg=>rw[cj c,ag,ag,ag,ab,ag,ab,ag,ab,ag,ab,ag,ab,ag,ag,cj λe=>c e.2.2.2.2.2.1]
 rw[cT c,aj];have b:QX h m->1<=h.2.1/\h.2.1<=3:=λe=>by rcases e.2.2.2.2.2.2 with k|k|k<;>omega
 by_cases q:1<=h.2.1;case neg=>rw[cN ai,ag,ag,ab,ag,ab,ag,ab,ag,ab,ag,ab,ag,ag,cj λe=>q (b e).1]
 rw[bL q,aj];by_cases r:h.2.1<=3;case neg=>rw[cN ai,ag,ab,ag,ab,ag,ab,ag,ab,ag,ab,ag,ag,cj λe=>r (b e).2]
 rw[bL r,aj,BL,ab,ab];by_cases d:W3 h.2.2.1 2097152
 case neg=>rw[cj d,ag,ab,ag,ab,ag,ab,ag,ab,ag,ag,cj λe=>d e.1]
 rw[cT d,aj,BL,ab,ab];by_cases f:W3 h.2.2.2.1 2097152
 case neg=>rw[cj f,ag,ab,ag,ab,ag,ab,ag,ag,cj λe=>f e.2.1]
 rw[cT f,aj,BL,ab,ab];by_cases g:W3 h.2.2.2.2.1 2097152
 case neg=>rw[cj g,ag,ab,ag,ab,ag,ag,cj λe=>g e.2.2.1]
 rw[cT g,aj,BL,ab,ab];by_cases i:W3 h.2.2.2.2.2.1 8589934592
 case neg=>rw[cj i,ag,ab,ag,ag,cj λe=>i e.2.2.2.1]
 rw[cT i,aj,BL,ab,ab];by_cases j:W3 h.2.2.2.2.2.2.1 8589934592
 case neg=>rw[cj j,ag,ag,cj λe=>j e.2.2.2.2.1]
 rw[cT j,aj];have v:decide (QX h m)=decide (kindOk h):=fk.2 ⟨λe=>e.2.2.2.2.2.2,λe=>⟨d,f,g,i,j,c,e⟩⟩;rw[v];have o:h.2.1=1\/h.2.1=2\/h.2.1=3:=ai;by_cases l:h.2.2.2.2.2.1=0
 .rw[ay l,aM,ag,aj,show decide _=decide (kindOk h) from fk.2 (by
   unfold kindOk;rcases o with k|k|k<;>simp[k,l])]
 .rw[ax l,aE,aj];by_cases n:h.2.1=1
  .rw[ay n,aj,show decide _=decide (kindOk h) from fk.2 (by unfold kindOk;simp[n])]
  .rw[ax n,ag,show decide _=false from cj (by unfold kindOk;simp[n,l])]
def Q7(b:bj)(k:Nat):Nat:=if 148<=k/\k<156 then 32 else(b.getD k 0).toNat
def BM(b:bj):Nat->Nat|0=>0|k+1=>BM b k+Q7 b k
def Q8 b k:Q7 b k<=255:=by unfold Q7;have:=(b.getD k 0).toNat_lt;grind
def ZY b k:BM b k<=255*k:=by induction k with|zero=>apply b8|succ k a=>have:=Q8 b k;simp only[BM];omega
def acX:idx ([(0,100,()),(100,8,()),(108,8,()),(116,8,()),(124,12,()),(136,12,()),(148,8,()),(156,1,()),(157,100,()),(257,8,()),(345,155,())]:List (Int×Int×al)) 6=aa (148,8,()):=rfl
def Ls b (g:b.length<=1048576):xD (b,())=aa ((BM b b.length:Int),()):=by
 unfold xD mI;rw[ab,acX,ab,dN (by simp only[len];omega),aj];have key:Loop (rb (b,()) (148,8,())) ((0,0,()),())=aa _ :=
  cp b.length (λk=>(((BM b k:Int),(k:Int),()),())) (λk c=>by
   (unfold rb;dsimp only;have i:=ZY b k;have j:=Q8 b k;have a:b.getD k 0=b[k]:=by simp[ c]);(rw[lL,aT ai,aO ai ai,BC b c,ab,aJ ai,show aC .i64 148 8=156 from aI];have f:(ao (ao (cm 148 k) (ba k 156) false) ((32,()),()) ((u8 b[k],()),())).1.1=Q7 b k:=by unfold Q7;by_cases h:148<=k;{by_cases d:k<156;{rw[bL ai,aj,aT ai,aN ⟨h,d⟩];rfl};rw[bL ai,aF ai,aK (λe=>d e.2),a];rfl};rw[cN ai,aK (λe=>h e.1),a];rfl);rw[f,xT ai ai,show aC .i64 _ _=_ from yP ai];rfl) (by
   unfold rb;dsimp only;rw[lL,aF ai,ag,mW])
 rw[key,ab]
def JS b (g:b.length<=1048576):zN (b,())=aa ((BM b b.length:Int),()):=by
 unfold zN;have key:Loop (tj (b,())) ((0,0,()),())=aa _ :=
  cp b.length (λk=>(((BM b k:Int),(k:Int),()),())) (λk c=>by
   (unfold tj;dsimp only;have i:=ZY b k;have j:=Q8 b k;have a:b.getD k 0=b[k]:=by simp[ c]);(have l:=b[k].toNat_lt;have e:∀v,v=Q7 b k->aC .i64 (BM b k:Int) _=((BM b (k+1):Nat):Int):=λv d=>by rw[d,yP ai];rfl);rw[aT<|by simp only[len];omega,aj];unfold Q7 at e;by_cases h:148<=k;{by_cases f:k<156;{rw[bL ai,aj,aT ai,aj,ab,j8,aJ ai];grind};rw[bL ai,aj,aF ai,ag,FZ b c,ab,ab,j8,aJ ai,show kg .i64 (u8 b[k])=(b[k].toNat:Int) from xT (by unfold u8;omega) (by unfold u8;omega),e b[k].toNat (by rw[aK<|λe=>f e.2,a])]}
   .rw[cN ai,ag,ag,FZ b c,ab,ab,j8,aJ ai,show kg .i64 (u8 b[k])=(b[k].toNat) from xT (by unfold u8;omega) (by unfold u8;omega),e b[k].toNat (by rw[aK<|λe=>h e.1,a])]) (by
   unfold tj;rw[aF<|by simp only[len];omega,ag,mW])
 rw[key,ab]
end Go.Ge
