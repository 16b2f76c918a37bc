import Derived.Test.YtgklgliokhbcnaaGreatDoorPlD
set_option linter.unusedSectionVars false
set_option linter.unusedVariables false
set_option linter.unusedSimpArgs false
set_option linter.defProp false
open Option renaming some->aa,none->af
open Sum renaming inl->ay,inr->az
open Go.IntKind (i64)
namespace Go.Ge
variable [Lp]
def Db l (s:l.length<=1048576) (hx:(aS l).length<=1048576):pF (l,())=aa (aS l,()):=by
 unfold pF;have pre:∀a b,a≠[]->b≠[]->aS (a++b)=aS a++47::aS b:=by intro a;induction a with|nil=>intro b h;exact absurd rfl h|cons x r p =>intro b _ c;cases r with|nil =>(cases b with|nil=>exact absurd rfl c|cons y b=>rfl)|cons y r =>have:=p b aT c;rw[Mi,Mi,aS,aS,<-Mi,this];simp
 have mono:∀i,(aS<|l.take i).length<=(aS l).length:=by intro i;by_cases k:l.take i=[];{rw[k];simp[aS]};by_cases c:l.drop i=[];{rw[show l.take i=l from by have:=Gp i l;rw[c,uC] at this;exact this];apply b0};have:=pre _ _ k c;simp_all
 have step:∀i x,l[i]?=aa x->aS (l.take<|i+1)=(if 0<i then aS (l.take i)++[47] else aS (l.take i))++x:=by
  intro i x hx;have e:l.take (i+1)=l.take i++[x]:=by rw[xX,hx];rfl
  rw[e];cases i with|zero=>rfl|succ i =>rw[ pre _ _ (by have:=av hx;intro q;have:=congrArg List.length q;rw[dw] at this;simp only[qv] at this;omega) aT];simp[aS]
 have key:=dc (f:=qW (l,())) l.length (λi=>((aS<|l.take i,i,()),())) (λi n=>by
  obtain⟨x,d⟩:∃x,l[i]?=aa x:=⟨_,ft n⟩;have hs:=step i x d;have c:=mono (i+1);rw[hs] at c;unfold qW;dsimp only;rw[al n,ai];by_cases o:0<i;{rw[aQ o] at hs c;rw[iU,iU] at c;rw[aH ah,ai,aJ ah,ai,ab,ao d,ab,aJ<|by simp only[ib,iU];omega,aC ah,hs];rfl}
  .rw[aK o] at hs c;rw[iU] at c;rw[aB ah,ag,ab,ao d,ab];dsimp only;rw[aJ ah,aC ah,hs];rfl) (by
  unfold qW;rw[aq,zJ];rfl)
 have j:Loop _ ((([]),(0:Int),()),())=aa _:=key;rw[j,ab]
def uW(s:bb):Bool:=decide (s≠[46]/\s≠[46,46]/\1<=s.length/\s.length<=32/\0∉s)
def E7 s:decide (Lib.indexByte s 0<0)=decide (0∉s):=by
 rw[Jd];by_cases h:AO s
 {rw[cW h,cW];intro a;exact h 0 a rfl};rw[cf h,cf];intro a;exact h λx c e=>a (e▸c)
def Zq s:tc (s,())=aa (uW s,()):=by
 unfold tc;have one:∀i:Nat,i<2->oc (s,()) ((false,i,()),())=if bg s (if i=0 then [46] else [46,46])=true then aa (.inr (1,(false,i,()),())) else aa (.inl ((false,((i+1:Nat):Int),()),())):=by intro i k;unfold oc;dsimp only;rw[aH ah,ai,s6];rcases(by omega:i=0\/i=1) with rfl|rfl;{rw[show([[46],[46,46]]:List bb)[0]?=aa [46] from rfl,ab,di];rfl};rw[show([[46],[46,46]]:List bb)[1]?=aa [46,46] from rfl,ab,di];rfl
 by_cases c:s=[46]
 {rw[aN,show((false,(0:Int),()),())=((false,((0:Nat):Int),()),()) from rfl,one 0 ah];subst c;rfl};rw[aN,show((false,0,()),())=((false,((0:Nat):Int),()),()) from rfl,one 0 ah,aK (by rw[aQ rfl,aY c];simp)];by_cases d:s=[46,46];{simp only[Option.bind];rw[aN,one 1 ah];subst d;rfl};(simp only[Option.bind];rw[aN,one 1 ah,aK (by rw[aK ah,aY d];simp)];simp only[Option.bind];rw[aN];have e:oc (s,()) ((false,((1+1:Nat):Int),()),())=aa _:=rfl;rw[e];simp;rw[ab,cV];have el:cl 1 (len s)=decide (1<=s.length):=by unfold len;apply gG.2;omega);have f:cl _ 32=decide _:=qd 32 s;rw[el,f];have j:dC (s,0,())=aa (Lib.indexByte s 0,()):=rfl;rw[j,ab,show aL _ 0=decide _ from E7 s];unfold uW;by_cases a:1<=s.length;{by_cases b:s.length<=32;{simp[a,b,ak,ae,c,d]};simp[ b,ak,ae]};simp[a,ak,ae]
def Qj s (hs:s.length<=1048576):te (s,())=aa (uW s&&decide (47∉s),()):=by
 unfold te;have key:=qO (f:=od (s,())) s (λ_ i=>((false,i,()),()))
  (λi _ x=>aa (if x=0\/x=47 then .inr _ else .inl ())) (λi _=>(0,(false,i,()),())) (λ_ _=>True) (λu i x o p _=>by unfold od;rw[al p,ao o,ab,al9];by_cases l:x=0;{rw[cW l,aQ (.inl l)];rfl};rw[cf l,ab,aa7];by_cases j:x=47;{rw[cW j,aQ (.inr j)];rfl};rw[cf j,aK (by simp[l,j]),aC ah];rfl)
  (λ_ _ _ _ _ _ _=>trivial) (λu _=>by unfold od;rw[aq,ag])
  (λ_ _ _ _ _ h=>by cases h) () trivial
 have run:∀(r:bb) i,∃q,wg (λi _ x=>aa (if x=0\/x=47 then az (1,(false,(i:Int),()),()) else ay ())) (λi _=>(0,(false,i,()),())) r i ()=aa q /\
   q.1=(if 0∉r/\47∉r then 0 else 1)/\q.2.1.1=false:=by
  intro r;induction r with|nil=>intro i;exact⟨_,rfl,aT,rfl⟩|cons x r v =>intro i;unfold wg;by_cases h:x=0\/x=47;{simp;grind};simp;obtain⟨q,j,n,w⟩:=v (i+1);grind
 obtain⟨q,j,n,w⟩:=run s 0;have k:Loop _ ((false,(0:Int),()),())=aa q:=key.trans j;rw[k,ab];have el:cl 1 (len s)=decide (1<=s.length):=by unfold len;apply gG.2;omega
 have y:cl _ 32=decide _:=qd 32 s;rw[el,y,n];unfold uW;by_cases a:0∉s/\47∉s
 {rw[aQ a,cV];by_cases c:1<=s.length;{by_cases d:s.length<=32;{by_cases e:s=[46];{simp[e,ak,bg,nt]};by_cases f:s=[46,46];{simp[f,ak,bg,nt]};simp[a,c,d,ak,bg,nt]};simp[d,ak]};simp[c,ak]};rw[aK a,hJ,ag];grind
def Rx p (n:p.length<=1048576):yo (p,())=aa ((parts p).all uW&&decide ((parts p).length<=8)&&decide (p.length<=96),()):=by
 unfold yo;rw[iG p n,ab];have j:=Rw p;have hn:=fQ p;generalize parts p=l at j hn;have key:=qO (f:=vj (l,())) l (λ_ i=>((false,i,()),()))
  (λi _ x=>aa (if uW x=false then .inr _ else .inl ())) (λi _=>(0,(false,i,()),())) (λ_ _=>True) (λu i x k o _=>by unfold vj;have d:=j x (eG k);rw[al o,ao k,ab,Qj x ah,ab,cW d.1,aeC];cases h:uW x with|true=>rw[ aC ah];rfl|false=>rfl)
  (λ_ _ _ _ _ _ _=>trivial) (λu _=>by unfold vj;rw[aq,ag])
  (λ_ _ _ _ _ h=>by cases h) () trivial
 have run:∀r i,∃q,wg (λi _ x=>aa (if uW x=false then az (1,(false,(i:Int),()),()) else ay ())) (λi _=>(0,(false,i,()),())) r i ()=aa q /\
   q.1=(if r.all uW=true then 0 else 1)/\q.2.1.1=false:=by
  intro r;induction r with|nil=>intro i;exact⟨_,rfl,rfl,rfl⟩|cons x r A =>intro i;unfold wg;cases h:uW x with|false=>exact⟨_,rfl,by simp[h],rfl⟩|true =>simp_all
 obtain⟨q,s,v,w⟩:=run l 0;have c:Loop _ ((false,(0:Int),()),())=aa q:=key.trans s;rw[c,ab,v,w];have y:cl _ 8=decide _:=qd 8 l;have e:cl _ 96=decide _:=qd 96 p;rw[y,e];cases h:l.all uW with|true =>rw[aQ rfl,cV];by_cases a:l.length<=8<;>simp[ ak]|false=>rw[aK aT,hJ,ag];simp
def oz(x:bb):Bool:=decide (x≠[]/\x≠[46])
def names(s:bb):List bb:=(parts s).filter oz
def oA(s:bb):Bool:=(names s).all uW&&decide (s.head?≠aa 47)&&decide ((names s).length<=8)&&decide ((aS<|names s).length<=96)
def mi(s:bb):bb×Int:=if oA s then(aS<|names s,0) else([],2)
def xS s:∀x∈names s,47∉x/\x≠[]/\x.length<=s.length:=by intro x a;obtain⟨c,d⟩:=Aj.1 a;obtain⟨e,f⟩:=Rw s x c;simp only[oz] at d;grind
def HO s:(names s).length<=s.length+1:=fB (UQ _ _) (fQ s)
def Kg s:parts (aS<|names s)=names s:=kM _ λx a=>⟨(xS s x a).1,(xS s x a).2.1⟩
def yF s:(aS<|names s).length<=s.length:=by
 have gen:∀l,(aS<|l.filter oz).length<=(aS l).length:=by intro l;induction l with|nil=>simp|cons x r a =>by_cases c:oz x=true;{rw[ajl c];cases d:r.filter oz with|nil =>(cases r with|nil=>apply b0|cons y r=>simp only[aS,iU,iV];omega)|cons y q =>rw[d] at a;cases r with|nil=>simp at d|cons z r=>simp only[aS,iU,iV] at a⊢;omega};rw[List.filter_cons_of_neg c];cases r with|nil=>simp[aS]|cons z r=>rw[aS];simp;omega
 have:=gen (parts s);rw[dV] at this;exact this
def WK s:cI (s,[47],())=aa (decide<|s.head?=aa 47,()):=by unfold cI cC;cases s with|nil=>rfl|cons b r =>have a:inside 0 (len [(47:UInt8)]) (len (b::r))=true:=aM aF aF (by simp only[len,iV,qv];omega);rw[(bA<|by simp only[len,iV,qv];omega),ai,a,ai,Rn,ab,ab];simp[bg]
def Ry s (hs:s.length<=4096):qB (s,())=aa ((mi s).1,(mi s).2,()):=by
 unfold qB;rw[sz s ah,ab];have hn:=fQ s;have key:=qO (f:=pE (parts s,())) (parts s) (λo i=>((([]),0,(),(i:Int),()),o,()))
  (λi o x=>aa (if oz x=false then .inl o else if uW x=false then .inr _ else .inl (o++[x]))) (λi o=>(0,(([]),0,(),(i:Int),()),o,())) (λi o=>o.length<=i) (λo i x n y A=>by (unfold pE;rw[al y,ai,ao n,ab];have e:oz x=(nt (bg x [])&&nt (bg x [46])):=by simp[oz,bg,nt]);by_cases a:x=[];{rw[ch a,aW,ag,ai,ab, aC ah,aQ (by rw[e,ch a];rfl)];rfl};by_cases b:x=[46];{rw[aY a,aE,ai,ch b,ai,ab, aC ah,aQ (by rw[e,ch b];simp[nt])];rfl};(rw[aY a,aE,ai,aY b,ag,Zq,ab];have j:oz x=true:=by rw[e,aY a,aY b];rfl);cases h:uW x with|false =>rw[aE,ai,ab, aK (by rw[j];simp)];rfl|true =>rw[aW,ag,aJ cR, aC ah,aK (by rw[j];simp)];rfl)
  (λo i x F n A k=>by have k:=aI k;by_cases a:oz x=false;{grind};rw[aK a] at k;by_cases b:uW x=false;{grind};rw[aK b] at k;obtain rfl:=U5 k;simp;omega)
  (λo _=>by unfold pE;rw[aq,ag])
  (λ_ _ _ _ _ h=>by cases h) [] (b0 _)
 have run:∀r i o,∃q,wg (λi o x=>aa (if oz x=false then ay o else if uW x=false then az (1,(([]:bb),(2:Int),(),(i:Int),()),o,()) else ay (o++[x]))) (λi o=>(0,(([]),0,(),i,()),o,())) r i o=aa q /\
   (if(r.filter oz).all uW=true then q.1=0/\q.2.2.1=o++r.filter oz else q.1=1/\q.2.1.1=[]/\q.2.1.2.1=2):=by
  intro r;induction r with|nil=>intro i o;exact⟨_,rfl,aT⟩|cons x r B =>intro i o;unfold wg;cases e:oz x with|false =>simp_all|true =>rw[ajl e];cases n:uW x with|false=>exact⟨_,rfl,by simp[n]⟩|true =>obtain⟨q,v,d⟩:=B (i+1) (o++[x]);grind
 obtain⟨q,v,d⟩:=run _ 0 [];have l:Loop _ ((([]),(0:Int),(),(0:Int),()),_)=aa q:=key.trans v;rw[l,ab];rw[show(parts s).filter oz=names s from rfl,Mj] at d;have G:=yF s;have C:=HO s;unfold mi oA;cases w:(names s).all uW with|false =>rw[w] at d;rw[d.1,d.2.1,d.2.2];rfl|true =>(rw[w] at d;rw[d.1,cV,d.2];have D:lN (names s,[47],())=aa (aS<|names s,()):=by show(FN (names s) [47]).map _=_;unfold FN;rw[af9,aQ ⟨ah,ah⟩];rfl);(rw[D,ab,WK,ab];have E:aL 8 (len<|names s)=!decide ((names s).length<=8):=by by_cases h:(names s).length<=8;{rw[aB<|by simp only[len];omega];simp[h]};rw[aH<|by simp only[len];omega];simp[h]);(have p:aL 96 (len<|aS<|names s)=!decide ((aS<|names s).length<=96):=by by_cases h:(aS<|names s).length<=96;{rw[aB<|by simp only[len];omega];simp[h]};rw[aH<|by simp only[len];omega];simp[h]);rw[E,p];by_cases a:s.head?=aa 47;{simp[a,ak,nt]};by_cases b:(names s).length<=8;{by_cases c:(aS<|names s).length<=96<;>simp[a,b,c,ak,nt]};simp[ b,ak,nt]
def T2 s (hs:s.length<=4096):vk (s,())=aa ((mi s).1,(mi s).2,()):=by
 unfold vk;rw[iG s ah,ab];have hn:=fQ s;have key:=qO (f:=lT (parts s,())) (parts s) (λo i=>(((),i,()),o,()))
  (λi o x=>aa (.inl<|if oz x=true then o++[x] else o)) (λi o=>(((),(i:Int),()),o,())) (λi o=>o.length<=i) (λo i x k l n=>by (unfold lT;rw[al l,ai,ao k,ab,ab];have e:oz x=(nt (bg x [])&&nt (bg x [46])):=by simp[oz,bg,nt]);by_cases a:x=[];{rw[ch a,aC ah,aK (by rw[e,ch a];simp[nt])];rfl};by_cases b:x=[46];{rw[aY a,aE,ai,ch b,aC ah,aK (by rw[e,ch b];simp[nt])];rfl};rw[aY a,aE,ai,aY b,ab,ab,aJ cR,aC ah,aQ (by rw[e,aY a,aY b];rfl)];rfl)
  (λo i x B k n p=>by obtain rfl:=U5 (aI p);by_cases a:oz x=true;{grind};rw[aK a];omega)
  (λo _=>by unfold lT;rw[aq];rfl)
  (λ_ _ _ _ _ h=>by cases h) [] (b0 _)
 have run:∀r i o,∃j,wg (λi o x=>aa (ay<|if oz x=true then o++[x] else o)) (λi o=>(((),(i:Int),()),o,())) r i o=aa (((),j,()),o++r.filter oz,()):=by intro r;induction r with|nil=>intro i o;exact⟨i,by simp[wg]⟩|cons x r q =>intro i o;unfold wg;by_cases e:oz x=true;{simp only;obtain⟨j,h⟩:=q (i+1) (o++[x]);grind};simp_all
 obtain⟨j,v⟩:=run _ 0 [];have d:Loop (lT (parts s,())) (((),0,()),([]),())=aa (((),j,()),names s,()):=by have:=key.trans v;exact this
 have C:=yF s;have w:=HO s;rw[d,ab];dsimp only;rw[Db _ ah ah,ab];have y:ae (ak (nt<|bg s []) (ae (idx s 0) λA=>aa (aD (u8 A) 47))<|some false)=λ(f:Bool->Option (bb×Int×aj))=>f (decide<|s.head?=aa 47):=by funext f;cases s with|nil=>rfl|cons b r =>rw[aY aT,aE,ai,show idx _ 0=aa b from rfl,ab,aa7,ab];simp_all
 rw[y];dsimp only;rw[Rx _ ah,Kg];unfold mi oA;by_cases a:s.head?=aa 47
 {simp[a,ak,nt,ae]};cases D:(names s).all uW with|false=>simp[ ak,nt,ae]|true =>by_cases b:(names s).length<=8;{by_cases c:(aS<|names s).length<=96<;>simp[a,b,c,ak,nt,ae]};simp[ b,ak,nt,ae]
def B9(p:bb):Nat->Option Nat|0=>af|n+1=>if p[n]?=aa 47 then aa n else B9 p n
def T3 p (i:p.length<=1048576):dn (p,47,())=aa (match B9 p p.length with|some k=>k|none=>-1,()):=by
 unfold dn;have run:∀n,n<=p.length->∃q,Loop (db (p,47,())) ((0,(n-1),()),())=aa q/\(match B9 p n with|some k=>q.1=1/\q.2.1.1=k|none=>q.1=0):=by intro n;induction n with|zero =>intro _;refine⟨(0,(0,-1,()),()),?_,rfl⟩;rw[aN];rfl|succ n j =>(intro hn;obtain⟨y,d⟩:∃y,p[n]?=aa y:=⟨_,ft ah⟩;rw[ aN];have st:db (p,47,()) ((0,n,()),())=if y=47 then aa (.inr (1,(n,n,()),())) else aa (.inl ((0,n-1,()),())):=by unfold db;dsimp only;rw[bA ah,ai,ao d,ab,aa7,du ah ah,NR]);rw[ B9];grind
 obtain⟨q,f,a⟩:=run p.length (b0 _);have e:cG .i64 (len p) 1=p.length-1:=by rw[bz,du ah ah]
 rw[e,f,ab];cases c:B9 p p.length with|none=>rw[c] at a;rw[a,cV,ai]|some k=>rw[c] at a;rw[a.1,a.2,hJ,ag]
def N2:∀{p n k},B9 p n=aa k->k<n/\p[k]?=aa 47/\∀j,k<j->j<n->p[j]?≠aa 47:=by intro p n;induction n with|zero=>intro k h;cases h|succ n a =>intro k h;rw[B9] at h;grind
def Zr:∀{p n},B9 p n=af->∀j,j<n->p[j]?≠aa 47:=by intro p n;induction n with|zero=>omega|succ n a =>intro h j c;rw[B9] at h;grind
def bd(p:bb):bb×bb:=match B9 p p.length with|some k=>(p.take k,p.drop (k+1))|none=>([],p)
def sA p:(47∉p/\bd p=([],p))\/∃a b,p=a++47::b/\47∉b/\bd p=(a,b):=by unfold bd;cases h:B9 p p.length with|none =>(refine .inl ⟨λd=>?_,rfl⟩;obtain⟨j,c,e⟩:=aej d;exact Zr h j c (by rw[ft c,e]))|some k =>obtain⟨n,f,i⟩:=N2 h;refine .inr ⟨p.take k,p.drop _,?_,λd=>?_,rfl⟩;{obtain⟨l,e⟩:=iQ.1 f;rw[<-e,<-Cv l,Gp]};obtain⟨j,c,e⟩:=aej d;rw[rV] at c;rw[List.getElem_drop] at e;exact i (k+1+j) ah ah (by rw[ft ah,e])
def sf p (a:p.length<=1048576):gA (p,())=aa ((bd p).1,(bd p).2,()):=by unfold gA qq;rw[show aD _ 0=false from rfl,ag,show aD _ 1=true from rfl,ai,show idx [(47:UInt8)] 0=aa 47 from rfl,ab,show u8 47=47 from rfl,T3 p a,ab,ab];unfold bd;cases h:B9 p p.length with|none=>rw[aH aF,ai]|some k =>obtain⟨c,_,_⟩:=N2 h;dsimp only;rw[aB ah,ag,show inside 0 _ _=true from aM ah ah (by rw[bz];omega),ai,aC ah,aM ah (by rw[bz];omega) (uh _),ai,gl,jB p _ ah]
def Dc a b (f:47∉b):cM (a++47::b)=cM a++[b]:=by induction a with|nil =>(have e:cM (47::b)=[]::cM b:=by rw[cM,aQ rfl]);rw[Mj,e,qh b f];rfl|cons c a d =>rw[Mi];by_cases h:c=47;{rw[cM,aQ h,d];(conv=>rhs;rw[cM,aQ h]);rfl};cases hs:cM a with|nil=>exact absurd hs (qg a)|cons x t =>rw[hs] at d;rw[kL h hs,kL h (by rw[d];rfl)];rfl
def xI p (j:p.length<=4096):kW (p,())=aa ((bd p).1,(bd p).2,()):=by
 unfold kW;rw[iG p ah,ab];by_cases i:p=[]
 .subst i;rfl
 have c:parts p=cM p:=by unfold parts;rw[aK i]
 rcases sA p with ⟨d,e⟩|⟨a,b,rfl,d,e⟩
 .rw[e,c,qh p d];have f:pF (sub [p] 0<|minus (cG .i64 (len [p]) 1) 0,())=aa ([],()):=by exact Db [] aT (by simp[aS])
  rw[ f];rfl
 rw[e,c,Dc a b d];have k:=E6 a;rw[iU] at j;have f:cG .i64 (len<|cM a++[b]) 1=(((cM a).length:Nat):Int):=by rw[bz,du ah cR];grind
 rw[f,ar (by rw[bz,iU];simp;omega),ag,aM ah ah (by rw[bz,iU];omega),ai,gl,U0,Db _ ah (by rw[xH];omega),xH,s6]
 simp[ae]
def sB(d n:bb):bb:=if d=[]\/n=[] then d++n else d++47::n
def Je d n (hd:d.length<=1048576) (hn:n.length<=1048576):pG (d,n,())=aa (sB d n,()):=by
 unfold pG sB;dsimp only;by_cases a:d=[]
 {rw[ch a,aJ ah,aQ (.inl a)];rfl};rw[aY a,aE,ai];by_cases b:n=[];{rw[ch b,aJ ah,aQ (.inr b)];rfl};rw[aY b,ag,aJ cR,ai,aJ (by simp only[ib,iU,iV,qv];omega),ai,aK (by simp[a,b])];simp[app]
def BF d n (hd:d.length<=1048576) (hn:n.length<=1048576):pH (d,n,())=aa (sB d n,()):=by
 unfold pH sB;by_cases a:d=[]
 {rw[ a];rfl};rw[aY a,ag];by_cases b:n=[];{rw[ch b,ai,aQ (.inr b),b,uC]};rw[aY b,ag,aJ cR,ai,aJ (by simp only[ib,iU,iV,qv];omega),ai,aK (by simp[a,b])];simp[app]
def ek(x y:List bb):Bool:=decide (y.length<x.length/\x.take y.length=y)
def Rz{α}[DecidableEq α](Q:Nat->Nat->Nat×(Bool×Int×aj)×aj)(a:∀i j,(Q i j).1=j/\(Q i j).2.1.1=false):∀(r:List (α×α)) i,∃q,wg (λi _ p=>aa (if p.1=p.2 then ay () else az (Q i 1))) (λi _=>Q i 0) r i ()=aa q /\
  q.1=(if r.all (λp=>decide (p.1=p.2))=true then 0 else 1)/\q.2.1.1=false:=by
 intro r;induction r with|nil=>intro i;exact⟨_,rfl,(a _ _).1,(a _ _).2⟩|cons p r c =>intro i;unfold wg;by_cases h:p.1=p.2;{simp;obtain⟨q,d,e,f⟩:=c (i+1);grind};simp_all
def acN x y (hx:x.length<=1048576) (r:y.length<=1048576):bG (x,y,())=aa (decide<|x=y,()):=by
 unfold bG;rw[HD];by_cases a:x.length=y.length
 .rw[cW a,aW,ag];have key:=qO (f:=cN (x,y,())) (x.zip y) (λ_ i=>((false,i,()),()))
   (λi _ p=>aa (if p.1=p.2 then .inl () else .inr _)) (λi _=>(0,(false,i,()),())) (λ_ _=>True) (λu i p l s _=>by obtain⟨c,k⟩:=afM l;have n:=av c;unfold cN;rw[al<|av c,ao c,ab,ao k,ab];by_cases e:p.1=p.2;{rw[ch e,aC ah,aQ e];rfl};rw[aY e,aK e];rfl)
   (λ_ _ _ _ _ _ _=>trivial) (λu _=>by (have e:(x.zip y).length=x.length:=by rw[List.length_zip,a,aeF]);unfold cN;rw[e,aq,ag])
   (λ_ _ _ _ _ h=>by cases h) () trivial
  obtain⟨q,c,k,o⟩:=Rz (λi j=>(j,(false,_),())) (λ_ _=>⟨rfl,rfl⟩) (x.zip y) 0;have d:Loop _ ((false,(0:Int),()),())=aa q:=key.trans c;rw[d,ab,k,o,TM a];by_cases e:x=y;{rw[cW e,aQ rfl,cV,ai]};rw[cf e,aK aT,hJ,ag]
 rw[cf a,aE,ai,cf λe=>a (by rw[e])]
def AP p d (a:p.length<=4096) (hd:d.length<=4096):dH (p,d,())=aa (ek (parts p)<|parts d,()):=by
 unfold dH ek;have c:=fQ p;rw[sz p ah,ab,sz d ah,ab];dsimp only;rw[HC];by_cases h:(parts d).length<(parts p).length
 {rw[cW h,ai,show inside 0 _ _=true from aM aF (by rw[bz];omega) (by rw[bz,bz];omega),ai,Rn,acN _ _ (by rw[dw];omega) ah,ab,ab];simp[h]};rw[cf h,ag,ab];simp[h]
def T4 p d (n:p.length<=4096) (hd:d.length<=4096):vl (p,d,())=aa (ek (parts p)<|parts d,()):=by
 unfold vl ek;have k:=fQ p;have l:=fQ d;rw[iG p ah,ab,iG d ah,ab];dsimp only;rw[NQ];generalize parts p=x at k;generalize parts d=y at l;by_cases h:y.length<x.length
 .rw[cf ah,ag];have e:(x.zip y).length=y.length:=by rw[List.length_zip];omega
  have key:=qO (f:=pI (x,()) (y,())) (x.zip y) (λ_ i=>((false,i,()),()))
   (λi _ p=>aa (if p.1=p.2 then .inl () else .inr _)) (λi _=>(0,(false,i,()),())) (λ_ _=>True) (λu i p n v _=>by obtain⟨k,l⟩:=afM n;unfold pI;rw[al<|av k,al (av l),ao k,ab,ao l,ab];by_cases e:p.1=p.2;{rw[ch e,aC ah,aQ e];rfl};rw[aY e,aK e];rfl)
   (λ_ _ _ _ _ _ _=>trivial) (λu _=>by unfold pI;rw[e,aq,ag,ag])
   (λ_ _ _ _ _ h=>by cases h) () trivial
  obtain⟨q,o,r,s⟩:=Rz (λi j=>(j,(false,_),())) (λ_ _=>⟨rfl,rfl⟩) (x.zip y) 0;have c:Loop _ ((false,(0:Int),()),())=aa q:=key.trans o;rw[c,ab,r,s,Wm,show min x.length y.length=y.length by omega,zJ];by_cases a:x.take y.length=y;{rw[cW a,aQ rfl,cV,ai];simp[h,a]};rw[cf a,aK aT,hJ,ag];simp[a]
 rw[cW ah,ai];simp[h]
def RA x:jc (x,())=aa (false,()):=by unfold jc;rw[AB];rfl
def aga x y:kA (x,y,())=aa (Zh x y,()):=by
 unfold kA Zh;rw[RA,ab,RA,ab,ag,ag,Zg];rcases HF x y with h|rfl|h
 .rw[h,ai,aQ rfl]
 {rw[uU,ag,ag,aK aT,aQ rfl]};rw[sy h,ag,h,ai,aK aT,aK λe=>NS h e.symm]
def Dd a b (I:a.length<=4096) (J:b.length<=4096):hR (a,b,())=aa (cmpL (parts a)<|parts b,()):=by
 unfold hR;have A:=fQ a;have B:=fQ b;rw[sz a ah,ab,sz b ah,ab];generalize parts a=x at A;generalize parts b=y at B;have run:∀n i,x.length-i<=n->i<=x.length->i<=y.length->x.take i=y.take i->∃q,Loop (dO (x,()) (y,())) ((0,i,()),())=aa q /\
   (if q.1=0 then x.length<=y.length/\cmpL (x.drop i) (y.drop i)=(if x.length<y.length then -1 else 0) else q.1=1/\q.2.1.1=cmpL (x.drop i) (y.drop i)):=by
  intro n;induction n with|zero =>(intro i hn C o D;obtain rfl:i=x.length:=ah;refine⟨(0,(0,x.length,()),()),?_,?_⟩;{(rw[aN];have:dO (x,()) (y,()) ((0,x.length,()),())=aa (.inr (0,(0,x.length,()),())):=by unfold dO;rw[aq,ag]);grind};rw[aQ rfl];refine⟨o,?_⟩;rw[JQ];by_cases h:x.length<y.length;{rw[aQ h];cases hd:y.drop x.length with|nil=>have:=congrArg List.length hd;simp at this;omega|cons b r=>rfl};rw[aK h,Gn ah];rfl)|succ n K =>intro i hn C o D;by_cases hi:i<x.length;{(obtain⟨u,d⟩:∃u,x[i]?=aa u:=⟨_,ft hi⟩;obtain⟨E,f⟩:=iQ.1 d;have p:x.drop i=u::x.drop (i+1):=by rw[Cv hi,f]);rw[aN];by_cases s:i<y.length;{(obtain⟨v,w⟩:∃v,y[i]?=aa v:=⟨_,ft s⟩;obtain⟨F,j⟩:=iQ.1 w;have G:y.drop i=v::y.drop (i+1):=by rw[Cv s,j]);(have st:dO (x,()) (y,()) ((0,(i:Int),()),())=if u=v then aa (.inl ((0,((i+1:Nat):Int),()),())) else aa (.inr (1,(Zh u v,i,()),())):=by unfold dO;dsimp only;rw[al hi,ai,ao d,ab,qd,cf ah,ag,ao w,ab,aga,ab];by_cases e:u=v;{rw[aQ e,show Zh u v=0 by unfold Zh;rw[e,uU,aK aT,aQ rfl],show nt _=false from rfl,ag,aC ah]};rw[aK e,show aD _ 0=false from ar (by unfold Zh;split<;>(try split)<;>first|decide|exact absurd (by assumption) e),aE,ai]);rw[st,p,G,cmpL];by_cases e:u=v;{grind};rw[aK e];refine⟨_,rfl,?_⟩;unfold Zh;grind};(have st:dO (x,()) (y,()) ((0,i,()),())=aa (.inr (1,(1,i,()),())):=by unfold dO;dsimp only;rw[al hi,ai,ao d,ab,qd,cW ah,ai]);rw[st];refine⟨_,rfl,?_⟩;rw[ p,show y.drop i=[] from Gn ah];exact⟨rfl,rfl⟩};grind
 obtain⟨q,H,c⟩:=run x.length 0 ah ah ah rfl;have k:Loop (dO _ _) ((0,0,()),())=aa q:=H;rw[k,ab];rw[EA,EA] at c;by_cases h:q.1=0
 {rw[aQ h] at c;rw[h,cV,ai,HC,c.2];by_cases l:x.length<y.length;{rw[cW l,ai,aQ l]};rw[cf l,ag,aK l]};rw[aK h] at c;rw[c.1,hJ,ag,c.2]
def yG a b (H:a.length<=4096) (I:b.length<=4096):j8 (a,b,())=aa (cmpL (parts a)<|parts b,()):=by
 unfold j8;have w:=fQ a;have A:=fQ b;rw[iG a ah,ab,iG b ah,ab];generalize parts a=x at w;generalize parts b=y at A;have run:∀n i,x.length-i<=n->i<=x.length->i<=y.length->∃q,Loop (dP (x,()) (y,())) ((0,i,()),())=aa q /\
   (if q.1=0 then cmpL (x.drop i) (y.drop i)=(if x.length<y.length then -1 else if y.length<x.length then 1 else 0) else q.1=1/\q.2.1.1=cmpL (x.drop i) (y.drop i)):=by
  intro n;induction n with|zero =>(intro i hn B C;obtain rfl:i=x.length:=ah;refine⟨(0,(0,x.length,()),()),?_,?_⟩;{(rw[aN];have:dP (x,()) (y,()) ((0,x.length,()),())=aa (.inr (0,(0,x.length,()),())):=by unfold dP;rw[aq,ag,ag]);grind};rw[aQ rfl,JQ];by_cases h:x.length<y.length;{rw[aQ h];cases hd:y.drop x.length with|nil=>have:=congrArg List.length hd;simp at this;omega|cons b r=>rfl};rw[aK h,Gn ah,aK ah];rfl)|succ n J =>intro i hn B C;by_cases hi:i<x.length;{(obtain⟨u,o⟩:∃u,x[i]?=aa u:=⟨_,ft hi⟩;obtain⟨D,f⟩:=iQ.1 o;have p:x.drop i=u::x.drop (i+1):=by rw[Cv hi,f]);rw[aN];by_cases d:i<y.length;{(obtain⟨v,s⟩:∃v,y[i]?=aa v:=⟨_,ft d⟩;obtain⟨E,j⟩:=iQ.1 s;have F:y.drop i=v::y.drop (i+1):=by rw[Cv d,j]);(have st:dP (x,()) (y,()) ((0,(i:Int),()),())=if u=v then aa (.inl ((0,((i+1:Nat):Int),()),())) else aa (.inr (1,(if fZ u v=true then -1 else 1,(i,())),())):=by unfold dP;rw[al hi,al d,ai,ai,ao o,ab,ao s,ab,ab,ab,Zg];rcases HF u v with h|rfl|h;{rw[h,ai,aK (NS h),aQ rfl]};{rw[uU,ag,ag,aQ rfl,aC ah]};rw[sy h,ag,h,ai,aK (λe=>NS h e.symm),aK aT]);rw[ p,F,cmpL];grind};(have st:dP (x,()) (y,()) ((0,i,()),())=aa (.inr (0,(0,i,()),())):=by unfold dP;rw[al hi,zx,cf d,ai,ag]);rw[st];refine⟨_,rfl,?_⟩;rw[aQ rfl,p,show y.drop i=[] from Gn ah,aK ah,aQ ah];rfl};grind
 obtain⟨q,G,c⟩:=run x.length 0 ah ah ah;have k:Loop (dP _ _) ((0,0,()),())=aa q:=G;rw[k,ab];rw[EA,EA] at c;by_cases h:q.1=0
 {rw[aQ h] at c;rw[h,cV,ai,HC,HC,c];by_cases l:x.length<y.length;{rw[cW l,ai,aQ l]};rw[cf l,ag,aK l];by_cases m:y.length<x.length;{rw[cW m,ai,aQ m]};rw[cf m,ag,aK m]};rw[aK h] at c;rw[c.1,hJ,ag,c.2]
def Kh s p:cC (s,p,())=aa (decide<|s.take p.length=p,()):=by
 unfold cC;rw[NQ];by_cases h:p.length<=s.length
 {rw[cW h,show inside 0 (len p) (len s)=true from aM aF (by rw[bz];omega) (by rw[bz,bz];omega)];rfl};rw[cf h,ag,ab,cf];grind
def N3 s p:cI (s,p,())=aa (decide<|s.take p.length=p,()):=by unfold cI;rw[Kh,ab]
def F2 s p:oS (s,p,())=aa (decide<|s.take p.length=p,()):=by
 unfold oS;rw[NQ];by_cases h:p.length<=s.length
 {rw[cW h,show inside 0 (len p) (len s)=true from aM aF (by rw[bz];omega) (by rw[bz,bz];omega)];rfl};rw[cf h,ag,ab,cf];grind
def agb s p:lv (s,p,())=aa (if s.take p.length=p then(s.drop p.length,true,()) else(s,false,())):=by
 unfold lv fD;rw[Kh,ab];by_cases h:s.take p.length=p
 .have a:p.length<=s.length:=by grind
  rw[cW h,aW,ag,show inside (len p) _ (len s)=true from aM (by rw[bz];omega) (by rw[bz,bz];omega) (uh _),ai,ab,aQ h,show sub s (len p) (minus _<|len p)=s.drop p.length from jB s p.length a]
 rw[cf h,aE,ai,ab,aK h]
def Qk l s (n:l.length<=1048576):bD (l,s,())=aa (decide<|s∈l,()):=by
 unfold bD eY;have key:=qO (f:=bX (l,s,())) l (λ_ i=>((0,i,()),()))
  (λi _ x=>aa (if s=x then .inr _ else .inl ())) (λi _=>(0,(0,i,()),())) (λ_ _=>True) (λu i x d j _=>by unfold bX;rw[al j,ao d,ab];by_cases e:s=x;{rw[ch e,aQ e];rfl};rw[aY e,aK e,aC ah];rfl)
  (λ_ _ _ _ _ _ _=>trivial) (λu _=>by unfold bX;rw[aq,ag])
  (λ_ _ _ _ _ h=>by cases h) () trivial
 have run:∀r i,∃q,wg (λi _ x=>aa (if s=x then az (1,((i:Int),(i:Int),()),()) else ay ())) (λi _=>(0,(0,i,()),())) r i ()=aa q /\
   (if s∈r then q.1=1/\0<=q.2.1.1 else q.1=0):=by
  intro r;induction r with|nil=>intro i;exact⟨_,rfl,aT⟩|cons x r o =>unfold wg;by_cases h:s=x;{simp_all};simp_all
 obtain⟨q,k,a⟩:=run l 0;have c:Loop (bX _) ((0,0,()),())=aa q:=key.trans k;rw[c,ab];by_cases h:s∈l
 {rw[aQ h] at a;rw[a.1,hJ,ag,ab,cW h,bA a.2]};rw[aK h] at a;rw[a,cf h];rfl
def wh:bb:=[46,119,104,46]
def oB(n:bb):Int×bb :=if n.take 4=wh then(if n.drop 4=[46,119,104,46,46,111,112,113] then(2,[]) else if(n.drop 4).take 4=wh\/n.drop 4=[]\/n.drop 4=[46]\/n.drop 4=[46,46] then(3,[]) else(1,n.drop 4)) else(0,n)
def WL n:td (n,())=aa ((oB n).1,(oB n).2,()):=by
 unfold td oB;rw[show([46,119,104,46])=wh from rfl,agb,ab,show wh.length=4 from rfl];by_cases h:n.take 4=wh
 .have e:n=wh++n.drop 4:=by rw[<-h,Gp]
  rw[aQ h,aQ h,aW,ag];generalize n.drop 4=r at e;by_cases a:r=[46,119,104,46,46,111,112,113];{rw[aQ a,ch (by rw[e,a];rfl),ai]};rw[aK a,aY (by rw[e];intro q;exact a (by simpa [wh] using q)),ag,N3,ab,show wh.length=4 from rfl];by_cases c:r.take 4=wh;{rw[aQ<|.inl c,cW c,aW,ag,ab,ai]};rw[cf c,aE,ai,Qk _ _ aF,ab,ab,NR];grind
 rw[aK h,aK h];rfl
def Ki n:tf (n,())=aa ((oB n).1,(oB n).2,()):=by
 unfold tf oB;rw[F2,F2];by_cases h:n.take 4=wh
 .have e:n=wh++n.drop 4:=by rw[<-h,Gp]
  rw[aQ h];generalize j:n.drop 4=r at e;by_cases a:r=[46,119,104,46,46,111,112,113];{rw[aQ a,ch (by rw[e,a];rfl),ai]};(rw[aK a,aY (by rw[e];intro q;exact a (by simpa [wh] using q)),ag,ab];have k:decide (n.take ([46,119,104,46,46,119,104,46]:bb).length=[46,119,104,46,46,119,104,46])=decide (r.take 4=wh):=by rw[e];apply gG.2;simp[wh]);(have l:bg n [46,119,104,46]=decide (r=[]):=by rw[e];apply gG.2;simp[wh]);(have o:bg n [46,119,104,46,46]=decide (r=[46]):=by rw[e];apply gG.2;simp[wh]);(have p:bg n [46,119,104,46,46,46]=decide (r=[46,46]):=by rw[e];apply gG.2;simp[wh]);(have s:decide (n.take ([46,119,104,46]:bb).length=[46,119,104,46])=true:=cW h;rw[k,l,o,p,s];have hs:ak (ak (nt<|ak (nt<|ak (nt<|decide<|r.take 4=wh) (decide<|r=[]) true) (decide<|r=[46]) true) (decide<|r=[46,46]) true)=λ(x y:Option (Int×bb×aj))=>if r.take 4=wh\/r=[]\/r=[46]\/r=[46,46] then x else y:=by funext x y;by_cases c:r.take 4=wh;{simp[c,ak,nt]};by_cases d:r=[];{simp[d,ak,nt]};by_cases f:r=[46];{simp[f,ak,nt]};by_cases i:r=[46,46];{simp[i,ak]};rw[aK<|by simp[c,d,f,i]];simp[c,d,f,i,ak,nt]);rw[hs];dsimp only;by_cases b:r.take 4=wh\/r=[]\/r=[46]\/r=[46,46];{grind};(rw[aK b,aK b,ab];have v:4<=n.length:=by rw[e];simp[wh]);rw[ai,show inside 4 _ _=true from aM aF (by rw[bz];omega) (uh _),ai,show sub n 4 (minus _ 4)=n.drop 4 from jB n 4 v,j]
 rw[aK h];have w:n≠[46,119,104,46,46,119,104,46,46,111,112,113]:=λq=>h (by rw[q];rfl);have A:n≠[46,119,104,46]:=λq=>h (by rw[q];rfl);have B:n≠[46,119,104,46,46]:=λq=>h (by rw[q];rfl);have C:n≠[46,119,104,46,46,46]:=λq=>h (by rw[q];rfl);have D:¬n.take ([46,119,104,46,46,119,104,46]:bb).length=[46,119,104,46,46,119,104,46]:=λq=>h (by have:=congrArg (List.take 4) q;rw[Pw] at this;exact this)
 rw[aY w,ag,ab,cf D,aY A,aY B,aY C,show ak _=λx y=>y from rfl,ab,cf<|by exact h,ag]
def akq{a b:Bool}:ak (nt a) b true=(a||b):=by cases a<;>rfl
def oC{a b}:ak a b false=(a&&b):=by cases a<;>rfl
def acO{s}(h:(mi s).2=0):oA s=true/\(mi s).1=aS (names s):=by unfold mi at h⊢;grind
def sC{s}(h:oA s=true):(names s).all uW=true/\(names s).length<=8/\(aS<|names s).length<=96:=by unfold oA at h;grind
def Zs{l}(h:∀x∈l,47∉x/\x≠[]):(aS l).head?≠aa 47:=by cases l with|nil=>simp[aS]|cons x r =>(obtain⟨c,a⟩:=h x (rU ..);have e:(aS (x::r)).head?=x.head?:=by cases x with|nil=>exact absurd rfl a|cons b x=>cases r<;>simp[aS]);cases x with|nil=>exact absurd rfl a|cons b x =>grind
def N4 l a (h:∀x∈a++l,47∉x/\x≠[]):l.foldl sB (aS a)=aS (a++l):=by induction l generalizing a with|nil=>simp|cons x r f =>(have e:sB (aS a) x=aS (a++[x]):=by unfold sB;cases a with|nil=>rfl|cons y q =>(have d:aS (y::q)≠[]:=by have:=(h y aT).2;cases q with|nil=>exact this|cons z q=>rw[aS];simp);(have gen:∀y q,aS (y::q++[x])=aS (y::q)++47::x:=by intro y q;induction q generalizing y with|nil=>rfl|cons z q c =>rw[Mi,Mi,aS,<-Mi,c z,aS];simp);grind);grind
def De{l}(h:∀x∈l,47∉x/\x≠[]) c:bd (aS l)=(aS l.dropLast,l.getLast c):=by
 have hs:=HN l c λx f=>(h x f).1;rcases sA _ with ⟨d,e⟩|⟨a,b,i,d,e⟩
 {rw[qh _ d] at hs;rw[e];generalize aS l=p at hs;subst hs;rfl};rw[e];rw[i,Dc a b d] at hs;subst hs;rw[List.dropLast_concat,List.getLast_concat,xH]
def HP(a:Tx)(x:Nm):List Tx:=if x.1.take a.length=a then [x.1] else []
def N5(l:List Nm)(a:Tx):List Tx:=l.flatMap (HP a)
def qi(c:Tx)(f:List Tx):Tx×Int×aj:=if c=[]\/6<=c.length then([],3,()) else match f with|[]=>([],3,())|[a]=>(a,0,())|_=>([],9,())
def aU(l:List Nm)(a:Tx):Tx×Int×aj:=if ∃x∈l,x.1=a then(a,0,()) else match l.find? (λx=>decide (a∈x.2.1)) with|some x=>(x.1,0,())|none=>qi a (N5 l a)
def T5(c:Tx) f:ak (ak (nt<|ak (nt<|bg c ([]:Tx)) (cl 6<|@len UInt8 c) true) (aD (@len Tx f) 0) true) (aa (([]:Tx),3,()))
  (ak (aL 1<|@len Tx f) (aa (([]:Tx),9,()))<|ak (within 0<|@len Tx f) (ae (@idx Tx f 0) λi=>aa (i,0,())) af)=aa (qi c f):=by
 have j:bg c ([])=decide (c=[]):=rfl;have k:cl 6 (@len UInt8 c)=decide (6<=c.length):=by unfold len;apply gG.2;omega
 unfold qi;rw[j,k];by_cases d:c=[]
 .rw[aQ<|.inl d,cW d];rfl
 .rw[cf d];by_cases e:6<=c.length
  .rw[aQ<|.inr e,cW e];rfl
  .rw[aK<|by rintro(h|h);exact d h;exact e h,cf e]
   match f with
   | []=>rfl
   | [a]=>rfl
   | a::b::r =>
     have:aL 1 (@len Tx (a::b::r))=true:=aH (by simp only[len,iV];omega);rw[ this];rfl
def Zt(l:List Nm) ref (j:l.length<=1000000) (q:Nat×(Int×Int×aj)×Tx×aj) (c:q.2.2.1=ref) :
  Loop (pT (l,ref,()) q) (((),0,()),([]:List Tx),())=aa (((),(l.length:Int),()),N5 l ref,()):=by
 refine iv l (λa i=>(((),i,()),a,())) (HP ref) _ ah (λi x d e f=>?_) ?_
 .have k:((l.take i).flatMap<|HP ref).length<=l.length:=by have:=fj (g:=HP ref) (λx=>by unfold HP;split<;>simp) l i;omega
  unfold pT;rw[al e,ao d,ab,c,N3,f];unfold HP;by_cases h:x.1.take ref.length=ref;{rw[cW h,aQ h];have:fits (plus (@len Tx<|(l.take i).flatMap<|HP ref)<|@len Tx<|[x.1])=true:=aJ (by show _+1<=_;omega);unfold HP at this;rw[this];rfl};rw[cf h,aK h,uC];rfl
 .unfold pT;rw[aq];rfl
def nE l (ref:Tx) (d:Small l) (e:l.length<=1000000):iM (l,ref,())=aa (aU l ref):=by
 unfold iM;have mid:∀{f1},f1=pS (l,ref,()) ->
   (∃(i:Nat) (x:Nm),l[i]?=aa x/\decide (ref∈x.2.1)=true/\(∀j y,j<i->l[j]?=aa y->decide (ref∈y.2.1)=false)/\Loop f1 ((0,0,()),ref,())=aa (1,((i:Int),(i:Int),()),ref,())) \/ ((∀(i:Nat) x,l[i]?=aa x->decide (ref∈x.2.1)=false)/\Loop f1 ((0,0,()),ref,())=aa (0,(0,len l,()),ref,())):=by
  intro f1 r;subst r;exact eE l (λi=>((0,i,()),_)) _ _ _ d.1 (λi x a c k=>by unfold pS;rw[al c,ai,ao a,ab,C7 x.2.1 ref (d.2 x<|eG a),ab,di,k];by_cases h:ref∈x.2.1<;>simp[h]) (by unfold pS;rw[aq];rfl)
 rcases eE (f:=pR (l,_)) l (λi=>((0,i,()),ref,())) (λ_ x=>decide (x.1=ref)) (λi x=>(1,(i,i,()),ref,())) _ d.1 (λi x a c k=>by unfold pR;rw[al c,ai,ao a,ab,di,k];by_cases h:x.1=ref<;>simp[bg,h]) (by unfold pR;rw[aq];rfl) with ⟨i,x,a,n,q,h⟩|⟨hn,h⟩
 .rw[h,ab];dsimp only;rw[show cm 1 0=false from rfl,ag,bA ah,ai];unfold aU;rw[aQ ⟨x,eG a,fy n⟩]
 rw[h,ab,show cm 0 0=true from rfl,ai,show cl 0 (-1)=false from rfl,ag];have o:¬∃x∈l,x.1=ref:=by rintro⟨x,a,s⟩;obtain⟨i,c⟩:=bc.1 a;have:=hn i x c;simp[s] at this
 unfold aU;rw[aK o];rcases mid rfl with ⟨i,x,a,n,q,h⟩|⟨hn,h⟩;{(rw[h,ab];dsimp only;rw[show cm 1 0=false from rfl,ag,bA ah,ai,ao a,ab];have:l.find? (λx=>decide (ref∈x.2.1))=aa x:=by rw[abQ];refine⟨n,i,av a,?_,λj p=>?_⟩;{have:=ft (av a);rw[a] at this;exact(aI this).symm};have v:=av a;have:=q j l[j] p (ft ah);simpa using this);rw[this]};(rw[h,ab, Zt l ref e _ rfl];have:l.find? (λx=>decide (ref∈x.2.1))=none:=by rw[UJ];intro x a;obtain⟨i,c⟩:=bc.1 a;have:=hn i x c;simpa using this);rw[this];exact T5 ref _
def idN(n:Int):Tx:=wo (br [lj .u8<|jT .i64 n 16,lj .u8 (jT .i64 n 8),lj .u8 n])
def idK(d:Int)(k:Nat):Tx:=idN (gx (aw .i64 (hL .i64 d 16777215) (k:Int)) 16777216)
def ama(s:Tx):Prop:=(I9 s).isSome=true/\s.length=6
def Ql n:zr (n,())=aa (idN n,()):=by unfold zr;rw[ TW _ (by show 3<=1048576;omega)];rfl
def aks n:ama (idN n):=by have h:∀a b c,(I9<|wo [a,b,c]).isSome=true/\(wo [a,b,c]).length=6:=λa b c=>⟨by rw[Ja];rfl,rfl⟩;apply h
def AQ(l:List Nm)(d:Int)(k:Nat):Bool:=decide (∀x∈l,x.1≠idK d k)
def dJ(l:List Nm)(d:Int):Tx×Int×aj:=if 32<=l.length then([],5,()) else match(List.range<|l.length+1).find? (AQ l d) with|some k=>(idK d k,0,())|none=>([],5,())
def acP(l:List Nm) d (s:Tx) (n:l.length<=1000000) :
  (∃i:Nat,Loop (ha (l,d,())) (((0:Int),(0:Int),()),s,())=aa (1,((i:Int),(i:Int),()),s,())/\∃x∈l,x.1=s) \/ (Loop (ha (l,d,())) ((0,0,()),s,())=aa (0,(0,len l,()),s,())/\∀x∈l,x.1≠s):=by
 rcases eE (f:=ha (l,_)) l (λi=>((0,i,()),s,())) (λ_ x=>decide (x.1=s)) (λi x=>(1,(i,i,()),s,())) _ ah (λi x a c e=>by unfold ha;rw[al c,ai,ao a,ab,di,e];by_cases h:x.1=s<;>simp[bg,h]) (by unfold ha;rw[aq];rfl) with ⟨i,x,a,j,o,h⟩|⟨hn,h⟩
 .exact .inl ⟨i,h,x,eG a,fy j⟩
 .refine .inr ⟨h,λx a k=>?_⟩;obtain⟨i,c⟩:=bc.1 a;have:=hn i x c;simp[k] at this
def Jf(l:List Nm) d:ji (l,d,())=aa (dJ l d):=by
 unfold ji dJ;have f:cl 32 (len l)=decide (32<=l.length):=by unfold len;apply gG.2;omega
 rw[f];by_cases a:32<=l.length
 .rw[cW a,aQ a];rfl
 rw[cf a,aK a];have p:aw .i64 (len l) 1=((l.length+1):Int):=by rw[eV dR dR];unfold len;omega
 have hlen:(List.range _).length=l.length+1:=Sy;have key:∀k,k<l.length+1->oo (l,_) ((([]),0,k,()),())=aa (if AQ l d k=true then .inr _ else .inl _):=λk c=>by unfold oo;dsimp only;rw[ aH ah,Ql,(aC ah)];show ae _ _=_;rcases acP l d _ ah with ⟨i,h,x,e,r⟩|⟨h,hn⟩;{rw[h,ab];dsimp only;rw[show cm 1 0=false from rfl,ag,bA ah,aW,ag,aK (by unfold AQ;rw[QO];exact λs=>s x e r)]};rw[h,ab, aQ (by unfold AQ;rw[QO];exact hn)];rfl
 rcases eE (List.range<|l.length+1) (λk=>((([]),0,k,()),())) _ _ _ ah (λk x e q y=>key k (by rw[hlen] at q;exact q)) (by unfold oo;dsimp only;rw[ aB ah,ag]) with ⟨k,x,e,v,w,h⟩|⟨hn,h⟩
 .have c:=av e;rw[hlen] at c;rw[h];have n:(List.range<|l.length+1).find? (AQ l d)=aa k:=by rw[abQ];refine⟨v,k,by rw[hlen];exact c,aT,λj o=>?_⟩;have:=w j j o (by rw[Ps ah]);simpa using this
  rw[n];rfl
 rw[h];have n:(List.range<|l.length+1).find? (AQ l d)=none:=by rw[UJ];intro k c;have:=hn k k (by rw[Ps<|Mm.1 c]);simpa using this
 rw[n];rfl
def Df{l d}(h:(dJ l d).2.1=0):l.length<32/\ama (dJ l d).1/\∀x∈l,x.1≠(dJ l d).1:=by
 unfold dJ at h⊢;by_cases a:32<=l.length
 {rw[aQ a] at h;cases h};rw[aK a] at h⊢;cases c:(List.range _).find? _ with|none=>rw[c] at h;cases h|some k =>have:=aat c;exact⟨ah,aks _,fy this⟩
def akt d:∃m:Nat,m<16777216/\hL .i64 d 16777215=m:=by
 refine⟨(BitVec.ofInt IntKind.i64.bits d &&& BitVec.ofInt IntKind.i64.bits 16777215).toNat,?_,?_⟩
 .rw[BitVec.toNat_and];exact Nat.lt_succ_of_le Nat.and_le_right
 unfold hL;have h:(BitVec.ofInt IntKind.i64.bits d &&& BitVec.ofInt IntKind.i64.bits 16777215).toNat<16777216:=by exact Nat.lt_succ_of_le Nat.and_le_right
 exact xE ah ah
def ajB d:∃m,∀k:Nat,k<=64->gx (aw .i64 (hL .i64 d 16777215) k) 16777216=(((m+k) % 16777216:Nat):Int):=by obtain⟨m,a,e⟩:=akt d;refine⟨m,λk c=>?_⟩;rw[e,eV ah ah];exact wm _ 16777216
def WM(n:Nat):Nat->Tx|0=>[]|k+1=>hx (n / 16 ^ k % 16)::WM n k
def agc n k:(WM n k).length=k:=by induction k with|zero=>rfl|succ k a=>simp only[WM,iV,a]
def agd{i:Nat}(h:i<16):sub Qe i (minus ((i+1:Nat):Int) i)=[hx i]:=by have a:Qe.length=16:=rfl;refine sub_one ?_;unfold hx;rw[aje,ft ah];rfl
def acQ(n:Nat)(j:n<16777216):Br (n,())=aa (WM n 6,()):=by
 unfold Br;have key:=dc (f:=vB) 6 (λk=>((((n / 16 ^ k:Nat):Int),WM n k,k,()),())) (λk l=>by
  unfold vB;dsimp only;have a:gx ((n / 16 ^ k:Nat):Int) 16=_:=wm _ 16;have c:n / 16 ^ k<=n:=Nat.div_le_self _ _;have d:Ii .i64 ((n / 16 ^ k:Nat):Int) 16=((n / 16 ^ (k+1):Nat):Int):=by (rw[Nat.pow_succ,<-Nat.div_div_eq_div_mul];generalize n / 16 ^ k=q at c;have e:(q:Int).tdiv 16=((q / 16:Nat):Int):=by rw[Int.tdiv_eq_ediv_of_nonneg ah];omega);exact xE ah ah
  rw[a,d,aC ah,aC ah,aH ah];have i:([48,49,50,51,52,53,54,55,56,57,97,98,99,100,101,102])=Qe:=rfl;rw[i,agd (Cy _ aF),aM ah ah (by show _<=16;omega),aJ (by rw[agc];simp;omega)];rfl) (by
  unfold vB;dsimp only;rfl)
 rw[show((n:Int),_)=((((n / 16 ^ 0:Nat):Int),WM n 0,((0:Nat):Int),()):Int×Tx×Int×aj) from by rw[ Nat.div_one];rfl,key,ab]
def AR(n k:Nat)(a:k<=60):jT .i64 n k=((n / 2 ^ k:Nat):Int):=by
 unfold jT;rw[show min _ IntKind.i64.bits=k from by show min k 64=k;omega,ajc _ (by exact Int.le_of_lt<|Int.pow_pos aF)]
 norm_cast
def T6(m:Nat):(UInt8.ofNat (lj .u8 m).toNat).toNat=m % 256:=by rw[akh,show((m:Int) % 256).toNat=m % 256 by omega];simp
def air(n:Nat)(a:n<16777216):idN n=WM n 6:=by
 unfold idN;rw[show jT .i64 n 16=_ from AR n 16 aF,show jT .i64 n 8=_ from AR n 8 aF];simp only[br,U2,List.map_nil,wo,T6,WM];rw[show n / 2 ^ 16 % 256 / 16=n / 16 ^ 5 % 16 by omega,show n / 2 ^ 16 % 256 % 16=n / 16 ^ 4 % 16 by omega,show n / 2 ^ 8 % 256 / 16=n / 16 ^ 3 % 16 by omega,show n / 2 ^ 8 % 256 % 16=n / 16 ^ 2 % 16 by omega,
  show n % 256 / 16=n / 16 ^ 1 % 16 by omega,show n % 256 % 16=n / 16 ^ 0 % 16 by omega]
def ais{n m:Nat}(f:n<16777216)(i:m<16777216)(h:idN n=idN m):n=m:=by
 unfold idN at h;have e:=congrArg I9 h;rw[Ja,Ja] at e;have d:=aI e;rw[show jT .i64 n 16=_ from AR n 16 aF,show jT .i64 n 8=_ from AR n 8 aF,show jT .i64 m 16=_ from AR m 16 aF,show jT .i64 m 8=_ from AR m 8 aF] at d
 simp only[br,U2,aes,U7] at d;obtain⟨a,b,c⟩:=d;have a:=congrArg UInt8.toNat a;have b:=congrArg UInt8.toNat b;have c:=congrArg UInt8.toNat c;rw[T6,T6] at a b c;omega
def Kj(l:List Nm)(s:Tx):Bool:=l.any λy=>decide (y.1=s)
def age(l:List Nm) d (s:Tx) (c:l.length<=1000000) :
  Loop (ma (l,d,()) (s,())) ((false,0,()),())=aa ((Kj l s,((l.length:Nat):Int),()),()):=by
 have key:=dc (f:=ma (l,d,()) (s,())) l.length (λk=>((Kj (l.take k) s,k,()),())) (λk a=>by
  have hx:=ft a;unfold ma;rw[al a,ao hx,aC ah];have e:Kj (l.take<|k+1) s=(Kj (l.take k) s||decide (l[k].1=s)):=by unfold Kj;rw[xX,hx,List.any_append];simp
  rw[e];cases Kj _ s with|true=>rfl|false=>rfl) (by
  unfold ma;rw[aq,zJ];rfl)
 exact key
def Zu l d (h:l.length<32):∃k,k<l.length+1/\AQ l d k=true:=by
 apply Cn;intro i;obtain⟨m,r⟩:=ajB d;have c:∀k,k<=64->idK d k=idN _:=λk j=>by unfold idK;rw[r k j]
 have e:(List.range<|l.length+1).map (idK d) ⊆ l.map (·.1):=by intro x s;obtain⟨k,j,rfl⟩:=Mo.1 s;have n:=λq=>i ⟨k,(Mm.1 j),q⟩;unfold AQ at n;rw[QO] at n;apply Cn;intro hn;exact n λy v f=>hn (Mo.2 ⟨y,v,f⟩)
 have o:((List.range<|l.length+1).map<|idK d).Nodup:=by unfold List.Nodup;rw[List.pairwise_map];refine List.Pairwise.imp_of_mem (λ{a b} A p w f=>?_) (List.pairwise_lt_range);have p:=Mm.1 p;rw[c a ah,c b ah] at f;have:=ais (Cy _ aF) (Cy _ aF) f;omega
 have hlen:=o.length_le_of_subset e;rw[zK,Sy,zK] at hlen;omega
def BG(l:List Nm) d (r:l.length<=1000000):nT (l,d,())=aa (dJ l d):=by
 unfold nT dJ;have i:cl 32 (len l)=decide (32<=l.length):=by unfold len;apply gG.2;omega
 rw[i];by_cases a:32<=l.length
 .rw[cW a,aQ a];rfl
 rw[cf a,aK a];obtain⟨m,o⟩:=ajB d;have key:∀k:Nat,k<=32->p4 (l,d,()) ((([]),0,k,()),())=aa (if AQ l d k=true then .inr _ else .inl _):=λk s=>by
  unfold p4;dsimp only;rw[bA ah,o k ah,acQ _ (Cy _ aF),ab,<-air _ (Cy _ aF),<-o k ah,age l d _ r,ab,aC ah];have e:nt (Kj l<|idN<|gx (aw .i64 (hL .i64 d 16777215) k) 16777216)=AQ l d k:=by unfold AQ idK nt Kj;rw[Pu];simp
  rw[e];cases AQ l d k<;>rfl
 obtain⟨c,v,f⟩:=Zu l d ah;rcases eE (List.range 33) (λk=>((([]),0,k,()),())) _ _ _ aF (λk x p w C=>key k (by rw[Sy] at w;omega)) (by unfold p4;dsimp only;rw[Sy,cO ah,ag]) with ⟨k,x,p,y,q,h⟩|⟨hn,h⟩
 .have s:=av p;rw[h];have A:k<=c:=by apply Cn;intro D;have:=q c c ah (by rw[Ps ah]);rw[f] at this;cases this
  have B:(List.range<|l.length+1).find? (AQ l d)=aa k:=by rw[abQ];refine⟨y,k,by rw[Sy];omega,aT,λj n=>?_⟩;have:=q j j n (by rw[Ps ah]);simpa using this
  rw[B];rfl
 have:=hn c c (by rw[Ps ah]);rw[f] at this;cases this
abbrev It:=Tx×Tx×Tx×aj
def xJ(l:List It)(p:Tx):Option Nat:=l.findIdx? λx=>decide (x.1=p)
def acR{l p i x}(a:l[i]?=aa x)(d:x.1=p)(e:∀j y,j<i->l[j]?=aa y->y.1≠p):xJ l p=aa i:=by
 unfold xJ;rw[Ya];have hi:=av a;refine⟨hi,?_,λj c=>?_⟩
 {rw[ft hi] at a;rw[aI a];simpa using d};have:=e j l[j] c (ft ah);simpa using this
def acS{l p}(h:∀(i:Nat) x,l[i]?=aa x->x.1≠p):xJ l p=none:=by unfold xJ;rw[aai];intro x a;obtain⟨i,c⟩:=bc.1 a;simpa using h i x c
def F3(l:List It)(p:Tx):Tx×Int:=match l.find? λx=>decide (x.1=p) with|some x=>(x.2.2.1,0)|none=>([],3)
def RB{l p}{i:Nat}{x}(a:l[i]?=aa x)(d:x.1=p)(e:∀j y,j<i->l[j]?=aa y->y.1≠p):F3 l p=(x.2.2.1,0):=by
 unfold F3;have hi:=av a;have:l.find? (λx=>decide (x.1=p))=aa x:=by rw[abQ];refine⟨by simpa using d,i,hi,?_,λj c=>?_⟩;{rw[ft hi] at a;exact aI a};have:=e j l[j] c (ft ah);simpa using this
 rw[this]
def RC{l p}(h:∀(i:Nat) x,l[i]?=aa x->x.1≠p):F3 l p=([],3):=by
 unfold F3;have:l.find? (λx=>decide (x.1=p))=none:=by rw[UJ];intro x a;obtain⟨i,c⟩:=bc.1 a;simpa using h i x c
 rw[this]
def Jg{c:Type}[DecidableEq c]{a b:c}(h:decide (a=b)=false):a≠b:=by simpa using h
def Kk(l:List It)(p:Tx)(q:l.length<=100000):l6 (l,p,())=aa ((F3 l p).1,(F3 l p).2,()):=by
 unfold l6;rcases eE (f:=lI (l,_)) l (λi=>(((0,i,()),(),p,()))) (λ_ x=>decide _) _ _ ah (λi x a e c=>by
  unfold lI cd;rw[al e,ao a,ab,ab,c,vI];cases decide (x.1=p)<;>rfl) (by
  unfold lI;rw[aq,ag]) with ⟨i,x,a,k,n,h⟩|⟨hn,h⟩
 {rw[h,ab];dsimp only;rw[show cm 1 0=false from rfl,ag,aB ah,ag,ao a,ab,RB a (fy k) λj y d o=>Jg (n j y d o)]};rw[h,ab,show cm 0 0=true from rfl,ai,aH aF,ai,RC λi x a=>Jg (hn i x a)]
def Dg(l:List It)(p:Tx)(q:l.length<=100000):rr (l,p,())=aa ((F3 l p).1,(F3 l p).2,()):=by
 unfold rr;rcases eE (f:=mN (l,p,())) l (λi=>((([]:Tx),(0:Int),i,()),())) (λ_ x=>decide (x.1=p)) (λi x=>(1,(x.2.2.1,(0:Int),(i:Int),()),())) (0,(([]:Tx),(0:Int),(l.length:Int),()),()) ah (λi x a e c=>by
  unfold mN;dsimp only;rw[al e,ai,ao a,ab,ab,c,vI];cases decide (x.1=p)<;>rfl) (by
  unfold mN;dsimp only;rw[aq,ag]) with ⟨i,x,a,k,n,h⟩|⟨hn,h⟩
 {rw[h,ab];dsimp only;rw[show cm 1 0=false from rfl,ag,RB a (fy k) λj y d o=>Jg (n j y d o)]};rw[h,ab];dsimp only;rw[show cm 0 0=true from rfl,ai,RC λi x a=>Jg (hn i x a)]
def N6(l:List It)(j:l.length<=100000):fI (l,l,())=aa (true,()):=by
 unfold fI;rw[au rfl];rcases eE (f:=fh (l,l,())) l (λi=>((false,i,()),())) (λ_ _=>false) (λi _=>(1,(false,i,()),())) _ ah (λi x a c d=>by unfold fh;rw[al c,ao a,ab,ab,ch rfl,ch rfl,ch rfl,d];rfl) (by unfold fh;rw[aq,ag,ag]) with ⟨i,x,_,e,_⟩|⟨hn,h⟩
 {cases e};rw[h];rfl
def UH(l:List It)(p:Tx):List It:=match xJ l p with|some i=>l.take i++l.drop (i+1)|none=>l
def Jh(l:List It)(x:It):List It:=l.takeWhile (λy=>fZ y.1 x.1)++[x]++l.dropWhile (λy=>fZ y.1 x.1)
def n8(l:List It)(p d:Tx):List It×Int :=if iF p=true/\d.length<=64 then(if xJ l p=af/\4<=l.length then([],5) else(Jh (UH l p) (p,TX d,d,()),0)) else([],1)
def aa8 l p:(UH l p).length<=l.length:=by
 unfold UH;split
 {rw[iU,dw,rV];omega};apply b0
def agf{l:List It}{p:Tx}{k}(f:k<=l.length)(d:∀j y,j<k->l[j]?=aa y->fZ y.1 p=true)(e:∀y,l[k]?=aa y->fZ y.1 p=false) :
  l.takeWhile (λy=>fZ y.1 p)=l.take k/\l.dropWhile (λy=>fZ y.1 p)=l.drop k:=by
 induction l generalizing k with|nil=>simp|cons a r i =>cases k with|zero =>have:=e a rfl;simp[ this]|succ k =>obtain⟨n,o⟩:=i (by simpa using f) (λj y q c=>d (j+1) y ah (by simpa using c)) (λy c=>e y (by simpa using c));simp only[aao,UT,(d 0 a ah rfl),y9,aap,List.drop_succ_cons,n,o];exact⟨trivial,trivial⟩
abbrev KS:=(Int×Int×aj)×aj×Tx×aj
abbrev PS':=(Int×Int×aj)×aj×It×aj
def N7(l:List It)(p:Tx):Nat×(Int×Int×aj)×aj×Tx×aj:=match xJ l p with|some i=>(1,((i:Int),(i:Int),()),(),p,())|none=>(0,((0:Int),(l.length:Int),()),(),p,())
def gw(m:List It)(p:Tx):Nat:=(m.takeWhile λy=>fZ y.1 p).length
def WN(m:List It)(a:It):Nat×(Int×Int×aj)×aj×It×aj:=if gw m a.1<m.length then(1,((gw m a.1:Int),(gw m a.1:Int),()),(),a,()) else(0,((0:Int),(m.length:Int),()),(),a,())
def T7{f:KS->Option (KS⊕(Nat×KS))} l p (o:l.length<=100000)
  (hs:∀(i:Nat) x,l[i]?=aa x->f ((0,i,()),(),p,())=aa (if decide (x.1=p)=true then .inr (1,(i,i,()),(),p,()) else .inl ((0,((i+1:Nat):Int),()),(),p,()))) (d:f ((0,(l.length:Int),()),(),p,())=aa (.inr (0,(0,(l.length:Int),()),(),p,()))) : Loop f ((0,0,()),(),p,())=aa (N7 l p):=by
 unfold N7;rcases eE l (λi=>(((0,i,()),_))) _ _ _ ah (λi x hx hi c=>hs i x hx) d with ⟨i,x,hx,e,k,h⟩|⟨hn,h⟩
 .rw[h,acR hx (fy e) λj y a n=>Jg (k j y a n)]
 .rw[h,acS λi x hx=>Jg (hn i x hx)]
def xK{m}{p:Tx}{k}(a:k<=m.length)(c:∀j y,j<k->m[j]?=aa y->fZ y.1 p=true)(d:∀y,m[k]?=aa y->fZ y.1 p=false):gw m p=k:=by unfold gw;rw[(agf a c d).1,dw];omega
def L4{f:PS'->Option (PS'⊕(Nat×PS'))} m it (q:m.length<=100000)
  (hs:∀(i:Nat) x,m[i]?=aa x->f ((0,i,()),(),it,())=aa (if nt (fZ x.1 it.1)=true then .inr (1,(i,i,()),(),it,()) else .inl ((0,((i+1:Nat):Int),()),(),it,()))) (o:f ((0,(m.length:Int),()),(),it,())=aa (.inr (0,(0,(m.length:Int),()),(),it,()))) : Loop f ((0,0,()),(),it,())=aa (WN m it):=by
 unfold WN;have a:∀{x:It},nt (fZ x.1 it.1)=false->fZ x.1 it.1=true:=λ{x} h=>by cases k:fZ x.1 it.1 with|true=>rfl|false=>rw[k] at h;cases h
 rcases eE m (λi=>(((0,i,()),_))) _ _ _ ah (λi x hx hi l=>hs i x hx) o with ⟨i,x,hx,n,p,h⟩|⟨hn,h⟩
 .have hi:=av hx;have e:=xK ah (λj y d c=>a (p j y d c)) (λy c=>by rw[hx] at c;obtain rfl:=aI c;cases k:fZ x.1 it.1 with|false=>rfl|true=>rw[k] at n;cases n)
  grind
 .have e:=xK (b0 _) (λj y d c=>a (hn j y c)) (λy c=>by rw[Ev<|b0 _] at c;cases c)
  grind
def acT m it (a:m.length<=100000):uI m ((gw m it.1:Nat):Int) [it]=aa (Jh m it):=by
 have c:gw m it.1<=m.length:=by unfold gw;have:=congrArg List.length (Cm (p:=λy:It=>fZ y.1 it.1) (l:=m));grind
 unfold uI Jh;rw[show inside 0 _ _=true from aM aF ah dR,aJ cR];have e:=Cm (p:=λy=>fZ y.1 it.1) (l:=m);have d:m.take (gw m it.1)=m.takeWhile (λy=>fZ y.1 it.1):=by unfold gw;grind
 grind
def agh m it (j:m.length<=100000) {f:PS'->Option (PS'⊕(Nat×PS'))} (h:Loop f ((0,0,()),(),it,())=aa (WN m it)) :
  (ae (Loop f ((0,0,()),(),it,())) λ(a:Nat×(Int×Int×aj)×aj×(bb×bb×bb×aj)×aj)=>ak (cm a.1 0)
 (ae (aP m (((ak (aL (-1:Int) 0)
 ((@len (bb×bb×bb×aj) m,()),()) (((-1:Int),()),())).1).1,([a.2.2.2.1]:List (bb×bb×bb×aj)),())) λ(c:List (bb×bb×bb×aj))=>aa (c,(0:Int),()))
 (ae (aP m (((ak (aL a.2.1.1 0)
 ((@len (bb×bb×bb×aj) m,()),()) ((a.2.1.1,()),())).1).1,([a.2.2.2.1]:List (bb×bb×bb×aj)),())) λ(c:List (bb×bb×bb×aj))=>aa (c,0,())))=aa (Jh m it,0,()):=by
 rw[h,ab];unfold WN aP;have e:=acT m it j;by_cases i:gw m it.1<m.length
 .rw[aQ i];dsimp only;rw[show cm 1 0=false from rfl,ag,aB ah,ag,e,ab]
 .rw[aK i];have d:gw m it.1=m.length:=by
   (have:gw m it.1<=m.length:=by unfold gw;have:=congrArg List.length (Cm (p:=λy=>fZ y.1 it.1) (l:=m));grind);omega
  rw[show cm 0 0=true from rfl,ai,aH aF,ai,bz,<-d,e,ab]
def ajC l p d g (k:l.length<=100000) {n:KS->Option (KS⊕(Nat×KS))} {o q:(aj×aj)×(List It)×aj->PS'->Option (PS'⊕(Nat×PS'))}
  (s:Loop n ((0,0,()),(),p,())=aa (N7 l p)) (v:∀m f,m.length<=100000->Loop (o (((),()),m,())) ((0,0,()),(),f,())=aa (WN m f)) (w:∀m f,m.length<=100000->Loop (q (((),()),m,())) ((0,0,()),(),f,())=aa (WN m f)) : (ak (fits<|@len (bb×bb×bb×aj) l)
 (ae (Loop n ((0,0,()),(),p,())) λ(j:Nat×(Int×Int×aj)×aj×bb×aj)=>ak (cm j.1 0)
 (ae (ak (cl 0 (-1:Int))
 (ae (bK l ((-1:Int),aw i64 (-1:Int) 1,())) λ(a:List (bb×bb×bb×aj))=>aa (((),()),a,())) (aa (((),()),l,()))) λ(a:(aj×aj)×(List<|bb×bb×bb×aj)×aj)=>ae (Loop (o a) ((0,0,()),(),(p,g,d,()),())) λ(c:Nat×(Int×Int×aj)×aj×(bb×bb×bb×aj)×aj)=>ak (cm c.1 (0:Nat))
 (ae (aP a.2.1 (((ak (aL (-1:Int) (0:Int))
 ((@len (bb×bb×bb×aj) a.2.1,()),()) (((-1:Int),()),())).1).1,([c.2.2.2.1]:List (bb×bb×bb×aj)),())) λ(e:List (bb×bb×bb×aj))=>aa (e,(0:Int),()))
 (ae (aP a.2.1 (((ak (aL c.2.1.1 (0:Int))
 ((@len (bb×bb×bb×aj) a.2.1,()),()) ((c.2.1.1,()),())).1).1,([c.2.2.2.1]:List (bb×bb×bb×aj)),())) λ(e:List (bb×bb×bb×aj))=>aa (e,(0:Int),())))
 (ae (ak (cl 0 j.2.1.1)
 (ae (bK l (j.2.1.1,aw i64 j.2.1.1 1,())) λ(a:List (bb×bb×bb×aj))=>aa (((),()),a,())) (aa (((),()),l,()))) λa=>ae (Loop (q a) ((0,0,()),(),(p,g,d,()),())) λ(c:Nat×(Int×Int×aj)×aj×(bb×bb×bb×aj)×aj)=>ak (cm c.1 0)
 (ae (aP a.2.1 (((ak (aL (-1:Int) 0)
 ((@len (bb×bb×bb×aj) a.2.1,()),()) (((-1:Int),()),())).1).1,([c.2.2.2.1]:List (bb×bb×bb×aj)),())) λ(e:List (bb×bb×bb×aj))=>aa (e,(0:Int),()))
 (ae (aP a.2.1 (((ak (aL c.2.1.1 0)
 ((@len (bb×bb×bb×aj) a.2.1,()),()) ((c.2.1.1,()),())).1).1,([c.2.2.2.1]:List (bb×bb×bb×aj)),())) λ(e:List (bb×bb×bb×aj))=>aa (e,0,()))))
 af)=aa (Jh (UH l p) (p,g,d,()),0,()):=by
 rw[cK ah,s,ab];unfold N7 UH bK;cases r:xJ l p with|none =>exact agh l _ k (v l _ k)|some i =>(have hi:i<l.length:=by unfold xJ at r;rw[Ya] at r;grind);(have hlen:(l.take i++l.drop (i+1)).length<=100000:=by rw[iU,dw,rV];omega);rw[ aC ah];unfold K6;rw[jC ah ah];exact agh _ _ hlen (w _ _ hlen)
def aiu{l p i}(h:xJ l p=aa i):i<l.length:=by unfold xJ at h;rw[Ya] at h;grind
def Kl(l:List It)(p d:Tx)(j:l.length<=100000)(r:d.length<=1048576):l5 (l,p,d,())=aa ((n8 l p d).1,(n8 l p d).2,()):=by
 have s:Loop (lB (l,p,d,())) _=aa (N7 l p):=T7 l p j (λi x c=>by have hi:=av c;unfold lB cd;rw[al hi,ai,ao c,ab,ab,aC ah,vI];cases decide (x.1=p)<;>rfl) (by unfold lB;rw[aq,ag])
 have v:Loop (lC (l,p,d,())) _=aa (N7 l p):=T7 l p j (λi x c=>by have hi:=av c;unfold lC cd;rw[al hi,ai,ao c,ab,ab,aC ah,vI];cases decide (x.1=p)<;>rfl) (by unfold lC;rw[aq,ag])
 have w:Loop (lF (l,p,d,())) _=aa (N7 l p):=T7 l p j (λi x c=>by have hi:=av c;unfold lF cd;rw[al hi,ai,ao c,ab,ab,aC ah,vI];cases decide (x.1=p)<;>rfl) (by unfold lF;rw[aq,ag])
 have y:∀m _,m.length<=100000->Loop (lD (((),()),m,())) _=aa _:=λm a f=>L4 m a f (λi x c=>by have hi:=av c;unfold lD cd;rw[al hi,ai,aG ah (show(i:Int)<len m by unfold len;omega),ai,ao c,ab,ab,ab,aC ah];cases nt _<;>rfl) (by unfold lD;rw[aq,ag])
 have A:∀m a,m.length<=100000->Loop (lE (((),()),m,())) _=aa (WN m a):=λm a f=>L4 m a f (λi x c=>by have hi:=av c;unfold lE cd;rw[al hi,ai,aG ah (show(i:Int)<len m by unfold len;omega),ai,ao c,ab,ab,ab,aC ah];cases nt (fZ x.1 a.1)<;>rfl) (by unfold lE;rw[aq,ag])
 have B:∀m a,m.length<=100000->Loop (lG (((),()),m,())) _=aa (WN m a):=λm a f=>L4 m a f (λi x c=>by have hi:=av c;unfold lG cd;rw[al hi,ai,aG ah (show(i:Int)<len m by unfold len;omega),ai,ao c,ab,ab,ab,aC ah];cases nt (fZ x.1 a.1)<;>rfl) (by unfold lG;rw[aq,ag])
 have C:∀m a,m.length<=100000->Loop (lH (((),()),m,())) _=aa _:=λm a f=>L4 m a f (λi x c=>by have hi:=av c;unfold lH cd;rw[al hi,aG ah (show i<len m by unfold len;omega),ao c,ab,ab,ab,aC ah];cases nt _<;>rfl) (by unfold lH;rw[aq,ag])
 unfold l5 n8;rw[HH,ab];have n:aL 64 (len d)=decide (64<d.length):=by unfold len;apply gG.2;omega
 have o:cl 4 (len l)=decide (4<=l.length):=by unfold len;apply gG.2;omega
 rw[n];by_cases hv:iF p=true/\d.length<=64
 .rw[aQ hv,hv.1,cf ah,show ak (ak _ false true)=ak false from rfl,ag,s,ab,af5 d r];cases q:xJ l p with|none =>(have e:N7 l p=(0,(0,(l.length:Int),()),(),p,()):=by unfold N7;rw[q]);rw[e,show cm 0 0=true from rfl,ai,aH aF,ai,o];by_cases k:4<=l.length;{rw[cW k,ai,aQ ⟨rfl,k⟩]};rw[cf k,aK λh=>k h.2];exact ajC l p d _ j v (λm a f=>y m a f) (λm a f=>A m a f)|some i =>(have e:N7 l p=(1,((i:Int),(i:Int),()),(),p,()):=by unfold N7;rw[q]);rw[e];exact ajC l p d _ j w (λm a f=>B m a f) (λm a f=>C m a f)
 rw[aK hv];have:ak (ak (nt<|nt<|iF p) (decide<|64<d.length) true)=ak (α:=Option (List It×Int×aj)) true:=by cases hn:iF p with|false=>rfl|true =>by_cases D:d.length<=64;{grind};rw[cW ah];rfl
 rw[this,ai]
def aku(l:List It)(p d:Tx)(j:l.length<=100000):Loop (jj (l,p,d,())) (((-1:Int),cG .i64 (len l) 1,()),())=aa (((match xJ l p with|some i=>(i:Int)|none=>-1),(-1:Int),()),()):=by
 have key:∀n k,n<=l.length->(k=match(xJ (l.drop n) p) with|some i=>((n+i:Nat):Int)|none=>-1) ->
   Loop (jj (l,p,d,())) ((k,n-1,()),())=aa (((match xJ l p with|some i=>i|none=>-1),(-1),()),()):=by
  intro n;induction n with|zero =>intro k hn c;rw[aN];unfold jj;dsimp only;rw[c];simp;rfl|succ n f =>intro k hn c;rw[aN];unfold jj;dsimp only;have e:((n+1:Nat):Int)-1=n:=ah;rw[e,ao (ft ah),du ah ah];refine(f _ ah ?_);rw[(Cv ah)];unfold xJ;rw[List.findIdx?_cons];by_cases a:l[n].1=p;{rw[ch a,ai,cW a];simp};rw[aY a,cf a,c];unfold xJ;cases List.findIdx? _ _ with|none=>rfl|some i=>exact congrArg _ (show n+1+i=n+(i+1) by omega)
 rw[du dR dR];exact(key l.length (-1) (b0 _)<|by rw[JQ];rfl)
def acU{a:Type}(m:List a) x {k} (h:m.length=k):(m++[x]).take k++(m++[x]).drop (k+1)=m.take k++m.drop (k+1):=by subst h;simp
def acV{e:Type}(m:List e) x {k} (h:m.length≠k):(m++[x]).take k++(m++[x]).drop (k+1)=m.take k++m.drop (k+1)++[x]:=by
 rw[List.take_append,List.drop_append];by_cases i:k<m.length
 {have a:k-m.length=0:=ah;have c:k+1-m.length=0:=ah;rw[a,c];simp};obtain⟨d,f⟩:∃d,k=m.length+1+d:=⟨k-m.length-1,ah⟩;subst f;have a:m.length+1+d-m.length=d+1:=ah;have c:m.length+1+d+1-m.length=d+2:=ah;rw[a,c,Gn ah];simp
def amb l (p d:Tx) (A:l.length<=100000) q (o:q=match xJ l p with|some i=>i|none=>-1) :
  Loop (jk (l,p,d,()) ((q,(-1:Int),()),())) (((),0,()),([]:List It),())=aa (((),(l.length:Int),()),UH l p,()):=by
 obtain⟨t,r,s,B⟩:=qe (f:=jk (l,_) ((q,_),())) l (λt i=>(((),i,()),t,())) (λt i x=>if i=q then t else t++[x]) _
  (λt i=>t=(match xJ l p with|some k=>(l.take i).take k++(l.take i).drop (k+1)|none=>l.take i)) ah (λt i x j v a n=>by
   (have w:t.length<=l.length:=by rw[n];split;{rw[iU,dw,rV,dw];omega};rw[dw];omega);constructor;{unfold jk;rw[al v,ai,ao j,ab,a];by_cases e:i=q;{rw[au e,aW,ag,ab,aQ e,kI]};rw[ar e,aJ cR,aK e];rfl}
   .have c:l.take (i+1)=l.take i++[x]:=by rw[xX,j];rfl
    have y:(l.take i).length=i:=by rw[dw];omega
    rw[n,o];cases C:xJ l p with
    | none=>dsimp only;rw[aK ah,c]
    | some k =>dsimp only;rw[c];by_cases e:i=k;{rw[aQ ah,acU _ x ah]};rw[aK ah,acV _ x ah]) (λt _=>by
   unfold jk;rw[aq];rfl) [] (by cases xJ l p<;>simp)
 rw[s,r];unfold UH;rw[zJ];all_goals (cases xJ l p<;>rfl)
def agi(l m:List It)(p d:Tx) n (w:m.length<=100000):Loop (jl (l,p,d,()) (((),n,()),m,())) ((0,()),())=aa (((gw m p:Int),()),()):=by
 rcases eE (f:=jl (l,p,_) (((),_),m,())) m (λi=>((i,()),())) (λ_ x=>nt (fZ x.1 p)) _ _ ah (λi x o r e=>by
  unfold jl;dsimp only;rw[al r,aG ah dR,ao o,ab,e];cases fZ x.1 p<;>rfl) (by
  unfold jl;rw[aq];rfl) with ⟨i,x,o,s,v,h⟩|⟨hn,h⟩
 all_goals have a:∀{x:It},nt (fZ x.1 p)=false->fZ x.1 p=true:=λ{x} h=>by cases q:fZ x.1 p with|true=>rfl|false=>rw[q] at h;cases h
 .have r:=av o;rw[h,xK ah (λj y k c=>a (v j y k c)) (λy c=>by rw[o] at c;obtain rfl:=aI c;cases q:fZ x.1 p with|false=>rfl|true=>rw[q] at s;cases s)]
 rw[h,xK (b0 _) (λj y k c=>a (hn j y c)) λy c=>by
 rw[Ev<|b0 _] at c;cases c]
def Zv m it:m.take (gw m it.1)++[it]++m.drop (gw m it.1)=Jh m it:=by
 unfold Jh;have e:=Cm (p:=λy=>fZ y.1 it.1) (l:=m);have a:m.take (gw m it.1)=m.takeWhile (λy=>fZ y.1 it.1):=by
  unfold gw;conv=>lhs;rw[<-e]
  rw[List.take_left'];rw[e]
 have c:m.drop (gw m it.1)=m.dropWhile (λy=>fZ y.1 it.1):=by
  unfold gw;conv=>lhs;rw[<-e]
  rw[List.drop_left'];rw[e]
 rw[a,c]
def Dh(l:List It)(p d:Tx)(j:l.length<=100000)(n:p.length<=4294967296)(o:d.length<=1048576):rq (l,p,d,())=aa ((n8 l p d).1,(n8 l p d).2,()):=by
 unfold rq n8;rw[B7 p n,ab];have c:aL 64 (len d)=decide (64<d.length):=by unfold len;apply gG.2;omega
 have e:cl 4 (len l)=decide (4<=l.length):=by unfold len;apply gG.2;omega
 rw[c];by_cases hv:iF p=true/\d.length<=64
 .rw[aQ hv,hv.1,cf ah,show ak (ak _ false true)=ak false from rfl,ag,aku l p d j,ab,amb l p d j _ rfl,ab,e];dsimp only;have q:=aa8 l p;rw[agi l _ p d _ ah,ab,Rt d o,ab];have k:gw (UH l p) p<=(UH l p).length:=by unfold gw;have:=congrArg List.length (Cm (p:=λy=>fZ y.1 p) (l:=UH l p));rw[iU] at this;omega
  rw[gl,jB _ _ k];have s:((UH l p).take<|gw (UH l p) p).length<=100000:=by rw[dw];omega
  have r:((UH l p).drop<|gw (UH l p) p).length<=100000:=by rw[rV];omega
  rw[show inside 0 (gw _ p:Int) _=true from aM aF ah dR,ai,aJ cR,ai,aJ (by simp only[ib,Mj,iV,qv];omega),ai,show inside (gw _ p:Int) _ _=true from aM ah dR (uh _),ai,aJ (by simp only[ib,iU,iV,qv];omega),ai,show app (app (app [] _) [(p,_)]) _=Jh _ _ from(Zv _ _)];cases k:xJ l p with|none =>rw[aH aF,ai];by_cases a:4<=l.length;{rw[cW a,ai,aQ ⟨rfl,a⟩]};rw[cf a,ag,aK λh=>a h.2]|some i =>rw[aB<|Int.natCast_nonneg i,ag,ag,aK λh=>by cases h.1]
 rw[aK hv];have:ak (ak (nt<|nt<|iF p) (decide<|64<d.length) true)=ak (α:=Option (List It×Int×aj)) true:=by cases hn:iF p with|false=>rfl|true =>by_cases f:d.length<=64;{exact absurd ⟨hn,f⟩ hv};rw[cW ah];rfl
 rw[this,ai]
end Go.Ge
namespace Go.Ge
set_option maxRecDepth 100000
end Go.Ge
namespace Go.Ge
variable [Lp]
def T8(l:List It):∃b,eC (l,())=aa (b,())/\(b=true->l.length<=8/\∀x∈l,x.1.length<=100/\x.2.2.1.length<=200):=by
 unfold eC;rcases se (f:=eK (l,())) l 8 (λi=>((false,i,()),())) (λ_ x=>decide _||decide (200<x.2.2.1.length)) _ (λm=>_) ah (λi x c a j k=>by
  unfold eK;dsimp only;have n:∀{m:bb},aL 100 (len m)=decide (100<m.length):=λ{m}=>by unfold aL len;apply gG.2;omega
  have o:∀{m:bb},aL 200 (len m)=decide (200<m.length):=λ{m}=>by unfold len;apply gG.2;omega
  rw[al a,aH ah,ao c,ab,ab,n,o,k];cases decide (100<x.1.length)<;>cases decide (200<x.2.2.1.length)<;>rfl) (by
  unfold eK;have:ak (aL ((min 8 l.length:Nat):Int)<|len l) (aL ((min 8 l.length:Nat):Int) 8) false=false:=by by_cases h:l.length<=8;{rw[Nat.min_eq_right h,aq,ag]};rw[xY ah];cases aL 8 _<;>rfl
  rw[this,ag]) with ⟨i,x,a,c,q,_,h⟩|⟨d,h⟩
 .rw[h];exact⟨false,rfl,λh=>(by cases h)⟩
 rw[h];refine⟨_,rfl,λe=>?_⟩;have p:l.length<=8:=by unfold cl len at e;simp at e;omega
 refine⟨p,λx c=>?_⟩;obtain⟨i,a⟩:=bc.1 c;have:=d i x (by have:=av a;omega) a;simp at this;omega
abbrev uX:=Tx×Int×aj
abbrev aO:=List Aa×List jZ×List cA×List Tx×List uX×aj
def qQ(l:List Item):Prop:=l.length<=8/\∀x∈l,x.1.length<=100/\x.2.2.1.length<=200
structure amc (b:Rq):Prop extends TT b where
 im:∀x∈b.2.2.1,x.2.2.2.1.length<=200/\qQ x.2.2.2.2.1
 bm:∀x∈b.2.2.2.1,x.2.2.2.2.1.length<=200/\qQ x.2.2.2.2.2.1
 m40:b.2.2.1.length<=40/\b.2.2.2.1.length<=40
def acW(b:Rq):∃c,ss (b,())=aa (c,())/\(c=true->amc b):=by
 obtain⟨a,k⟩:∃a,∀l,mv (l,())=aa (a l,())/\(a l=true->mq l):=⟨λl=>Classical.choose _,λl=>Su (Rr l)⟩;obtain⟨e,o⟩:∃a,∀l,eC (l,())=aa (a l,())/\(a l=true->qQ l):=⟨λl=>Classical.choose _,λl=>Su (T8 l)⟩;obtain⟨G,d,A⟩:=afQ b;refine⟨G,d,λC=>?_⟩;obtain⟨H,D⟩:=A C;suffices q:_/\_ from⟨H,q.1,q.2,D.2⟩
 subst C;obtain⟨n,y,B,E,u⟩:=b;obtain⟨O,s,P⟩:=D;unfold ss at d;have p:∀{q:Nat×(Bool×Int×aj)×aj} {g},q.1=1->q.2.1.1=false->ak (cm q.1 0) g (aa (q.2.1.1,()))≠aa (true,()):=λ{q g} I J h=>by rw[I,J] at h;cases h
 rcases se (f:=je ((n,y,_),())) y 40 (λi=>((false,i,()),())) (λ_ x=>!a x.2.2.1) _ (λn=>_) ah (λi x j r v w=>by unfold je;rw[al r,aH (show(i:Int)<40 by omega),ai,ao j,ab,(k _).1,ab,w];cases a x.2.2.1<;>rfl) (by unfold je;rw[qf (c:=40) rfl,ag]) with ⟨i,x,r,j,F,_,h⟩|⟨K,h⟩
 .rw[h,ab] at d;exact absurd d (p rfl rfl)
 rw[h,ab] at d;rw[cV,ai] at d;rcases se (f:=jf ((n,y,B,_),())) B 40 (λi=>((false,i,()),())) (λ_ x=>!a x.2.1||decide (200<x.2.2.2.1.length)||!e x.2.2.2.2.1) _ (λn=>_) ah (λi x j r v w=>by unfold jf;rw[al r,aH (show(i:Int)<40 by omega),ai,ao j,ab,(k _).1,ab,ab,ab,fi (n:=200) (c:=200) rfl,(o _).1,ab,w];cases a x.2.1 with|false=>rfl|true =>by_cases s:200<x.2.2.2.1.length;{simp[s,ak,nt,ae]};cases L:e x.2.2.2.2.1<;>simp[s,ak,nt,ae]) (by unfold jf;rw[qf (c:=40) rfl,ag]) with ⟨i,x,r,j,F,_,h⟩|⟨M,h⟩
 .rw[h,ab] at d;exact absurd d (p rfl rfl)
 rw[h,ab] at d;rw[cV,ai] at d;rcases se (f:=jg ((n,y,B,E,u),())) E 40 (λi=>((false,i,()),())) (λ_ x=>!a x.2.1||decide (200<x.2.2.2.2.1.length)||!e x.2.2.2.2.2.1) _ (λn=>_) ah (λi x j r v w=>by unfold jg;rw[al r,aH (show(i:Int)<40 by omega),ao j,ab,(k _).1,ab,ab,ab,fi (c:=200) rfl,(o _).1,w];cases a x.2.1 with|false=>rfl|true =>by_cases s:200<x.2.2.2.2.1.length;{simp[s,ak,nt,ae]};cases L:e x.2.2.2.2.2.1<;>simp[s,ak,nt,ae]) (by unfold jg;rw[qf (c:=40) rfl,ag]) with ⟨i,x,r,j,F,_,h⟩|⟨N,h⟩
 .rw[h,ab] at d;exact absurd d (p rfl rfl)
 refine⟨λx j=>?_,λx j=>?_⟩
 {dsimp only at j;obtain⟨i,r⟩:=bc.1 j;grind};dsimp only at j;obtain⟨i,r⟩:=bc.1 j;grind
def acX(l:List cA):∃b,zu (l,())=aa (b,())/\(b=true->l.length<=40/\∀x∈l,x.1.length<=100/\x.2.1.length<=100):=by
 unfold zu;rcases se (f:=tq (l,())) l 40 (λi=>((false,i,()),())) (λ_ x=>decide (100<x.1.length)||decide (100<x.2.1.length)) (λi x=>(1,(false,i,()),())) (λn=>_) ah (λi x a d j k=>by unfold tq;rw[al d,aH (show(i:Int)<40 by omega),ao a,ab,fi (c:=100) rfl,ab,fi (c:=100) rfl,k];by_cases h:100<x.1.length;{simp[h,ak,nt,ae]};by_cases o:100<x.2.1.length<;>simp[h,o,ak,nt,ae]) (by unfold tq;rw[qf (c:=40) rfl,ag]) with ⟨i,x,d,a,p,_,h⟩|⟨hn,h⟩
 {rw[h];exact⟨false,rfl,λh=>(by cases h)⟩};rw[h];refine⟨_,rfl,λe=>?_⟩;rw[ej (c:=40) rfl] at e;refine⟨(fy e),λx a=>?_⟩;obtain⟨i,d⟩:=bc.1 a;grind
structure aiv (s:aO):Prop where
 base:amc (0,s.2.2.1,s.2.1,s.1,())
 ids:∀x∈s.2.2.1,x.1.length<=100/\x.2.1.length<=100
 anY:s.2.2.1.length<=12
 amd:s.2.2.2.1.length<=12
 aqX:∀d∈s.2.2.2.1,d.length<=8192
 mts:s.2.2.2.2.1.length<=40
def RD(s:aO):∃b,wb (s,())=aa (b,())/\(b=true->aiv s):=by
 obtain⟨r,v,j,k,w,u⟩:=s;obtain⟨y,A,B⟩:=acW _;obtain⟨C,D,E⟩:=acX j;unfold wb;rcases se (f:=tr ((r,v,j,k,_),())) k 12 (λi=>((false,i,()),())) (λ_ x=>decide (8192<x.length)) (λi x=>(1,(false,i,()),())) (λn=>_) ah (λi x p l F G=>by unfold tr;rw[al l,ai,aH (show(i:Int)<12 by omega),ai,ao p,ab,fi (c:=8192) rfl,di,G];by_cases h:8192<x.length<;>simp[h]) (by unfold tr;rw[qf (c:=12) rfl,ag]) with ⟨i,x,l,p,I,_,h⟩|⟨hn,h⟩
 {rw[h];exact⟨false,rfl,λh=>(by cases h)⟩};rw[h,ab, A,D,ej (c:=12) rfl,ej (c:=12) rfl,ej (c:=40) rfl];cases y with|false=>exact⟨false,rfl,λh=>(by cases h)⟩|true =>cases C with|false=>exact⟨false,rfl,λh=>(by cases h)⟩|true =>refine⟨_,rfl,λa=>?_⟩;by_cases e:j.length<=12;{by_cases o:k.length<=12;{by_cases q:w.length<=40;{refine⟨B rfl,(E rfl).2,e,o,λd H=>?_,q⟩;obtain⟨i,l⟩:=bc.1 H;grind};rw[cW e,cW o,cf q] at a;cases a};rw[cW e,cf o] at a;cases a};rw[cf e] at a;cases a
def dz a b:bg a b=decide (a=b):=rfl
def aa9 a b:aD a b=decide (a=b):=rfl
def aba a b:aL a b=decide (a<b):=rfl
def Qm(s:bb)(j:s.length<=1048576) m:∀n i,s.length-i<=n->i<=s.length->∃q,Loop (gq (s,m,())) ((false,i,()),())=aa q/\(if AO (s.drop i) then q.1=0 else q.1=1/\q.2.1.1=false):=by intro n;induction n with|zero =>intro i h d;have:i=s.length:=ah;subst this;rw[aN];refine⟨(0,(false,s.length,()),()),?_,?_⟩;{unfold gq;rw[aB<|by simp only[len];omega,ag];rfl};rw[JQ,aQ (by intro x hx;cases hx)]|succ n k =>intro i h d;rw[aN];by_cases c:i<s.length;{(have hd:=Cv c;have f:gq (s,m,()) ((false,i,()),())=if s[i]=0 then aa (.inr (1,(false,i,()),())) else aa (.inl ((false,((i+1:Nat):Int),()),())):=by unfold gq;rw[aH<|by simp only[len];omega,ai,L3 s c,ab];by_cases a:s[i]=0;{rw[a,show aD _ 0=true from rfl,ai,aQ rfl]};rw[show aD _ 0=false from ar (λe=>a (af3 e)),ag,aK a,aC ah]);rw[f];by_cases a:s[i]=0;{rw[aQ a];refine⟨_,rfl,?_⟩;rw[aK λhn=>hn s[i] (by rw[hd];exact rU ..) a];grind};(rw[aK a];have e:AO (s.drop i)↔AO (s.drop<|i+1):=by rw[hd];constructor;{intro h x hx;exact h x (wZ _ hx)};intro h x hx;rcases fA.1 hx with rfl|hx;{exact a};exact h x hx);grind};have:i=s.length:=ah;subst this;refine⟨(0,(false,s.length,()),()),?_,?_⟩;{unfold gq;rw[aB<|by simp only[len];omega];rfl};rw[JQ,aQ (by intro x hx;cases hx)]
def HQ s (hs:s.length<=1048576) m:nN (s,m,())=aa (decide<|clr s m,()):=by
 unfold nN;dsimp only;obtain⟨q,c,a⟩:=Qm s hs m s.length 0 ah ah;rw[show Loop (gq _) ((false,0,()),())=aa q from c,ab];rw[EA] at a;by_cases hn:AO s
 {rw[aQ hn] at a;rw[a,show cm 0 0=true from rfl,ai];by_cases h:s=[];{subst h;rw[cO aF,ag,cf λe=>e.1 rfl]};have:=UU.2 h;rw[bA<|by simp only[len];omega,ai];unfold cl;rw[show decide (len s<=m)=decide (clr s m) from gG.2 ⟨λe=>⟨h,e,hn⟩,λe=>e.2.1⟩]};rw[aK hn] at a;rw[a.1,show cm 1 0=false from rfl,ag,a.2,cf λe=>hn e.2.2]
def AS n b:rX (n,b,())=aa (decide<|T0 n b,()):=F0 n b
def aiw(h:Hd) m (w:h.1.length<=1048576) (x:h.2.2.2.2.2.2.2.1.length<=1048576):wa (h,m,())=aa (decide<|Qi h m,()):=by
 unfold wa;dsimp only;have a:(ak (aD h.2.1 3) (ae (nN (h.2.2.2.2.2.2.2.1,100,())) λy=>aa ((y.1,()),()))<|some ((bg h.2.2.2.2.2.2.2.1 [],()),())) =
   aa ((decide<|(h.2.1=3/\clr h.2.2.2.2.2.2.2.1 100)\/(h.2.1≠3/\h.2.2.2.2.2.2.2.1=[]),()),()):=by
  by_cases r:h.2.1=3
  .rw[r,kv,ai,HQ _ x,ab];grind
  .rw[ar r,ag];unfold bg;grind
 rw[a,ab,HQ _ w,ab];by_cases d:clr h.1 m;case neg=>rw[cf d,ag,ag,ag,ab,ag,ab,ag,ab,ag,ab,ag,ab,ag,ag,cf λe=>d e.2.2.2.2.2.1]
 rw[cW d,ai];have c:Qi h m->1<=h.2.1/\h.2.1<=3:=λe=>by rcases e.2.2.2.2.2.2 with k|k|k<;>omega
 by_cases s:1<=h.2.1;case neg=>rw[cO ah,ag,ag,ab,ag,ab,ag,ab,ag,ab,ag,ab,ag,ag,cf λe=>s (c e).1]
 rw[bA s,ai];by_cases v:h.2.1<=3;case neg=>rw[cO ah,ag,ab,ag,ab,ag,ab,ag,ab,ag,ab,ag,ag,cf λe=>v (c e).2]
 rw[bA v,ai,AS,ab,ab];by_cases f:T0 h.2.2.1 2097152
 case neg=>rw[cf f,ag,ab,ag,ab,ag,ab,ag,ab,ag,ag,cf λe=>f e.1]
 rw[cW f,ai,AS,ab,ab];by_cases i:T0 h.2.2.2.1 2097152
 case neg=>rw[cf i,ag,ab,ag,ab,ag,ab,ag,ag,cf λe=>i e.2.1]
 rw[cW i,ai,AS,ab,ab];by_cases j:T0 h.2.2.2.2.1 2097152
 case neg=>rw[cf j,ag,ab,ag,ab,ag,ag,cf λe=>j e.2.2.1]
 rw[cW j,ai,AS,ab,ab];by_cases l:T0 h.2.2.2.2.2.1 8589934592
 case neg=>rw[cf l,ag,ab,ag,ag,cf λe=>l e.2.2.2.1]
 rw[cW l,ai,AS,ab,ab];by_cases n:T0 h.2.2.2.2.2.2.1 8589934592
 case neg=>rw[cf n,ag,ag,cf λe=>n e.2.2.2.2.1]
 rw[cW n,ai];have A:decide (Qi h m)=decide (kindOk h):=gG.2 ⟨λe=>e.2.2.2.2.2.2,λe=>⟨f,i,j,l,n,d,e⟩⟩;rw[A];have q:h.2.1=1\/h.2.1=2\/h.2.1=3:=ah;by_cases o:h.2.2.2.2.2.1=0
 .rw[au o,aW,ag,ai,show decide _=decide (kindOk h) from gG.2 (by
   unfold kindOk;rcases q with k|k|k<;>simp[k,o])]
 .rw[ar o,aE,ai];by_cases p:h.2.1=1
  .rw[au p,ai,show decide _=decide (kindOk h) from gG.2 (by unfold kindOk;simp[p])]
  .rw[ar p,ag,show decide _=false from cf (by unfold kindOk;simp[p,o])]
def N8(b:bb)(k:Nat):Nat:=if 148<=k/\k<156 then 32 else(b.getD k 0).toNat
def Ca(b:bb):Nat->Nat|0=>0|k+1=>Ca b k+N8 b k
def N9 b k:N8 b k<=255:=by unfold N8;have:=(b.getD k 0).toNat_lt;grind
def WO b k:Ca b k<=255*k:=by induction k with|zero=>apply b0|succ k a=>have:=N9 b k;simp only[Ca];omega
def Zw:idx ([(0,100,()),(100,8,()),(108,8,()),(116,8,()),(124,12,()),(136,12,()),(148,8,()),(156,1,()),(157,100,()),(257,8,()),(345,155,())]:List (Int×Int×aj)) 6=aa (148,8,()):=rfl
def Ji b (f:b.length<=1048576):xh (b,())=aa ((Ca b b.length:Int),()):=by
 unfold xh nf;rw[ab,Zw,ab,ea (by simp only[len];omega),ai];have key:Loop (qV (b,()) (148,8,())) ((0,0,()),())=aa _ :=
  dc b.length (λk=>(((Ca b k:Int),(k:Int),()),())) (λk c=>by
   (unfold qV;dsimp only;have i:=WO b k;have j:=N9 b k;have a:b.getD k 0=b[k]:=by simp[ c]);(rw[mh,aH ah,aG ah ah,AL b c,ab,aC ah,show aw .i64 148 8=156 from aF];have hs:(ak (ak (cl 148 k) (aL k 156) false) ((32,()),()) ((u8 b[k],()),())).1.1=N8 b k:=by unfold N8;by_cases h:148<=k;{by_cases d:k<156;{rw[bA ah,ai,aH ah,aQ ⟨h,d⟩];rfl};rw[bA ah,aB ah,aK (λe=>d e.2),a];rfl};rw[cO ah,aK (λe=>h e.1),a];rfl);rw[hs,xE ah ah,show aw .i64 _ _=_ from AM ah];rfl) (by
   unfold qV;dsimp only;rw[mh,aB ah,ag,nB])
 rw[key,ab]
def HR b (i:b.length<=1048576):zl (b,())=aa ((Ca b b.length:Int),()):=by
 unfold zl;have key:Loop (s9 (b,())) ((0,0,()),())=aa _ :=
  dc b.length (λk=>(((Ca b k:Int),(k:Int),()),())) (λk c=>by
   (unfold s9;dsimp only;have j:=WO b k;have l:=N9 b k;have a:b.getD k 0=b[k]:=by simp[ c]);(have n:=b[k].toNat_lt;have e:∀v,v=N8 b k->aw .i64 (Ca b k:Int) _=((Ca b (k+1):Nat):Int):=λv d=>by rw[d,AM ah];rfl);rw[aH<|by simp only[len];omega,ai];unfold N8 at e;by_cases h:148<=k;{by_cases f:k<156;{rw[bA ah,ai,aH ah,ai,ab,kI,aC ah];grind};rw[bA ah,ai,aB ah,ag,L3 b c,ab,ab,kI,aC ah,show lj .i64 (u8 b[k])=(b[k].toNat:Int) from xE (by unfold u8;omega) (by unfold u8;omega),e b[k].toNat (by rw[aK<|λe=>f e.2,a])]}
   .rw[cO ah,ag,ag,L3 b c,ab,ab,kI,aC ah,show lj .i64 (u8 b[k])=(b[k].toNat) from xE (by unfold u8;omega) (by unfold u8;omega),e b[k].toNat (by rw[aK<|λe=>h e.1,a])]) (by
   unfold s9;rw[aB<|by simp only[len];omega,ag,nB])
 rw[key,ab]
def X8(n:Nat):bb:=List.replicate n 0
def F4 n:(X8 n).length=n:=aed
def sD:bb:=[117,115,116,97,114,0,48,48]
def abb:List (Int×Int×aj):=[(0,100,()),(100,8,()),(108,8,()),(116,8,()),(124,12,()),(136,12,()),(148,8,()),(156,1,()),(157,100,()),(257,8,()),(345,155,())]
def Zx:nf ()=aa (abb,()):=rfl
def Ln s (hs:s.length<=1048576):∃n d,dN (s,())=aa (n,d,()):=by unfold dN;cases l:(ak _ _ true) with|true=>exact⟨0,false,rfl⟩|false =>(rw[ ea (by simp only[len];omega)];have key:∀k i v,s.length-i<=k->i<=s.length->∃q,Loop (bP (s,())) ((0,false,v,i,()),())=aa q:=by intro k;induction k with|zero =>intro i v h e;rw[aN];unfold bP;dsimp only;rw[mh,aB ah,ag];exact⟨_,rfl⟩|succ k f =>intro i v h e;by_cases a:i<s.length;{cases hd:(ak _ _ true) with|true =>(have c:bP (s,()) ((0,false,v,(i:Int),()),())=aa (.inr (1,(0,false,v,i,()),())):=by unfold bP;dsimp only;rw[mh,aH ah,ai,aG ah ah,ai,AL s a,ab,hd,ai]);rw[aN,c];exact⟨_,rfl⟩|false =>(have c:bP (s,()) ((0,false,v,i,()),())=aa (.inl ((0,false,A5 .i64 (oD .i64 v 3)<|lj .i64<|cG .u8 (u8 s[i]) 48,((i+1:Nat):Int),()),())):=by unfold bP;dsimp only;rw[mh,aH ah,ai,aG ah ah,ai,AL s a,ab,hd,ag,aB aF,ag,aC ah]);rw[aN,c];exact f _ _ ah ah};rw[aN];unfold bP;dsimp only;rw[mh,aB ah];exact⟨_,rfl⟩);obtain⟨q,j⟩:=key s.length 0 0 ah ah;rw[show Loop (bP _) ((0,false,0,0,()),())=aa q from j,ab];cases cm q.1 0 with|true=>exact⟨_,_,rfl⟩|false=>exact⟨_,_,rfl⟩
def qj p s:(dx p s).length<=s.length:=by unfold dx;rw[QN];have:=Cm (p:=p) (l:=s.reverse);have:=congrArg List.length this;rw[iU,QN] at this;omega
def e9 s (hs:s.length<=1048576):∃n,dD (s,())=aa (n,()):=by unfold dD;have a:=qj Cq s;rw[HK s hs,ab];obtain⟨n,c,h⟩:=Ln (dx Cq s) ah;rw[h,ab];cases (ak _ _ true) with|true=>exact⟨_,rfl⟩|false=>exact⟨_,rfl⟩
def gR(b:bb)(a n:Nat):bb:=(b.drop a).take n
def cU b a n:(gR b a n).length<=n:=by simp[gR];omega
def pf b (d:b.length=512) k (a n:Nat) (c:idx abb k=aa ((a:Int),(n:Int),())) (h:a+n<=512):cg (b,k,())=aa (gR b a n,()):=by unfold cg;rw[Zx,ab,c,ab,show aw .i64 a n=_ from AM ah,aM ah ah (by simp only[len];omega),ai];unfold sub minus gR;rw[uB,show(((a+n:Nat):Int)-a).toNat=n by omega]
section
variable (b:bb)
def o0(a:b.length=512):cg (b,0,())=aa (gR b 0 100,()):=pf b a 0 0 100 rfl ah
def o1(a:b.length=512):cg (b,1,())=aa (gR b 100 8,()):=pf b a 1 100 8 rfl ah
def o2(a:b.length=512):cg (b,2,())=aa (gR b 108 8,()):=pf b a 2 108 8 rfl ah
def o3(a:b.length=512):cg (b,3,())=aa (gR b 116 8,()):=pf b a 3 116 8 rfl ah
def o4(a:b.length=512):cg (b,4,())=aa (gR b 124 12,()):=pf b a 4 124 12 rfl ah
def o5(a:b.length=512):cg (b,5,())=aa (gR b 136 12,()):=pf b a 5 136 12 rfl ah
def o6(a:b.length=512):cg (b,6,())=aa (gR b 148 8,()):=pf b a 6 148 8 rfl ah
def o7(a:b.length=512):cg (b,7,())=aa (gR b 156 1,()):=pf b a 7 156 1 rfl ah
def o8(a:b.length=512):cg (b,8,())=aa (gR b 157 100,()):=pf b a 8 157 100 rfl ah
def o9(a:b.length=512):cg (b,9,())=aa (gR b 257 8,()):=pf b a 9 257 8 rfl ah
def o10(a:b.length=512):cg (b,10,())=aa (gR b 345 155,()):=pf b a 10 345 155 rfl ah
end
def acY:Hd:=([],0,0,0,0,0,0,[],())
def F5 b (a:b.length=512) (c:gR b 257 8≠sD):fv (b,())=aa (acY,2,()):=by unfold fv;rw[au<|by simp only[len];omega,o9 b a,ab,show([117,115,116,97,114,0,48,48])=sD from rfl,show bg _ sD=false from cf c];rfl
def WQ b (a:b.length=512) {n} (hn:dD (gR b 148 8,())=aa (n,())) (c:n≠Ca b 512):fv (b,())=aa (acY,2,()):=by
 by_cases d:gR b 257 8=sD
 {unfold fv;rw[au<|by simp only[len];omega,aW,aE,ai,o9 b a,ab,ab,d,o6 b a,ab,hn,ab,Ji b ah,ab,a,ar c];rfl};exact F5 b a d
section
variable {h:Hd} {m u g z t:Nat} {kd:UInt8}
end
abbrev Pt:=Hd×bb×aj
def Cb(n:Nat):Nat:=(512-n % 512) % 512
def WR n:Cb n<512:=Cy _ aF
def WS(n:Nat)(a:n<=1048576):yn (n,())=aa ((Cb n:Int),()):=by unfold yn;dsimp only;have c:gx n 512=((n % 512):Int):=rfl;rw[ du ah ah,show 512-_=((512-n % 512:Nat):Int) by omega];rfl
def WT n:Lib.repeatL [0] n=X8 n:=by induction n with|zero=>rfl|succ n a =>show [0]++Lib.repeatL [0] n=X8 _;rw[a];rfl
def WU(n:Nat)(a:n<=1048576):E2 (n,())=aa (X8 n,()):=by
 unfold E2;have:pA ([0],n,())=aa (X8 n,()):=by show(gn [0] n).map _=_;unfold gn;rw[aK cR,WT];rfl
 rw[this,ab]
def WV(n:Nat)(c:n<=1048576):nO (n,())=aa (((n+Cb n:Nat):Int),()):=by
 unfold nO;have key:=dc (f:=lR) (Cb n) (λi=>((((n+i:Nat):Int),()),())) (λi a=>by
  unfold Cb at a;unfold lR;dsimp only;rw[show aD 512 0=false from rfl,ag,show gx _ 512=(((n+i) % 512:Nat):Int) from rfl,ar ah,aC ah];rfl) (by
  unfold lR;rw[show aD 512 0=false from rfl,show gx _ 512=(((n+Cb n) % 512:Nat):Int) from rfl,au (by unfold Cb;omega)];rfl)
 rw[show Loop lR ((n,()),())=_ from key,ab]
def T9 a:(ax a).length=a.length:=zK ..
abbrev Rd:=Bool×bb×Int×Bool×Bool×aj
def Ua:Pt:=(acY,[],())
def rd(r:bb)(n:Int):Rd:=(true,r,n,false,false,())
def HS(n:Int)(b:Bool):Rd:=(true,[],n,true,b,())
def acZ r n b:cc ((),(true,r,n,true,b,()),())=aa ((Ua,false,()),(true,r,n,true,b,()),()):=by rfl
def HT r n b:eM ((b,()),rd r n,())=aa ((Ua,false,()),HS n b,()):=rfl
def Oa r n (h:r.length<512):cc ((),rd r n,())=aa ((Ua,false,()),HS n true,()):=by have e:=HT r n true;unfold cc;dsimp only[rd] at e⊢;rw[aW,aE,ai,ag,aH (by rw[bz];omega),ai,e,ab]
def RE r n (h:512<=r.length) (f:r.length<=1048576) (i:∀x∈r.take 512,x=0) :
  cc ((),rd r n,())=aa ((Ua,false,()),HS n<|!decide (1024<=r.length/\r.length % 512=0/\∀x∈r,x=0),()):=by
 have e:=λb=>HT r n b;unfold cc;dsimp only[rd] at e⊢;have j:(r.take 512).length=512:=by rw[dw];omega
 rw[aW,aE,ai,ag,aB (by rw[bz];omega),ag,aM aF aF (by rw[bz];omega),ai,show sub r 0 (minus 512 0)=r.take 512 from gl r 512,N1 _ ah,cW ⟨j,i⟩,ab,ai,show aD 512 0=false from rfl,ag,show gx _ 512=((r.length % 512):Int) from rfl,show cl 1024 _=decide (1024<=r.length) from by unfold len;apply gG.2;omega,show aD _ 0=decide (r.length % 512=0) from by apply gG.2;omega,WH r f];by_cases a:1024<=r.length
 .by_cases b:r.length % 512=0;{by_cases c:∀x∈r,x=0;{have d:=(BE r).2 c;rw[cW a,ai,cW b,ab,aW,aE,ai,ab,ab];dsimp only;rw[ch d,cW ⟨a,b,c⟩];rfl};have d:¬(dx dk r).dropWhile dk=[]:=λq=>c ((BE r).1 q);rw[cW a,ai,cW b,ab,ab,aY d,cf λq=>c q.2.2];rfl}
  .rw[cW a,ai,cf b,ab,aE,aW,ag,ab,e,ab,cf λq=>b q.2.1];rfl
 .rw[cf a,ag,cf λq=>a q.1];rfl
def RF(p:Pt)(a:List Pt)(d:Rd)(f:a.length<=1000){e:Pt}{ok1}{c:Rd}(h:cc ((),d,())=aa ((e,ok1,()),c,())) :
  kV (((),(),true,()),p,a,d,())=aa (.inl (((),(),ok1,()),e,a++[p],c,())):=by
 unfold kV;rw[ aJ cR,h];rfl
def RG s (h:8192<s.length):gr (s,())=aa ([],10,()):=by unfold gr;dsimp only;rw[aH<|by rw[bz];omega,acZ,ab,aN];rfl
end Go.Ge
