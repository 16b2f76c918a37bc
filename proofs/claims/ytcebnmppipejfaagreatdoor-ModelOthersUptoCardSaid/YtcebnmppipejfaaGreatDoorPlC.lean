import Derived.Test.YtcebnmppipejfaaGreatDoorPlB
set_option linter.unusedSectionVars false
set_option linter.unusedVariables false
set_option linter.unusedSimpArgs false
set_option linter.defProp false
noncomputable section
open Option renaming some->ab,none->ah
open Go.IntKind (i64)
namespace Go.Ge
variable [Lp]
def Ce l (p:l.length<=1048576) (hx:(aP l).length<=1048576):oT (l,())=ab (aP l,()):=by
 unfold oT;have pre:∀a b,a≠[]->b≠[]->aP (a++b)=aP a++47::aP b:=by
  intro a;induction a with
  | nil=>intro b h;exact absurd rfl h
  | cons x r o =>
    intro b _ c;cases r with
    | nil =>
      cases b with
      | nil=>exact absurd rfl c
      | cons y b=>rfl
    | cons y r =>
      have:=o b bb c;rw[JJ,JJ,aP,aP,<-JJ,this];simp
 have mono:∀i,(aP<|l.take i).length<=(aP l).length:=by
  intro i;by_cases k:l.take i=[]
  .rw[k];simp[aP]
  .by_cases c:l.drop i=[]
   .rw[show l.take i=l from by have:=BI i l;rw[c,zQ] at this;exact this];apply cp
   .have:=pre _ _ k c;simp_all
 have step:∀i x,l[i]?=ab x->aP (l.take<|i+1)=(if 0<i then aP (l.take i)++[47] else aP (l.take i))++x:=by
  intro i x hx;have e:l.take (i+1)=l.take i++[x]:=by rw[Er,hx];rfl
  rw[e];cases i with
  | zero=>rfl
  | succ i =>
    rw[ pre _ _ (by have:=aF hx;intro q;have:=congrArg List.length q;rw[kC] at this;simp only[nQ] at this;omega) bb];simp[aP]
 have key:=dh (f:=qp (l,())) l.length (λi=>((aP<|l.take i,i,()),())) (λi m=>by
  obtain⟨x,d⟩:∃x,l[i]?=ab x:=⟨_,ik m⟩;have g:=step i x d;have c:=mono (i+1);rw[g] at c;unfold qp;dsimp only;rw[aq m,ae];by_cases n:0<i
  .rw[aX n] at g c;rw[jB,jB] at c;rw[aO ai,ae,bo ai,ae,aa,au d,aa];rw[bo<|by simp only[vf,jB];omega,aL ai,g];rfl
  .rw[aR n] at g c;rw[jB] at c;rw[aJ ai,af,aa,au d,aa];dsimp only;rw[bo ai,aL ai,g];rfl) (by
  unfold qp;rw[aw,Es];rfl)
 have j:Loop _ ((([]),(0:Int),()),())=ab _:=key;rw[j,aa]
def sI(s:ay):Bool:=decide (s≠[46]/\s≠[46,46]/\1<=s.length/\s.length<=32/\0∉s)
def DX s:decide (Lib.indexByte s 0<0)=decide (0∉s):=by
 rw[HR];by_cases h:zv s
 .rw[dD h,dD];intro a;exact h 0 a rfl
 .rw[cL h,cL];intro a;exact h λx b e=>a (e▸b)
def Yo s:rX (s,())=ab (sI s,()):=by
 unfold rX;have one:∀i:Nat,i<2->nB (s,()) ((false,i,()),())=if bH s (if i=0 then [46] else [46,46])=true then ab (.inr (1,(false,i,()),())) else ab (.inl ((false,((i+1:Nat):Int),()),())):=by
  intro i h;unfold nB;dsimp only;rw[aO ai,ae,vQ];rcases(by omega:i=0\/i=1) with rfl|rfl
  .rw[show([[46],[46,46]]:List ay)[0]?=ab [46] from rfl,aa,ew];rfl
  .rw[show([[46],[46,46]]:List ay)[1]?=ab [46,46] from rfl,aa,ew];rfl
 by_cases c:s=[46]
 .rw[aT,show((false,(0:Int),()),())=((false,((0:Nat):Int),()),()) from rfl,one 0 ai];subst c;rfl
 .rw[aT,show((false,0,()),())=((false,((0:Nat):Int),()),()) from rfl,one 0 ai,aR (by rw[aX rfl,bw c];simp)];by_cases d:s=[46,46]
  .simp only[Option.bind];rw[aT,one 1 ai];subst d;rfl
  .simp only[Option.bind];rw[aT,one 1 ai,aR (by rw[aR ai,bw d];simp)];simp only[Option.bind];rw[aT];have e:nB (s,()) ((false,((1+1:Nat):Int),()),())=ab _:=rfl;rw[e];simp;rw[aa];rw[b9];have el:cu 1 (len s)=decide (1<=s.length):=by unfold len;apply gX.2;omega
   have f:cu _ 32=decide _:=Ah 32 s;rw[el,f];have g:dy (s,0,())=ab (Lib.indexByte s 0,()):=rfl;rw[g,aa];rw[show ba _ 0=decide _ from DX s];unfold sI;by_cases a:1<=s.length
   .by_cases b:s.length<=32
    .simp[a,b,ao,ag,c,d]
    .simp[ b,ao,ag]
   .simp[a,ao,ag]
def Pb s (t:s.length<=1048576):rZ (s,())=ab (sI s&&decide (47∉s),()):=by
 unfold rZ;have key:=pV (f:=nC (s,())) s (λ_ i=>((false,i,()),()))
  (λi _ x=>ab (if x=0\/x=47 then .inr _ else .inl ())) (λi _=>(0,(false,i,()),())) (λ_ _=>True)
  (λu i x l m _=>by
   unfold nC;rw[aq m,au l,aa,akI];by_cases j:x=0
   .rw[dD j,aX (.inl j)];rfl
   .rw[cL j,aa,aaa];by_cases b:x=47
    .rw[dD b,aX (.inr b)];rfl
    .rw[cL b,aR (by simp[j,b]),aL ai];rfl)
  (λ_ _ _ _ _ _ _=>trivial)
  (λu _=>by
   unfold nC;rw[aw,af])
  (λ_ _ _ _ _ h=>by cases h) () trivial
 have run:∀(r:ay) i,∃q,uL (λi _ x=>ab (if x=0\/x=47 then Sum.inr (1,(false,(i:Int),()),()) else Sum.inl ())) (λi _=>(0,(false,i,()),())) r i ()=ab q /\
   q.1=(if 0∉r/\47∉r then 0 else 1)/\q.2.1.1=false:=by
  intro r;induction r with
  | nil=>intro i;exact⟨_,rfl,bb,rfl⟩
  | cons x r n =>
    intro i;unfold uL;by_cases h:x=0\/x=47
    .simp
     grind
    .simp;obtain⟨q,b,k,o⟩:=n (i+1)
     grind
 obtain⟨q,b,k,o⟩:=run s 0;have g:Loop _ ((false,(0:Int),()),())=ab q:=key.trans b;rw[g,aa];have el:cu 1 (len s)=decide (1<=s.length):=by unfold len;apply gX.2;omega
 have p:cu _ 32=decide _:=Ah 32 s;rw[el,p,k];unfold sI;by_cases a:0∉s/\47∉s
 .rw[aX a,b9];by_cases c:1<=s.length
  .by_cases d:s.length<=32
   .by_cases e:s=[46]
    .simp[e,ao,bH,nt]
    .by_cases f:s=[46,46]
     .simp[f,ao,bH,nt]
     .simp[a,c,d,ao,bH,nt]
   .simp[d,ao]
  .simp[c,ao]
 .rw[aR a,fv,af]
  grind
def QG p (j:p.length<=1048576):wY (p,())=ab ((parts p).all sI&&decide ((parts p).length<=8)&&decide (p.length<=96),()):=by
 unfold wY;rw[iw p j,aa];have e:=QF p;have k:=fM p;generalize parts p=l at e k;have key:=pV (f:=tQ (l,())) l (λ_ i=>((false,i,()),()))
  (λi _ x=>ab (if sI x=false then .inr _ else .inl ())) (λi _=>(0,(false,i,()),())) (λ_ _=>True)
  (λu i x g m _=>by
   unfold tQ;have c:=e x (eQ g);rw[aq m,au g,aa,Pb x ai,aa];rw[dD c.1,adD];cases h:sI x with
   | true=>rw[ aL ai];rfl
   | false=>rfl)
  (λ_ _ _ _ _ _ _=>trivial)
  (λu _=>by
   unfold tQ;rw[aw,af])
  (λ_ _ _ _ _ h=>by cases h) () trivial
 have run:∀r i,∃q,uL (λi _ x=>ab (if sI x=false then Sum.inr (1,(false,(i:Int),()),()) else Sum.inl ())) (λi _=>(0,(false,i,()),())) r i ()=ab q /\
   q.1=(if r.all sI=true then 0 else 1)/\q.2.1.1=false:=by
  intro r;induction r with
  | nil=>intro i;exact⟨_,rfl,rfl,rfl⟩
  | cons x r v =>
    intro i;unfold uL;cases h:sI x with
    | false=>exact⟨_,rfl,by simp[h],rfl⟩
    | true =>
      simp_all
 obtain⟨q,n,o,s⟩:=run l 0;have b:Loop _ ((false,(0:Int),()),())=ab q:=key.trans n;rw[b,aa,o,s];have t:cu _ 8=decide _:=Ah 8 l;have d:cu _ 96=decide _:=Ah 96 p;rw[t,d];cases h:l.all sI with
 | true =>
   rw[aX rfl,b9];by_cases a:l.length<=8<;>simp[ ao]
 | false=>rw[aR bb,fv,af];simp
def nG(x:ay):Bool:=decide (x≠[]/\x≠[46])
def names(s:ay):List ay:=(parts s).filter nG
def nH(s:ay):Bool:=(names s).all sI&&decide (s.head?≠ab 47)&&decide ((names s).length<=8)&&decide ((aP<|names s).length<=96)
def lv(s:ay):ay×Int:=if nH s then(aP<|names s,0) else([],2)
def wG s:∀x∈names s,47∉x/\x≠[]/\x.length<=s.length:=by
 intro x a;obtain⟨b,c⟩:=y9.1 a;obtain⟨d,e⟩:=QF s x b;simp only[nG] at c
 grind
def Gv s:(names s).length<=s.length+1:=iU (TU _ _) (fM s)
def Jj s:parts (aP<|names s)=names s:=j7 _ λx a=>⟨(wG s x a).1,(wG s x a).2.1⟩
def xg s:(aP<|names s).length<=s.length:=by
 have gen:∀l,(aP<|l.filter nG).length<=(aP l).length:=by
  intro l;induction l with
  | nil=>simp
  | cons x r a =>
    by_cases b:nG x=true
    .rw[aie b];cases c:r.filter nG with
     | nil =>
       cases r with
       | nil=>apply cp
       | cons y r=>simp only[aP,jB,jC];omega
     | cons y q =>
       rw[c] at a;cases r with
       | nil=>simp at c
       | cons z r=>simp only[aP,jB,jC] at a⊢;omega
    .rw[List.filter_cons_of_neg b];cases r with
     | nil=>simp[aP]
     | cons z r=>rw[aP];simp;omega
 have:=gen (parts s);rw[fV] at this;exact this
def Vy s:cE (s,[47],())=ab (decide<|s.head?=ab 47,()):=by
 unfold cE cA;cases s with
 | nil=>rfl
 | cons b r =>
   have a:inside 0 (len [(47:UInt8)]) (len (b::r))=true:=aV aK aK (by simp only[len,jC,nQ];omega);rw[(bO<|by simp only[len,jC,nQ];omega),ae,a,ae,Qw,aa,aa];simp[bH]
def QH s (A:s.length<=4096):pY (s,())=ab ((lv s).1,(lv s).2,()):=by
 unfold pY;rw[ri s ai,aa];have B:=fM s;have key:=pV (f:=oS (parts s,())) (parts s) (λo i=>((([]),0,(),(i:Int),()),o,()))
  (λi o x=>ab (if nG x=false then .inl o else if sI x=false then .inr _ else .inl (o++[x]))) (λi o=>(0,(([]),0,(),(i:Int),()),o,())) (λi o=>o.length<=i)
  (λo i x l t u=>by
   unfold oS;rw[aq t,ae,au l,aa];have e:nG x=(nt (bH x [])&&nt (bH x [46])):=by simp[nG,bH,nt]
   by_cases a:x=[]
   .rw[di a,aG,af,ae,aa];rw[ aL ai,aX (by rw[e,di a];rfl)];rfl
   .by_cases b:x=[46]
    .rw[bw a,aA,ae,di b,ae,aa];rw[ aL ai,aX (by rw[e,di b];simp[nt])];rfl
    .rw[bw a,aA,ae,bw b,af,Yo,aa];have g:nG x=true:=by rw[e,bw a,bw b];rfl
     cases h:sI x with
     | false =>
       rw[aA,ae,aa];rw[ aR (by rw[g];simp)];rfl
     | true =>
       rw[aG,af,bo jA];rw[ aL ai,aR (by rw[g];simp)];rfl)
  (λo i x C l u j=>by
   have j:=aQ j;by_cases a:nG x=false
   .grind
   .rw[aR a] at j;by_cases b:sI x=false
    .grind
    .rw[aR b] at j;obtain rfl:=T4 j;simp;omega)
  (λo _=>by
   unfold oS;rw[aw,af])
  (λ_ _ _ _ _ h=>by cases h) [] (cp _)
 have run:∀r i o,∃q,uL (λi o x=>ab (if nG x=false then Sum.inl o else if sI x=false then Sum.inr (1,(([]:ay),(2:Int),(),(i:Int),()),o,()) else Sum.inl (o++[x]))) (λi o=>(0,(([]),0,(),i,()),o,())) r i o=ab q /\
   (if(r.filter nG).all sI=true then q.1=0/\q.2.2.1=o++r.filter nG else q.1=1/\q.2.1.1=[]/\q.2.1.2.1=2):=by
  intro r;induction r with
  | nil=>intro i o;exact⟨_,rfl,bb⟩
  | cons x r v =>
    intro i o;unfold uL;cases e:nG x with
    | false =>
      simp_all
    | true =>
      rw[aie e];cases l:sI x with
      | false=>exact⟨_,rfl,by simp[l]⟩
      | true =>
        obtain⟨q,n,d⟩:=v (i+1) (o++[x])
        grind
 obtain⟨q,n,d⟩:=run _ 0 [];have k:Loop _ ((([]),(0:Int),(),(0:Int),()),_)=ab q:=key.trans n;rw[k,aa];rw[show(parts s).filter nG=names s from rfl,Bx] at d;have D:=xg s;have w:=Gv s;unfold lv nH;cases p:(names s).all sI with
 | false =>
   rw[p] at d;rw[d.1,d.2.1,d.2.2];rfl
 | true =>
   rw[p] at d;rw[d.1,b9,d.2];have y:lf (names s,[47],())=ab (aP<|names s,()):=by
    show(EK (names s) [47]).map _=_
    unfold EK;rw[ae5,aX ⟨ai,ai⟩];rfl
   rw[y,aa,Vy,aa];have z:ba 8 (len<|names s)=!decide ((names s).length<=8):=by
    by_cases h:(names s).length<=8
    .rw[aJ<|by simp only[len];omega];simp[h]
    .rw[aO<|by simp only[len];omega];simp[h]
   have m:ba 96 (len<|aP<|names s)=!decide ((aP<|names s).length<=96):=by
    by_cases h:(aP<|names s).length<=96
    .rw[aJ<|by simp only[len];omega];simp[h]
    .rw[aO<|by simp only[len];omega];simp[h]
   rw[z,m];by_cases a:s.head?=ab 47
   .simp[a,ao,nt]
   .by_cases b:(names s).length<=8
    .by_cases c:(aP<|names s).length<=96<;>simp[a,b,c,ao,nt]
    .simp[ b,ao,nt]
def SF s (u:s.length<=4096):tR (s,())=ab ((lv s).1,(lv s).2,()):=by
 unfold tR;rw[iw s ai,aa];have v:=fM s;have key:=pV (f:=lr (parts s,())) (parts s) (λo i=>(((),i,()),o,()))
  (λi o x=>ab (.inl<|if nG x=true then o++[x] else o)) (λi o=>(((),(i:Int),()),o,())) (λi o=>o.length<=i)
  (λo i x g k l=>by
   unfold lr;rw[aq k,ae,au g,aa,aa];have e:nG x=(nt (bH x [])&&nt (bH x [46])):=by simp[nG,bH,nt]
   by_cases a:x=[]
   .rw[di a,aL ai,aR (by rw[e,di a];simp[nt])];rfl
   .by_cases b:x=[46]
    .rw[bw a,aA,ae,di b,aL ai,aR (by rw[e,di b];simp[nt])];rfl
    .rw[bw a,aA,ae,bw b,aa,aa,bo jA,aL ai,aX (by rw[e,bw a,bw b];rfl)];rfl)
  (λo i x w g l m=>by
   obtain rfl:=T4 (aQ m);by_cases a:nG x=true
   .grind
   .rw[aR a];omega)
  (λo _=>by
   unfold lr;rw[aw];rfl)
  (λ_ _ _ _ _ h=>by cases h) [] (cp _)
 have run:∀r i o,∃j,uL (λi o x=>ab (Sum.inl<|if nG x=true then o++[x] else o)) (λi o=>(((),(i:Int),()),o,())) r i o=ab (((),j,()),o++r.filter nG,()):=by
  intro r;induction r with
  | nil=>intro i o;exact⟨i,by simp[uL]⟩
  | cons x r n =>
    intro i o;unfold uL;by_cases e:nG x=true
    .simp only;obtain⟨j,h⟩:=n (i+1) (o++[x])
     grind
    .simp_all
 obtain⟨j,p⟩:=run _ 0 [];have d:Loop (lr (parts s,())) (((),0,()),([]),())=ab (((),j,()),names s,()):=by
  have:=key.trans p;exact this
 have y:=xg s;have q:=Gv s;rw[d,aa];dsimp only;rw[Ce _ ai ai,aa];have e0:ag (ao (nt<|bH s []) (ag (idx s 0) λt=>ab (aS (u8 t) 47))<|some false)=λ(f:Bool->Option (ay×Int×al))=>f (decide<|s.head?=ab 47):=by
  funext f;cases s with
  | nil=>rfl
  | cons b r =>
    rw[bw bb,aA,ae,show idx _ 0=ab b from rfl,aa,aaa,aa];simp_all
 rw[e0];dsimp only;rw[QG _ ai,Jj];unfold lv nH;by_cases a:s.head?=ab 47
 .simp[a,ao,nt,ag]
 .cases z:(names s).all sI with
  | false=>simp[ ao,nt,ag]
  | true =>
    by_cases b:(names s).length<=8
    .by_cases c:(aP<|names s).length<=96<;>simp[a,b,c,ao,nt,ag]
    .simp[ b,ao,nt,ag]
def Be(p:ay):Nat->Option Nat
 | 0=>ah
 | n+1=>if p[n]?=ab 47 then ab n else Be p n
def SG p (f:p.length<=1048576):dk (p,47,())=ab (match Be p p.length with|some k=>k|none=>-1,()):=by
 unfold dk;have run:∀n,n<=p.length->∃q,Loop (cR (p,47,())) ((0,(n-1),()),())=ab q/\(match Be p n with|some k=>q.1=1/\q.2.1.1=k|none=>q.1=0):=by
  intro n;induction n with
  | zero =>
    intro _;refine⟨(0,(0,-1,()),()),?_,rfl⟩;rw[aT];rfl
  | succ n g =>
    intro h;obtain⟨y,c⟩:∃y,p[n]?=ab y:=⟨_,ik ai⟩;rw[ aT];have st:cR (p,47,()) ((0,n,()),())=if y=47 then ab (.inr (1,(n,n,()),())) else ab (.inl ((0,n-1,()),())):=by
     unfold cR;dsimp only;rw[bO ai,ae,au c,aa,aaa,dL ai ai,MF]
    rw[ Be]
    grind
 obtain⟨q,d,a⟩:=run p.length (cp _);have e:da .i64 (len p) 1=p.length-1:=by rw[bE,dL ai ai]
 rw[e,d,aa];cases b:Be p p.length with
 | none=>rw[b] at a;rw[a,b9,ae]
 | some k=>rw[b] at a;rw[a.1,a.2,fv,af]
def MO:∀{p n k},Be p n=ab k->k<n/\p[k]?=ab 47/\∀j,k<j->j<n->p[j]?≠ab 47:=by
 intro p n;induction n with
 | zero=>intro k h;cases h
 | succ n a =>
   intro k h;rw[Be] at h
   grind
def Yp:∀{p n},Be p n=ah->∀j,j<n->p[j]?≠ab 47:=by
 intro p n;induction n with
 | zero=>omega
 | succ n a =>
   intro h j b;rw[Be] at h
   grind
def bp(p:ay):ay×ay:=match Be p p.length with|some k=>(p.take k,p.drop (k+1))|none=>([],p)
def rj p:(47∉p/\bp p=([],p))\/∃a b,p=a++47::b/\47∉b/\bp p=(a,b):=by
 unfold bp;cases h:Be p p.length with
 | none =>
   refine .inl ⟨λd=>?_,rfl⟩;obtain⟨j,c,e⟩:=adl d;exact Yp h j c (by rw[ik c,e])
 | some k =>
   obtain⟨l,f,g⟩:=MO h;refine .inr ⟨p.take k,p.drop _,?_,λd=>?_,rfl⟩
   .obtain⟨i,e⟩:=hR.1 f;rw[<-e,<-y8 i,BI]
   .obtain⟨j,c,e⟩:=adl d;rw[pP] at c;rw[List.getElem_drop] at e;exact g (k+1+j) ai ai (by rw[ik ai,e])
def qP p (a:p.length<=1048576):gr (p,())=ab ((bp p).1,(bp p).2,()):=by
 unfold gr pK;rw[show aS _ 0=false from rfl,af,show aS _ 1=true from rfl,ae,show idx [(47:UInt8)] 0=ab 47 from rfl,aa];rw[show u8 47=47 from rfl,SG p a,aa,aa];unfold bp;cases h:Be p p.length with
 | none=>rw[aO aK,ae]
 | some k =>
   obtain⟨b,_,_⟩:=MO h;dsimp only;rw[aJ ai,af,show inside 0 _ _=true from aV ai ai (by rw[bE];omega),ae,aL ai,aV ai (by rw[bE];omega) (sF _),ae,hU,mC p _ ai]
def Cf a b (g:47∉b):cC (a++47::b)=cC a++[b]:=by
 induction a with
 | nil =>
   have e:cC (47::b)=[]::cC b:=by rw[cC,aX rfl]
   rw[Bx,e,pc b g];rfl
 | cons c a d =>
   rw[JJ];by_cases h:c=47
   .rw[cC,aX h,d]
    conv=>rhs;rw[cC,aX h]
    rfl
   .cases f:cC a with
    | nil=>exact absurd f (pb a)
    | cons x t =>
      rw[f] at d;rw[j6 h f,j6 h (by rw[d];rfl)];rfl
def vV p (h:p.length<=4096):kt (p,())=ab ((bp p).1,(bp p).2,()):=by
 unfold kt;rw[iw p ai,aa];by_cases g:p=[]
 .subst g;rfl
 have c:parts p=cC p:=by unfold parts;rw[aR g]
 rcases rj p with ⟨d,e⟩|⟨a,b,rfl,d,e⟩
 .rw[e,c,pc p d];have f:oT (sub [p] 0<|minus (da .i64 (len [p]) 1) 0,())=ab ([],()):=by
   exact Ce [] bb (by simp[aP])
  rw[ f];rfl
 .rw[e,c,Cf a b d];have i:=DW a;rw[jB] at h;have f:da .i64 (len<|cC a++[b]) 1=(((cC a).length:Nat):Int):=by
   rw[bE,dL ai jA]
   grind
  rw[f,ax (by rw[bE,jB];simp;omega),af,aV ai ai (by rw[bE,jB];omega),ae,hU,T1,
   Ce _ ai (by rw[vU];omega),vU,vQ]
  simp[ag]
def rk(d n:ay):ay:=if d=[]\/n=[] then d++n else d++47::n
def HS d n (hd:d.length<=1048576) (c:n.length<=1048576):oU (d,n,())=ab (rk d n,()):=by
 unfold oU rk;dsimp only;by_cases a:d=[]
 .rw[di a,bo ai,aX (.inl a)];rfl
 .rw[bw a,aA,ae];by_cases b:n=[]
  .rw[di b,bo ai,aX (.inr b)];rfl
  .rw[bw b,af,bo jA,ae,bo (by simp only[vf,jB,jC,nQ];omega),ae,aR (by simp[a,b])];simp[app]
def Ap d n (hd:d.length<=1048576) (c:n.length<=1048576):oV (d,n,())=ab (rk d n,()):=by
 unfold oV rk;by_cases a:d=[]
 .rw[ a];rfl
 .rw[bw a,af];by_cases b:n=[]
  .rw[di b,ae,aX (.inr b),b,zQ]
  .rw[bw b,af,bo jA,ae,bo (by simp only[vf,jB,jC,nQ];omega),ae,aR (by simp[a,b])];simp[app]
def du(x y:List ay):Bool:=decide (y.length<x.length/\x.take y.length=y)
def QI{α}[DecidableEq α](Q:Nat->Nat->Nat×(Bool×Int×al)×al)(a:∀i j,(Q i j).1=j/\(Q i j).2.1.1=false):∀(r:List (α×α)) i,∃q,uL (λi _ p=>ab (if p.1=p.2 then Sum.inl () else Sum.inr (Q i 1))) (λi _=>Q i 0) r i ()=ab q /\
  q.1=(if r.all (λp=>decide (p.1=p.2))=true then 0 else 1)/\q.2.1.1=false:=by
 intro r;induction r with
 | nil=>intro i;exact⟨_,rfl,(a _ _).1,(a _ _).2⟩
 | cons p r b =>
   intro i;unfold uL;by_cases h:p.1=p.2
   .simp;obtain⟨q,c,d,e⟩:=b (i+1)
    grind
   .simp_all
def abM x y (hx:x.length<=1048576) (hy:y.length<=1048576):fc (x,y,())=ab (decide<|x=y,()):=by
 unfold fc;rw[Vc];by_cases a:x.length=y.length
 .rw[dD a,aG,af];have key:=pV (f:=et (x,y,())) (x.zip y) (λ_ i=>((false,i,()),()))
   (λi _ p=>ab (if p.1=p.2 then .inl () else .inr _)) (λi _=>(0,(false,i,()),())) (λ_ _=>True)
   (λu i p g m _=>by
    obtain⟨b,d⟩:=aeJ g;have k:=aF b;unfold et;rw[aq<|aF b,au b,aa,au d,aa];by_cases e:p.1=p.2
    .rw[di e,aL ai,aX e];rfl
    .rw[bw e,aR e];rfl)
   (λ_ _ _ _ _ _ _=>trivial)
   (λu _=>by
    have e:(x.zip y).length=x.length:=by rw[adx,a,adG]
    unfold et;rw[e,aw,af])
   (λ_ _ _ _ _ h=>by cases h) () trivial
  obtain⟨q,b,d,l⟩:=QI (λi j=>(j,(false,_),())) (λ_ _=>⟨rfl,rfl⟩) (x.zip y) 0;have c:Loop _ ((false,(0:Int),()),())=ab q:=key.trans b;rw[c,aa,d,l,Sl a];by_cases e:x=y
  .rw[dD e,aX rfl,b9,ae]
  .rw[cL e,aR bb,fv,af]
 .rw[cL a,aA,ae,cL λe=>a (by rw[e])]
def zw p d (a:p.length<=4096) (hd:d.length<=4096):dE (p,d,())=ab (du (parts p)<|parts d,()):=by
 unfold dE du;have b:=fM p;rw[ri p ai,aa,ri d ai,aa];dsimp only;rw[Gj];by_cases h:(parts d).length<(parts p).length
 .rw[dD h,ae,show inside 0 _ _=true from aV aK (by rw[bE];omega) (by rw[bE,bE];omega),ae,Qw,abM _ _ (by rw[kC];omega) ai,aa,aa];simp[h]
 .rw[cL h,af,aa];simp[h]
def SH p d (k:p.length<=4096) (hd:d.length<=4096):tS (p,d,())=ab (du (parts p)<|parts d,()):=by
 unfold tS du;have c:=fM p;have g:=fM d;rw[iw p ai,aa,iw d ai,aa];dsimp only;rw[ME];generalize parts p=x at c;generalize parts d=y at g;by_cases h:y.length<x.length
 .rw[cL ai,af];have e:(x.zip y).length=y.length:=by rw[adx];omega
  have key:=pV (f:=oW (x,()) (y,())) (x.zip y) (λ_ i=>((false,i,()),()))
   (λi _ p=>ab (if p.1=p.2 then .inl () else .inr _)) (λi _=>(0,(false,i,()),())) (λ_ _=>True)
   (λu i p k o _=>by
    obtain⟨c,g⟩:=aeJ k;unfold oW;rw[aq<|aF c,aq (aF g),au c,aa,au g,aa];by_cases e:p.1=p.2
    .rw[di e,aL ai,aX e];rfl
    .rw[bw e,aR e];rfl)
   (λ_ _ _ _ _ _ _=>trivial)
   (λu _=>by
    unfold oW;rw[e,aw,af,af])
   (λ_ _ _ _ _ h=>by cases h) () trivial
  obtain⟨q,l,m,n⟩:=QI (λi j=>(j,(false,_),())) (λ_ _=>⟨rfl,rfl⟩) (x.zip y) 0;have b:Loop _ ((false,(0:Int),()),())=ab q:=key.trans l;rw[b,aa,m,n,Ve,show min x.length y.length=y.length by omega,Es];by_cases a:x.take y.length=y
  .rw[dD a,aX rfl,b9,ae];simp[h,a]
  .rw[cL a,aR bb,fv,af];simp[a]
 .rw[dD ai,ae];simp[h]
def QJ x:iZ (x,())=ab (false,()):=by
 unfold iZ;rw[rR];rfl
def ae6 x y:jZ (x,y,())=ab (X5 x y,()):=by
 unfold jZ X5;rw[QJ,aa,QJ,aa];rw[af,af,X4];rcases C9 x y with h|rfl|h
 .rw[h,ae,aX rfl]
 .rw[kq,af,af,aR bb,aX rfl]
 .rw[rb h,af,h,ae,aR bb,aR λe=>EL h e.symm]
def Cg a b (F:a.length<=4096) (G:b.length<=4096):ha (a,b,())=ab (cmpL (parts a)<|parts b,()):=by
 unfold ha;have s:=fM a;have t:=fM b;rw[ri a ai,aa,ri b ai,aa];generalize parts a=x at s;generalize parts b=y at t;have run:∀n i,x.length-i<=n->i<=x.length->i<=y.length->x.take i=y.take i->∃q,Loop (dO (x,()) (y,())) ((0,i,()),())=ab q /\
   (if q.1=0 then x.length<=y.length/\cmpL (x.drop i) (y.drop i)=(if x.length<y.length then -1 else 0) else q.1=1/\q.2.1.1=cmpL (x.drop i) (y.drop i)):=by
  intro n;induction n with
  | zero =>
    intro i w z k A;obtain rfl:i=x.length:=ai;refine⟨(0,(0,x.length,()),()),?_,?_⟩
    .rw[aT];have:dO (x,()) (y,()) ((0,x.length,()),())=ab (.inr (0,(0,x.length,()),())):=by
      unfold dO;rw[aw,af]
     grind
    .rw[aX rfl];refine⟨k,?_⟩;rw[Lk];by_cases h:x.length<y.length
     .rw[aX h];cases hd:y.drop x.length with
      | nil=>have:=congrArg List.length hd;simp at this;omega
      | cons b r=>rfl
     .rw[aR h,JG ai];rfl
  | succ n H =>
    intro i w z k A;by_cases hi:i<x.length
    .obtain⟨u,d⟩:∃u,x[i]?=ab u:=⟨_,ik hi⟩;obtain⟨B,f⟩:=hR.1 d;have m:x.drop i=u::x.drop (i+1):=by rw[y8 hi,f]
     rw[aT];by_cases o:i<y.length
     .obtain⟨v,p⟩:∃v,y[i]?=ab v:=⟨_,ik o⟩;obtain⟨C,g⟩:=hR.1 p;have D:y.drop i=v::y.drop (i+1):=by rw[y8 o,g]
      have st:dO (x,()) (y,()) ((0,(i:Int),()),())=if u=v then ab (.inl ((0,((i+1:Nat):Int),()),())) else ab (.inr (1,(X5 u v,i,()),())):=by
       unfold dO;dsimp only;rw[aq hi,ae,au d,aa,Ah,cL ai,af,au p,aa,ae6,aa];by_cases e:u=v
       .rw[aX e,show X5 u v=0 by unfold X5;rw[e,kq,aR bb,aX rfl],show nt _=false from rfl,af,aL ai]
       .rw[aR e,show aS _ 0=false from ax (by unfold X5;split<;>(try split)<;>first|decide|exact absurd (by assumption) e),aA,ae]
      rw[st,m,D,cmpL];by_cases e:u=v
      .grind
      .rw[aR e];refine⟨_,rfl,?_⟩;unfold X5
       grind
     .have st:dO (x,()) (y,()) ((0,i,()),())=ab (.inr (1,(1,i,()),())):=by
       unfold dO;dsimp only;rw[aq hi,ae,au d,aa,Ah,dD ai,ae]
      rw[st];refine⟨_,rfl,?_⟩;rw[ m,show y.drop i=[] from JG ai];exact⟨rfl,rfl⟩
    .grind
 obtain⟨q,E,c⟩:=run x.length 0 ai ai ai rfl;have j:Loop (dO _ _) ((0,0,()),())=ab q:=E;rw[j,aa];rw[zR,zR] at c;by_cases h:q.1=0
 .rw[aX h] at c;rw[h,b9,ae,Gj,c.2];by_cases l:x.length<y.length
  .rw[dD l,ae,aX l]
  .rw[cL l,af,aR l]
 .rw[aR h] at c;rw[c.1,fv,af,c.2]
def Ch a b (F:a.length<=4096) (G:b.length<=4096):mF (a,b,())=ab (cmpL (parts a)<|parts b,()):=by
 unfold mF;have s:=fM a;have t:=fM b;rw[iw a ai,aa,iw b ai,aa];generalize parts a=x at s;generalize parts b=y at t;have run:∀n i,x.length-i<=n->i<=x.length->i<=y.length->∃q,Loop (dP (x,()) (y,())) ((0,i,()),())=ab q /\
   (if q.1=0 then cmpL (x.drop i) (y.drop i)=(if x.length<y.length then -1 else if y.length<x.length then 1 else 0) else q.1=1/\q.2.1.1=cmpL (x.drop i) (y.drop i)):=by
  intro n;induction n with
  | zero =>
    intro i w z A;obtain rfl:i=x.length:=ai;refine⟨(0,(0,x.length,()),()),?_,?_⟩
    .rw[aT];have:dP (x,()) (y,()) ((0,x.length,()),())=ab (.inr (0,(0,x.length,()),())):=by
      unfold dP;rw[aw,af,af]
     grind
    .rw[aX rfl,Lk];by_cases h:x.length<y.length
     .rw[aX h];cases hd:y.drop x.length with
      | nil=>have:=congrArg List.length hd;simp at this;omega
      | cons b r=>rfl
     .rw[aR h,JG ai,aR ai];rfl
  | succ n H =>
    intro i w z A;by_cases hi:i<x.length
    .obtain⟨u,k⟩:∃u,x[i]?=ab u:=⟨_,ik hi⟩;obtain⟨B,f⟩:=hR.1 k;have o:x.drop i=u::x.drop (i+1):=by rw[y8 hi,f]
     rw[aT];by_cases d:i<y.length
     .obtain⟨v,p⟩:∃v,y[i]?=ab v:=⟨_,ik d⟩;obtain⟨C,g⟩:=hR.1 p;have D:y.drop i=v::y.drop (i+1):=by rw[y8 d,g]
      have st:dP (x,()) (y,()) ((0,(i:Int),()),())=if u=v then ab (.inl ((0,((i+1:Nat):Int),()),())) else ab (.inr (1,(if ft u v=true then -1 else 1,(i,())),())):=by
       unfold dP;rw[aq hi,aq d,ae,ae,au k,aa,au p,aa,aa,aa,X4];rcases C9 u v with h|rfl|h
       .rw[h,ae,aR (EL h),aX rfl]
       .rw[kq,af,af,aX rfl,aL ai]
       .rw[rb h,af,h,ae,aR (λe=>EL h e.symm),aR bb]
      rw[ o,D,cmpL]
      grind
     .have st:dP (x,()) (y,()) ((0,i,()),())=ab (.inr (0,(0,i,()),())):=by
       unfold dP;rw[aq hi,Gg,cL d,ae,af]
      rw[st];refine⟨_,rfl,?_⟩;rw[aX rfl,o,show y.drop i=[] from JG ai,aR ai,aX ai];rfl
    .grind
 obtain⟨q,E,c⟩:=run x.length 0 ai ai ai;have j:Loop (dP _ _) ((0,0,()),())=ab q:=E;rw[j,aa];rw[zR,zR] at c;by_cases h:q.1=0
 .rw[aX h] at c;rw[h,b9,ae,Gj,Gj,c];by_cases l:x.length<y.length
  .rw[dD l,ae,aX l]
  .rw[cL l,af,aR l];by_cases m:y.length<x.length
   .rw[dD m,ae,aX m]
   .rw[cL m,af,aR m]
 .rw[aR h] at c;rw[c.1,fv,af,c.2]
def Jk s p:cA (s,p,())=ab (decide<|s.take p.length=p,()):=by
 unfold cA;rw[ME];by_cases h:p.length<=s.length
 .rw[dD h,show inside 0 (len p) (len s)=true from aV aK (by rw[bE];omega) (by rw[bE,bE];omega)];rfl
 .rw[cL h,af,aa,cL]
  grind
def MP s p:cE (s,p,())=ab (decide<|s.take p.length=p,()):=by
 unfold cE;rw[Jk,aa]
def MQ s p:od (s,p,())=ab (decide<|s.take p.length=p,()):=by
 unfold od;rw[ME];by_cases h:p.length<=s.length
 .rw[dD h,show inside 0 (len p) (len s)=true from aV aK (by rw[bE];omega) (by rw[bE,bE];omega)];rfl
 .rw[cL h,af,aa,cL]
  grind
def ae7 s p:kL (s,p,())=ab (if s.take p.length=p then(s.drop p.length,true,()) else(s,false,())):=by
 unfold kL fJ;rw[Jk,aa];by_cases h:s.take p.length=p
 .have a:p.length<=s.length:=by
   grind
  rw[dD h,aG,af,show inside (len p) _ (len s)=true from aV (by rw[bE];omega) (by rw[bE,bE];omega) (sF _),ae,aa,aX h];rw[show sub s (len p) (minus _<|len p)=s.drop p.length from mC s p.length a]
 .rw[cL h,aA,ae,aa,aR h]
def Pc l s (j:l.length<=1048576):bB (l,s,())=ab (decide<|s∈l,()):=by
 unfold bB fb;have key:=pV (f:=bW (l,s,())) l (λ_ i=>((0,i,()),()))
  (λi _ x=>ab (if s=x then .inr _ else .inl ())) (λi _=>(0,(0,i,()),())) (λ_ _=>True)
  (λu i x c d _=>by
   unfold bW;rw[aq d,au c,aa];by_cases e:s=x
   .rw[di e,aX e];rfl
   .rw[bw e,aR e,aL ai];rfl)
  (λ_ _ _ _ _ _ _=>trivial)
  (λu _=>by
   unfold bW;rw[aw,af])
  (λ_ _ _ _ _ h=>by cases h) () trivial
 have run:∀r i,∃q,uL (λi _ x=>ab (if s=x then Sum.inr (1,((i:Int),(i:Int),()),()) else Sum.inl ())) (λi _=>(0,(0,i,()),())) r i ()=ab q /\
   (if s∈r then q.1=1/\0<=q.2.1.1 else q.1=0):=by
  intro r;induction r with
  | nil=>intro i;exact⟨_,rfl,bb⟩
  | cons x r k =>
    unfold uL;by_cases h:s=x
    .simp_all
    .simp_all
 obtain⟨q,g,a⟩:=run l 0;have b:Loop (bW _) ((0,0,()),())=ab q:=key.trans g;rw[b,aa];by_cases h:s∈l
 .rw[aX h] at a;rw[a.1,fv,af,aa,dD h];rw[bO a.2]
 .rw[aR h] at a;rw[a,cL h];rfl
def wh:ay:=[46,119,104,46]
def nI(n:ay):Int×ay :=
 if n.take 4=wh then(if n.drop 4=[46,119,104,46,46,111,112,113] then(2,[]) else if(n.drop 4).take 4=wh\/n.drop 4=[]\/n.drop 4=[46]\/n.drop 4=[46,46] then(3,[]) else(1,n.drop 4)) else(0,n)
def Vz n:rY (n,())=ab ((nI n).1,(nI n).2,()):=by
 unfold rY nI;rw[show([46,119,104,46])=wh from rfl,ae7,aa,show wh.length=4 from rfl];by_cases h:n.take 4=wh
 .have e:n=wh++n.drop 4:=by rw[<-h,BI]
  rw[aX h,aX h];rw[aG,af];generalize n.drop 4=r at e;by_cases a:r=[46,119,104,46,46,111,112,113]
  .rw[aX a,di (by rw[e,a];rfl),ae]
  .rw[aR a,bw (by rw[e];intro q;exact a (by simpa [wh] using q)),af,MP,aa];rw[show wh.length=4 from rfl];by_cases b:r.take 4=wh
   .rw[aX<|.inl b,dD b,aG,af,aa,ae]
   .rw[cL b,aA,ae,Pc _ _ aK,aa,aa,MF]
    grind
 .rw[aR h,aR h];rfl
def Jl n:r0 (n,())=ab ((nI n).1,(nI n).2,()):=by
 unfold r0 nI;rw[MQ,MQ];by_cases h:n.take 4=wh
 .have e:n=wh++n.drop 4:=by rw[<-h,BI]
  rw[aX h];generalize g:n.drop 4=r at e;by_cases a:r=[46,119,104,46,46,111,112,113]
  .rw[aX a,di (by rw[e,a];rfl),ae]
  .rw[aR a,bw (by rw[e];intro q;exact a (by simpa [wh] using q)),af,aa];have i:decide (n.take ([46,119,104,46,46,119,104,46]:ay).length=[46,119,104,46,46,119,104,46])=decide (r.take 4=wh):=by
    rw[e];apply gX.2;simp[wh]
   have j:bH n [46,119,104,46]=decide (r=[]):=by
    rw[e];apply gX.2;simp[wh]
   have k:bH n [46,119,104,46,46]=decide (r=[46]):=by
    rw[e];apply gX.2;simp[wh]
   have l:bH n [46,119,104,46,46,46]=decide (r=[46,46]):=by
    rw[e];apply gX.2;simp[wh]
   have m:decide (n.take ([46,119,104,46]:ay).length=[46,119,104,46])=true:=dD h;rw[i,j,k,l,m];have o:ao (ao (nt<|ao (nt<|ao (nt<|decide<|r.take 4=wh) (decide<|r=[]) true) (decide<|r=[46]) true) (decide<|r=[46,46]) true)=λ(x y:Option (Int×ay×al))=>if r.take 4=wh\/r=[]\/r=[46]\/r=[46,46] then x else y:=by
    funext x y;by_cases b1:r.take 4=wh
    .simp[b1,ao,nt]
    .by_cases c:r=[]
     .simp[c,ao,nt]
     .by_cases d:r=[46]
      .simp[d,ao,nt]
      .by_cases f:r=[46,46]
       .simp[f,ao]
       .rw[aR<|by simp[b1,c,d,f]];simp[b1,c,d,f,ao,nt]
   rw[o];dsimp only;by_cases b:r.take 4=wh\/r=[]\/r=[46]\/r=[46,46]
   .grind
   .rw[aR b,aR b,aa];have p:4<=n.length:=by rw[e];simp[wh]
    rw[ae,show inside 4 _ _=true from aV aK (by rw[bE];omega) (sF _),ae,show sub n 4 (minus _ 4)=n.drop 4 from mC n 4 p,g]
 .rw[aR h];have s:n≠[46,119,104,46,46,119,104,46,46,111,112,113]:=λq=>h (by rw[q];rfl);have t:n≠[46,119,104,46]:=λq=>h (by rw[q];rfl);have u:n≠[46,119,104,46,46]:=λq=>h (by rw[q];rfl);have v:n≠[46,119,104,46,46,46]:=λq=>h (by rw[q];rfl);have w:¬n.take ([46,119,104,46,46,119,104,46]:ay).length=[46,119,104,46,46,119,104,46]:=λq=>h (by
   have:=congrArg (List.take 4) q;rw[IL] at this;exact this)
  rw[bw s,af,aa];rw[cL w,bw t,bw u,bw v];rw[show ao _=λx y=>y from rfl];rw[aa];rw[cL<|by exact h,af]
def jv{a b}:ao a b false=(a&&b):=by cases a<;>rfl
def abN{s}(h:(lv s).2=0):nH s=true/\(lv s).1=aP (names s):=by
 unfold lv at h⊢
 grind
def rl{s}(h:nH s=true):(names s).all sI=true/\(names s).length<=8/\(aP<|names s).length<=96:=by
 unfold nH at h
 grind
def Yq{l}(h:∀x∈l,47∉x/\x≠[]):(aP l).head?≠ab 47:=by
 cases l with
 | nil=>simp[aP]
 | cons x r =>
   obtain⟨c,a⟩:=h x (pI ..);have e:(aP (x::r)).head?=x.head?:=by
    cases x with
    | nil=>exact absurd rfl a
    | cons b x=>cases r<;>simp[aP]
   cases x with
   | nil=>exact absurd rfl a
   | cons b x =>
     grind
def MR l a (h:∀x∈a++l,47∉x/\x≠[]):l.foldl rk (aP a)=aP (a++l):=by
 induction l generalizing a with
 | nil=>simp
 | cons x r d =>
   have e:rk (aP a) x=aP (a++[x]):=by
    unfold rk;cases a with
    | nil=>rfl
    | cons y q =>
      have c:aP (y::q)≠[]:=by
       have:=(h y bb).2;cases q with
       | nil=>exact this
       | cons z q=>rw[aP];simp
      have gen:∀y q,aP (y::q++[x])=aP (y::q)++47::x:=by
       intro y q;induction q generalizing y with
       | nil=>rfl
       | cons z q b =>
         rw[JJ,JJ,aP,<-JJ,b z];rw[aP];simp
      grind
   grind
def Ci{l}(h:∀x∈l,47∉x/\x≠[]) c:bp (aP l)=(aP l.dropLast,l.getLast c):=by
 have d:=Gu l c λx g=>(h x g).1;rcases rj _ with ⟨e,f⟩|⟨a,b,i,e,f⟩
 .rw[pc _ e] at d;rw[f];generalize aP l=p at d;subst d;rfl
 .rw[f];rw[i,Cf a b e] at d;subst d;rw[List.dropLast_concat,List.getLast_concat,vU]
set_option maxRecDepth 100000
abbrev dm:=(Sb×Sb×Sb×al)
abbrev jf:=(Sb×(List Sb)×Sb×Sb×(List dm)×al)
abbrev pL:=((List<|Sb×(List Sb)×Sb×Sb×Sb×(List dm)×al)×(List jf)×(List<|Sb×Sb×(List Sb)×Sb×Int×Int×Bool×al)×(List Sb)×(List<|Sb×Int×al)×al)
abbrev qQ:=(Sb×(List Sb)×al)
abbrev eU:=(Int×Int×al)
abbrev Yr:=(Sb×(List Sb)×Sb×Sb×Sb×(List dm)×al)
abbrev ae8:=(Sb×Sb×(List Sb)×Sb×Int×Int×Bool×al)
abbrev EU:=(Bool×Int×al)
abbrev EV:=(Nat×eU×al×Sb×al)
abbrev EW:=(eU×al×Sb×al)
abbrev x9:=((al×Int×al)×(List Sb)×al)
abbrev Gw:=(Nat×eU×Sb×al)
abbrev SI:=(Sb×Int×Int×al)
abbrev Gx:=(ay×((List ay)×(ay×(ay×((List<|ay×(ay×(ay×al)))×al)))))
abbrev Gy:=(eU×Sb×al)
abbrev aab:=(Nat×EU×al)
abbrev aln:=((Int×al)×al×(List qQ)×al)
abbrev SJ:=(Int×Sb×Int×Sb×al)
abbrev KR:=(Nat×eU×al×dm×al)
abbrev alo:=(Nat×eU×(List Sb)×al)
abbrev alp:=(Int×(List ae8)×(List jf)×(List Yr)×al)
abbrev alq:=((Nat×(al×Int×al)×(List Sb)×al))
abbrev KT:=(eU×al×dm×al)
abbrev alr:=(eU×(List Sb)×al)
abbrev aac:=(EU×al)
abbrev als:=((Nat×(Int×al)×al×(List qQ)×al))
abbrev aad:=(Nat×eU×al×jf×al)
abbrev Gz:=(ay×(ay×(ay×al)))
abbrev KU:=(al×Int×al)
def aN(l:List Gz)(x:(Int×((List Gz)×al))):Option (List Gz):=uJ l x.1 x.2.1
def bk(l:List Gx)(x:(Int×(Int×al))):Option (List Gx):=HI l x.1 x.2.1
def bC(l:List Gz)(x:(Int×(Int×al))):Option (List Gz):=HI l x.1 x.2.1
def bG(l:List Gx)(x:(Int×((List Gx)×al))):Option (List Gx):=uJ l x.1 x.2.1
def ca(x:dm×al):Option (Sb×al) :=
 ab (x.1.1,())
def bQ(x:(List dm)×al):Option ((List dm)×al) :=
 bif fits (len x.1) then ab (x.1,()) else ah
def kN(x:(List dm)×Sb×Sb×al)(a:eU×al×Sb×al):Option (EW⊕EV) :=
 ao (ba a.1.2.1<|len x.1)
 (ag (idx x.1 a.1.2.1) λb=>ag (ca (b,())) λc=>ao (bH c.1 a.2.2.1)
 (ab<|Sum.inr (1,(a.1.2.1,a.1.2.1,()),(),a.2.2.1,()))
 (ab<|Sum.inl ((a.1.1,aH i64 a.1.2.1 1,()),(),a.2.2.1,())))
 (ab<|Sum.inr (0,(a.1.1,a.1.2.1,()),(),a.2.2.1,()))
def kO(x:(List dm)×Sb×Sb×al)(a:eU×al×Sb×al):Option (EW⊕EV) :=
 ao (ba a.1.2.1<|len x.1)
 (ag (idx x.1 a.1.2.1) λb=>ag (ca (b,())) λc=>ao (bH c.1 a.2.2.1)
 (ab<|Sum.inr (1,(a.1.2.1,a.1.2.1,()),(),a.2.2.1,()))
 (ab<|Sum.inl ((a.1.1,aH i64 a.1.2.1 1,()),(),a.2.2.1,())))
 (ab<|Sum.inr (0,(a.1.1,a.1.2.1,()),(),a.2.2.1,()))
def kP(b:(al×al)×(List dm)×al)(a:eU×al×dm×al):Option (KT⊕KR) :=
 ao (ba a.1.2.1<|len b.2.1)
 (ao (within a.1.2.1<|len b.2.1)
 (ag (idx b.2.1 a.1.2.1) λd=>ag (ca (d,())) λe=>ag (ca (a.2.2.1,())) λc=>ao (nt<|ft e.1 c.1)
 (ab<|Sum.inr (1,(a.1.2.1,a.1.2.1,()),(),a.2.2.1,()))
 (ab<|Sum.inl ((a.1.1,aH i64 a.1.2.1 1,()),(),a.2.2.1,())))
 ah)
 (ab<|Sum.inr (0,(a.1.1,a.1.2.1,()),(),a.2.2.1,()))
def kQ(b:(al×al)×(List dm)×al)(a:eU×al×dm×al):Option (KT⊕KR) :=
 ao (ba a.1.2.1<|len b.2.1)
 (ao (within a.1.2.1<|len b.2.1)
 (ag (idx b.2.1 a.1.2.1) λd=>ag (ca (d,())) λe=>ag (ca (a.2.2.1,())) λc=>ao (nt<|ft e.1 c.1)
 (ab<|Sum.inr (1,(a.1.2.1,a.1.2.1,()),(),a.2.2.1,()))
 (ab<|Sum.inl ((a.1.1,aH i64 a.1.2.1 1,()),(),a.2.2.1,())))
 ah)
 (ab<|Sum.inr (0,(a.1.1,a.1.2.1,()),(),a.2.2.1,()))
def kR(x:(List dm)×Sb×Sb×al)(a:eU×al×Sb×al):Option (EW⊕EV) :=
 ao (ba a.1.2.1<|len x.1)
 (ag (idx x.1 a.1.2.1) λb=>ag (ca (b,())) λc=>ao (bH c.1 a.2.2.1)
 (ab<|Sum.inr (1,(a.1.2.1,a.1.2.1,()),(),a.2.2.1,()))
 (ab<|Sum.inl ((a.1.1,aH i64 a.1.2.1 1,()),(),a.2.2.1,())))
 (ab<|Sum.inr (0,(a.1.1,a.1.2.1,()),(),a.2.2.1,()))
def kS(b:(al×al)×(List dm)×al)(a:eU×al×dm×al):Option (KT⊕KR) :=
 ao (ba a.1.2.1<|len b.2.1)
 (ao (within a.1.2.1<|len b.2.1)
 (ag (idx b.2.1 a.1.2.1) λd=>ag (ca (d,())) λe=>ag (ca (a.2.2.1,())) λc=>ao (nt<|ft e.1 c.1)
 (ab<|Sum.inr (1,(a.1.2.1,a.1.2.1,()),(),a.2.2.1,()))
 (ab<|Sum.inl ((a.1.1,aH i64 a.1.2.1 1,()),(),a.2.2.1,())))
 ah)
 (ab<|Sum.inr (0,(a.1.1,a.1.2.1,()),(),a.2.2.1,()))
def kT(b:(al×al)×(List dm)×al)(a:eU×al×dm×al):Option (KT⊕KR) :=
 ao (ba a.1.2.1<|len b.2.1)
 (ao (within a.1.2.1<|len b.2.1)
 (ag (idx b.2.1 a.1.2.1) λd=>ag (ca (d,())) λe=>ag (ca (a.2.2.1,())) λc=>ao (nt<|ft e.1 c.1)
 (ab<|Sum.inr (1,(a.1.2.1,a.1.2.1,()),(),a.2.2.1,()))
 (ab<|Sum.inl ((a.1.1,aH i64 a.1.2.1 1,()),(),a.2.2.1,())))
 ah)
 (ab<|Sum.inr (0,(a.1.1,a.1.2.1,()),(),a.2.2.1,()))
def lz(x:(List dm)×Sb×Sb×al):Option ((List dm)×Int×al) :=
 ag (mG (x.2.1,())) (λh=>ao (ao (nt<|nt h.1)
 (ba 64<|len x.2.2.1)
 true)
 (ab (([]:List dm),(1:Int),()))
 (ag (Loop (kN x) (((0:Int),(0:Int),()),(),x.2.1,())) λg=>ao (de g.1 0)
 (ao (ao (ba (-1) 0)
 (cu 4<|len x.1)
 false)
 (ab (([]:List dm),(5:Int),()))
 (ag (n9 (x.2.2.1,())) λe=>ag (ca ((x.2.1,e.1,x.2.2.1,()),())) λf=>ao (fits<|len x.1)
 (ag (Loop (kO x) (((0:Int),(0:Int),()),(),f.1,())) λd=>ao (de d.1 0)
 (ag (ao (cu 0<|-1)
 (ag (bC x.1 ((-1:Int),aH i64 (-1) 1,())) λa=>ab (((),()),a,()))
 (ab (((),()),x.1,()))) λa=>ag (Loop (kP a) (((0:Int),(0:Int),()),(),(x.2.1,e.1,x.2.2.1,()),())) λb=>ao (de b.1 0)
 (ag (aN a.2.1 (((ao (ba (-1) 0)
 ((len a.2.1,()),())
 (((-1:Int),()),())).1).1,([b.2.2.2.1]:List dm),())) λc=>ab (c,(0:Int),()))
 (ag (aN a.2.1 (((ao (ba b.2.1.1 0)
 ((len a.2.1,()),())
 ((b.2.1.1,()),())).1).1,([b.2.2.2.1]:List dm),())) λc=>ab (c,(0:Int),())))
 (ag (ao (cu 0 d.2.1.1)
 (ag (bC x.1 (d.2.1.1,aH i64 d.2.1.1 1,())) λa=>ab (((),()),a,()))
 (ab (((),()),x.1,()))) λa=>ag (Loop (kQ a) (((0:Int),(0:Int),()),(),(x.2.1,e.1,x.2.2.1,()),())) λb=>ao (de b.1 0)
 (ag (aN a.2.1 (((ao (ba (-1) 0)
 ((len a.2.1,()),())
 (((-1:Int),()),())).1).1,([b.2.2.2.1]:List dm),())) λc=>ab (c,(0:Int),()))
 (ag (aN a.2.1 (((ao (ba b.2.1.1 0)
 ((len a.2.1,()),())
 ((b.2.1.1,()),())).1).1,([b.2.2.2.1]:List dm),())) λc=>ab (c,(0:Int),()))))
 ah))
 (ao (ao (ba g.2.1.1 0)
 (cu 4<|len x.1)
 false)
 (ab (([]:List dm),(5:Int),()))
 (ag (n9 (x.2.2.1,())) λe=>ag (ca ((x.2.1,e.1,x.2.2.1,()),())) λf=>ao (fits<|len x.1)
 (ag (Loop (kR x) (((0:Int),(0:Int),()),(),f.1,())) λd=>ao (de d.1 0)
 (ag (ao (cu 0<|-1)
 (ag (bC x.1 ((-1:Int),aH i64 (-1) 1,())) λa=>ab (((),()),a,()))
 (ab (((),()),x.1,()))) λa=>ag (Loop (kS a) (((0:Int),(0:Int),()),(),(x.2.1,e.1,x.2.2.1,()),())) λb=>ao (de b.1 0)
 (ag (aN a.2.1 (((ao (ba (-1) 0)
 ((len a.2.1,()),())
 (((-1:Int),()),())).1).1,([b.2.2.2.1]:List dm),())) λc=>ab (c,(0:Int),()))
 (ag (aN a.2.1 (((ao (ba b.2.1.1 0)
 ((len a.2.1,()),())
 ((b.2.1.1,()),())).1).1,([b.2.2.2.1]:List dm),())) λc=>ab (c,(0:Int),())))
 (ag (ao (cu 0 d.2.1.1)
 (ag (bC x.1 (d.2.1.1,aH i64 d.2.1.1 1,())) λa=>ab (((),()),a,()))
 (ab (((),()),x.1,()))) λa=>ag (Loop (kT a) (((0:Int),(0:Int),()),(),(x.2.1,e.1,x.2.2.1,()),())) λb=>ao (de b.1 0)
 (ag (aN a.2.1 (((ao (ba (-1) 0)
 ((len a.2.1,()),())
 (((-1:Int),()),())).1).1,([b.2.2.2.1]:List dm),())) λc=>ab (c,(0:Int),()))
 (ag (aN a.2.1 (((ao (ba b.2.1.1 0)
 ((len a.2.1,()),())
 ((b.2.1.1,()),())).1).1,([b.2.2.2.1]:List dm),())) λc=>ab (c,(0:Int),()))))
 ah))))
def kU(x:(List dm)×Sb×al)(a:eU×al×Sb×al):Option (EW⊕EV) :=
 ao (ba a.1.2.1<|len x.1)
 (ag (idx x.1 a.1.2.1) λb=>ag (ca (b,())) λc=>ao (bH c.1 a.2.2.1)
 (ab<|Sum.inr (1,(a.1.2.1,a.1.2.1,()),(),a.2.2.1,()))
 (ab<|Sum.inl ((a.1.1,aH i64 a.1.2.1 1,()),(),a.2.2.1,())))
 (ab<|Sum.inr (0,(a.1.1,a.1.2.1,()),(),a.2.2.1,()))
def lA(x:(List dm)×Sb×al):Option (Sb×Int×al) :=
 ag (Loop (kU x) (((0:Int),(0:Int),()),(),x.2.1,())) (λa=>ao (de a.1 0)
 (ao (ba (-1) 0)
 (ab (([]:ay),(3:Int),()))
 (ag (idx x.1 (-1:Int)) λb=>ab (b.2.2.1,(0:Int),())))
 (ao (ba a.2.1.1 0)
 (ab (([]:ay),(3:Int),()))
 (ag (idx x.1 a.2.1.1) λb=>ab (b.2.2.1,(0:Int),()))))
def jg(x:Int×al):Option (SJ×al) :=
 ab ((x.1,([]:ay),(0:Int),([]:ay),()),())
def pd(x:(List qQ)×Sb×al)(a:eU×Sb×al):Option (Gy⊕Gw) :=
 ao (ba a.1.2.1<|len x.1)
 (ag (idx x.1 a.1.2.1) λb=>ao (bH b.1 a.2.1)
 (ab<|Sum.inr (1,(a.1.2.1,a.1.2.1,()),a.2.1,()))
 (ab<|Sum.inl ((a.1.1,aH i64 a.1.2.1 1,()),a.2.1,())))
 (ab<|Sum.inr (0,(a.1.1,a.1.2.1,()),a.2.1,()))
def pe(x:(List qQ)×Sb×al)(a:eU×Sb×al):Option (Gy⊕Gw) :=
 ao (ba a.1.2.1<|len x.1)
 (ag (idx x.1 a.1.2.1) λb=>ag (bB (b.2.1,a.2.1,())) λc=>ao c.1
 (ab<|Sum.inr (1,(a.1.2.1,a.1.2.1,()),a.2.1,()))
 (ab<|Sum.inl ((a.1.1,aH i64 a.1.2.1 1,()),a.2.1,())))
 (ab<|Sum.inr (0,(a.1.1,a.1.2.1,()),a.2.1,()))
def pf(x:(List qQ)×Sb×al)(c:Nat×eU×Sb×al)(a:KU×(List Sb)×al):Option (x9⊕x9) :=
 dq (ao (ba a.1.2.1<|len x.1)
 (ag (idx x.1 a.1.2.1) λb=>ag (cE (b.1,c.2.2.1,())) λd=>ag (ao d.1
 (ao (fits<|plus (len a.2.1)<|len ([b.1]:List Sb))
 (ab (((),()),app a.2.1 ([b.1]:List Sb),()))
 ah)
 (ab (((),()),a.2.1,()))) λe=>ab (Sum.inl (((),aH i64 a.1.2.1 1,()),e.2.1,())))
 (ab<|Sum.inr (0,((),a.1.2.1,()),a.2.1,())))
def HT(x:(List qQ)×Sb×al)(c:Nat×eU×Sb×al)(a:KU×(List Sb)×al):Option (x9⊕x9) :=
 dq (ao (ba a.1.2.1<|len x.1)
 (ag (idx x.1 a.1.2.1) λb=>ag (cE (b.1,c.2.2.1,())) λd=>ag (ao d.1
 (ao (fits<|plus (len a.2.1)<|len ([b.1]:List Sb))
 (ab (((),()),app a.2.1 ([b.1]:List Sb),()))
 ah)
 (ab (((),()),a.2.1,()))) λe=>ab (Sum.inl (((),aH i64 a.1.2.1 1,()),e.2.1,())))
 (ab<|Sum.inr (0,((),a.1.2.1,()),a.2.1,())))
def HU(x:(List qQ)×Sb×al)(a:eU×Sb×al):Option (Gy⊕Gw) :=
 ao (ba a.1.2.1<|len x.1)
 (ag (idx x.1 a.1.2.1) λb=>ag (bB (b.2.1,a.2.1,())) λc=>ao c.1
 (ab<|Sum.inr (1,(a.1.2.1,a.1.2.1,()),a.2.1,()))
 (ab<|Sum.inl ((a.1.1,aH i64 a.1.2.1 1,()),a.2.1,())))
 (ab<|Sum.inr (0,(a.1.1,a.1.2.1,()),a.2.1,()))
def HV(x:(List qQ)×Sb×al)(c:Nat×eU×Sb×al)(a:KU×(List Sb)×al):Option (x9⊕x9) :=
 dq (ao (ba a.1.2.1<|len x.1)
 (ag (idx x.1 a.1.2.1) λb=>ag (cE (b.1,c.2.2.1,())) λd=>ag (ao d.1
 (ao (fits<|plus (len a.2.1)<|len ([b.1]:List Sb))
 (ab (((),()),app a.2.1 ([b.1]:List Sb),()))
 ah)
 (ab (((),()),a.2.1,()))) λe=>ab (Sum.inl (((),aH i64 a.1.2.1 1,()),e.2.1,())))
 (ab<|Sum.inr (0,((),a.1.2.1,()),a.2.1,())))
def HW(x:(List qQ)×Sb×al)(c:Nat×eU×Sb×al)(a:KU×(List Sb)×al):Option (x9⊕x9) :=
 dq (ao (ba a.1.2.1<|len x.1)
 (ag (idx x.1 a.1.2.1) λb=>ag (cE (b.1,c.2.2.1,())) λd=>ag (ao d.1
 (ao (fits<|plus (len a.2.1)<|len ([b.1]:List Sb))
 (ab (((),()),app a.2.1 ([b.1]:List Sb),()))
 ah)
 (ab (((),()),a.2.1,()))) λe=>ab (Sum.inl (((),aH i64 a.1.2.1 1,()),e.2.1,())))
 (ab<|Sum.inr (0,((),a.1.2.1,()),a.2.1,())))
def iG(x:(List qQ)×Sb×al):Option (Sb×Int×al) :=
 ag (Loop (pd x) (((0:Int),(0:Int),()),x.2.1,())) (λd=>ao (de d.1 0)
 (ao (cu 0<|-1)
 (ab (x.2.1,(0:Int),()))
 (ag (Loop (pe x) (((0:Int),(0:Int),()),x.2.1,())) λb=>ao (de b.1 0)
 (ao (cu 0<|-1)
 (ag (idx x.1 (-1:Int)) λa=>ab (a.1,(0:Int),()))
 (ag (Loop (pf x b) (((),(0:Int),()),([]:List Sb),())) λa=>ao (ao (nt<|ao (nt<|bH b.2.2.1 ([]:ay))
 (cu 6<|len b.2.2.1)
 true)
 (aS (len a.2.1) 0)
 true)
 (ab (([]:ay),(3:Int),()))
 (ao (ba 1<|len a.2.1)
 (ab (([]:ay),(9:Int),()))
 (ao (within 0<|len a.2.1)
 (ag (idx a.2.1 (0:Int)) λc=>ab (c,(0:Int),()))
 ah))))
 (ao (cu 0 b.2.1.1)
 (ag (idx x.1 b.2.1.1) λa=>ab (a.1,(0:Int),()))
 (ag (Loop (HT x b) (((),(0:Int),()),([]:List Sb),())) λa=>ao (ao (nt<|ao (nt<|bH b.2.2.1 ([]:ay))
 (cu 6<|len b.2.2.1)
 true)
 (aS (len a.2.1) 0)
 true)
 (ab (([]:ay),(3:Int),()))
 (ao (ba 1<|len a.2.1)
 (ab (([]:ay),(9:Int),()))
 (ao (within 0<|len a.2.1)
 (ag (idx a.2.1 (0:Int)) λc=>ab (c,(0:Int),()))
 ah))))))
 (ao (cu 0 d.2.1.1)
 (ab (x.2.1,(0:Int),()))
 (ag (Loop (HU x) (((0:Int),(0:Int),()),x.2.1,())) λb=>ao (de b.1 0)
 (ao (cu 0<|-1)
 (ag (idx x.1 (-1:Int)) λa=>ab (a.1,(0:Int),()))
 (ag (Loop (HV x b) (((),(0:Int),()),([]:List Sb),())) λa=>ao (ao (nt<|ao (nt<|bH b.2.2.1 ([]:ay))
 (cu 6<|len b.2.2.1)
 true)
 (aS (len a.2.1) 0)
 true)
 (ab (([]:ay),(3:Int),()))
 (ao (ba 1<|len a.2.1)
 (ab (([]:ay),(9:Int),()))
 (ao (within 0<|len a.2.1)
 (ag (idx a.2.1 (0:Int)) λc=>ab (c,(0:Int),()))
 ah))))
 (ao (cu 0 b.2.1.1)
 (ag (idx x.1 b.2.1.1) λa=>ab (a.1,(0:Int),()))
 (ag (Loop (HW x b) (((),(0:Int),()),([]:List Sb),())) λa=>ao (ao (nt<|ao (nt<|bH b.2.2.1 ([]:ay))
 (cu 6<|len b.2.2.1)
 true)
 (aS (len a.2.1) 0)
 true)
 (ab (([]:ay),(3:Int),()))
 (ao (ba 1<|len a.2.1)
 (ab (([]:ay),(9:Int),()))
 (ao (within 0<|len a.2.1)
 (ag (idx a.2.1 (0:Int)) λc=>ab (c,(0:Int),()))
 ah)))))))
def lB(x:pL×al):Option ((List qQ)×al) :=
 ag (qN ((3:Int),((0:Int),x.1.2.2.1,([]:List jf),([]:List Yr),()),())) (λa=>ab (a.1,()))
def dF(x:pL×Sb×al):Option (Sb×Int×al) :=
 ag (lB (x.1,())) (λb=>ag (iG (b.1,x.2.1,())) λa=>ab (a.1,a.2.1,()))
def gG(x:pL×al):Option ((List qQ)×al) :=
 ag (qN ((2:Int),((0:Int),([]:List ae8),x.1.2.1,([]:List Yr),()),())) (λa=>ab (a.1,()))
def ya(x:Int×al):Option (Sb×al) :=
 ao (ba 16 0)
 ah
 (ao (ba 8 0)
 ah
 (ag (l9 (bu ([kE IntKind.u8<|mz i64 x.1 16,kE IntKind.u8 (mz i64 x.1 8),kE IntKind.u8 x.1]:List (Int)),())) λa=>ab (a.1,())))
def gR(x:(List qQ)×Int×al)(a:eU×Sb×al):Option (Gy⊕Gw) :=
 ao (ba a.1.2.1<|len x.1)
 (ag (idx x.1 a.1.2.1) λb=>ao (bH b.1 a.2.1)
 (ab<|Sum.inr (1,(a.1.2.1,a.1.2.1,()),a.2.1,()))
 (ab<|Sum.inl ((a.1.1,aH i64 a.1.2.1 1,()),a.2.1,())))
 (ab<|Sum.inr (0,(a.1.1,a.1.2.1,()),a.2.1,()))
def j8(x:(List qQ)×Int×al)(a:SI×al):Option ((SI×al)⊕(Nat×SI×al)) :=
 ao (ba a.1.2.2.1<|aH i64 (len x.1) 1)
 (ao (aS 16777216 0)
 ah
 (ag (ya (jQ (aH i64 (jR i64 x.2.1 16777215) a.1.2.2.1) 16777216,())) λb=>ag (Loop (gR x) (((0:Int),(0:Int),()),b.1,())) λc=>ao (de c.1 0)
 (ao (nt<|cu 0<|-1)
 (ab<|Sum.inr (1,(b.1,(0:Int),a.1.2.2.1,()),()))
 (ab<|Sum.inl ((a.1.1,a.1.2.1,aH i64 a.1.2.2.1 1,()),())))
 (ao (nt<|cu 0 c.2.1.1)
 (ab<|Sum.inr (1,(b.1,(0:Int),a.1.2.2.1,()),()))
 (ab<|Sum.inl ((a.1.1,a.1.2.1,aH i64 a.1.2.2.1 1,()),())))))
 (ab<|Sum.inr (0,(a.1.1,a.1.2.1,a.1.2.2.1,()),()))
def gH(x:(List qQ)×Int×al):Option (Sb×Int×al) :=
 ao (cu 32<|len x.1)
 (ab (([]:ay),(5:Int),()))
 (ag (Loop (j8 x) ((([]:ay),(0:Int),(0:Int),()),())) λa=>ao (de a.1 0)
 (ab (([]:ay),(5:Int),()))
 (ab (a.2.1.1,a.2.1.2.1,())))
def ef(x:jf×al):Option (Sb×al) :=
 ab (x.1.1,())
def bZ(x:(List jf)×al):Option ((List jf)×al) :=
 bif fits (len x.1) then ab (x.1,()) else ah
def fe(x:pL×jf×al)(a:eU×al×Sb×al):Option (EW⊕EV) :=
 ao (ba a.1.2.1<|len x.1.2.1)
 (ag (idx x.1.2.1 a.1.2.1) λb=>ag (ef (b,())) λc=>ao (bH c.1 a.2.2.1)
 (ab<|Sum.inr (1,(a.1.2.1,a.1.2.1,()),(),a.2.2.1,()))
 (ab<|Sum.inl ((a.1.1,aH i64 a.1.2.1 1,()),(),a.2.2.1,())))
 (ab<|Sum.inr (0,(a.1.1,a.1.2.1,()),(),a.2.2.1,()))
def qt(b:(al×al)×(List jf)×al)(a:eU×al×jf×al):Option ((eU×al×jf×al)⊕aad) :=
 ao (ba a.1.2.1<|len b.2.1)
 (ao (within a.1.2.1<|len b.2.1)
 (ag (idx b.2.1 a.1.2.1) λc=>ag (ef (c,())) λd=>ag (ef (a.2.2.1,())) λe=>ao (nt<|ft d.1 e.1)
 (ab<|Sum.inr (1,(a.1.2.1,a.1.2.1,()),(),a.2.2.1,()))
 (ab<|Sum.inl ((a.1.1,aH i64 a.1.2.1 1,()),(),a.2.2.1,())))
 ah)
 (ab<|Sum.inr (0,(a.1.1,a.1.2.1,()),(),a.2.2.1,()))
def qu(b:(al×al)×(List jf)×al)(a:eU×al×jf×al):Option ((eU×al×jf×al)⊕aad) :=
 ao (ba a.1.2.1<|len b.2.1)
 (ao (within a.1.2.1<|len b.2.1)
 (ag (idx b.2.1 a.1.2.1) λc=>ag (ef (c,())) λd=>ag (ef (a.2.2.1,())) λe=>ao (nt<|ft d.1 e.1)
 (ab<|Sum.inr (1,(a.1.2.1,a.1.2.1,()),(),a.2.2.1,()))
 (ab<|Sum.inl ((a.1.1,aH i64 a.1.2.1 1,()),(),a.2.2.1,())))
 ah)
 (ab<|Sum.inr (0,(a.1.1,a.1.2.1,()),(),a.2.2.1,()))
def ix(x:pL×jf×al):Option (pL×al) :=
 ag (bc (x.2.1.2.1,())) (λe=>ag (bQ (x.2.1.2.2.2.2.1,())) λf=>ag (ef ((x.2.1.1,e.1,x.2.1.2.2.1,x.2.1.2.2.2.1,f.1,x.2.1.2.2.2.2.2),())) λg=>ao (fits<|len x.1.2.1)
 (ag (Loop (fe x) (((0:Int),(0:Int),()),(),g.1,())) λd=>ao (de d.1 0)
 (ag (ao (cu 0<|-1)
 (ag (bk x.1.2.1 ((-1:Int),aH i64 (-1) 1,())) λa=>ab (((),()),a,()))
 (ab (((),()),x.1.2.1,()))) λa=>ag (Loop (qt a) (((0:Int),(0:Int),()),(),(x.2.1.1,e.1,x.2.1.2.2.1,x.2.1.2.2.2.1,f.1,x.2.1.2.2.2.2.2),())) λb=>ao (de b.1 0)
 (ag (bG a.2.1 (((ao (ba (-1) 0)
 ((len a.2.1,()),())
 (((-1:Int),()),())).1).1,([b.2.2.2.1]:List jf),())) λc=>ab ((x.1.1,c,x.1.2.2),()))
 (ag (bG a.2.1 (((ao (ba b.2.1.1 0)
 ((len a.2.1,()),())
 ((b.2.1.1,()),())).1).1,([b.2.2.2.1]:List jf),())) λc=>ab ((x.1.1,c,x.1.2.2),())))
 (ag (ao (cu 0 d.2.1.1)
 (ag (bk x.1.2.1 (d.2.1.1,aH i64 d.2.1.1 1,())) λa=>ab (((),()),a,()))
 (ab (((),()),x.1.2.1,()))) λa=>ag (Loop (qu a) (((0:Int),(0:Int),()),(),(x.2.1.1,e.1,x.2.1.2.2.1,x.2.1.2.2.2.1,f.1,x.2.1.2.2.2.2.2),())) λb=>ao (de b.1 0)
 (ag (bG a.2.1 (((ao (ba (-1) 0)
 ((len a.2.1,()),())
 (((-1:Int),()),())).1).1,([b.2.2.2.1]:List jf),())) λc=>ab ((x.1.1,c,x.1.2.2),()))
 (ag (bG a.2.1 (((ao (ba b.2.1.1 0)
 ((len a.2.1,()),())
 ((b.2.1.1,()),())).1).1,([b.2.2.2.1]:List jf),())) λc=>ab ((x.1.1,c,x.1.2.2),()))))
 ah)
def qv(x:pL×Sb×(List Sb)×Sb×Int×al):Option (pL×SJ×al) :=
 ag (fD (x.2.2.1,())) (λe=>ao (ao (nt<|nt<|aS e.1 0)
 (ba 64<|len x.2.2.2.1)
 true)
 (ag (jg ((1:Int),())) λa=>ab (x.1,a.1,()))
 (ag (ao (nt<|bH x.2.1 ([]:ay))
 (ag (dF (x.1,x.2.1,())) λa=>ab ((a.2.1,()),(([]:ay),x.2.2.1,a.1,x.2.2.2.1,([]:List dm),()),()))
 (ab (((0:Int),()),(([]:ay),x.2.2.1,([]:ay),x.2.2.2.1,([]:List dm),()),()))) λa=>ag (ao (aS a.1.1 0)
 (ag (gG (x.1,())) λd=>ag (gu (d.1,([]:ay),x.2.2.1,())) λb=>ab ((b.1,()),()))
 (ab ((a.1.1,()),()))) λd=>ag (ao (aS d.1.1 0)
 (ag (gG (x.1,())) λb=>ag (gH (b.1,x.2.2.2.2.1,())) λc=>ab ((c.2.1,()),(c.1,a.2.1.2),()))
 (ab ((d.1.1,()),a.2.1,()))) λb=>ao (nt<|aS b.1.1 0)
 (ag (jg (b.1.1,())) λc=>ab (x.1,c.1,()))
 (ag (ix (x.1,b.2.1,())) λc=>ab (c.1,((0:Int),b.2.1.1,(0:Int),([]:ay),()),()))))
def iH(x:pL×Sb×al):Option (Sb×Int×al) :=
 ag (gG (x.1,())) (λb=>ag (iG (b.1,x.2.1,())) λa=>ab (a.1,a.2.1,()))
def ma(x:pL×Sb×al)(a:eU×Sb×al):Option (Gy⊕Gw) :=
 ao (ba a.1.2.1<|len x.1.1)
 (ag (idx x.1.1 a.1.2.1) λb=>ao (bH b.2.2.1 a.2.1)
 (ab<|Sum.inr (1,(a.1.2.1,a.1.2.1,()),a.2.1,()))
 (ab<|Sum.inl ((a.1.1,aH i64 a.1.2.1 1,()),a.2.1,())))
 (ab<|Sum.inr (0,(a.1.1,a.1.2.1,()),a.2.1,()))
def mb(x:pL×Sb×al)(a:eU×al×Sb×al):Option (EW⊕EV) :=
 ao (ba a.1.2.1<|len x.1.2.1)
 (ag (idx x.1.2.1 a.1.2.1) λb=>ag (ef (b,())) λc=>ao (bH c.1 a.2.2.1)
 (ab<|Sum.inr (1,(a.1.2.1,a.1.2.1,()),(),a.2.2.1,()))
 (ab<|Sum.inl ((a.1.1,aH i64 a.1.2.1 1,()),(),a.2.2.1,())))
 (ab<|Sum.inr (0,(a.1.1,a.1.2.1,()),(),a.2.2.1,()))
def EX(x:pL×Sb×al)(a:eU×al×Sb×al):Option (EW⊕EV) :=
 ao (ba a.1.2.1<|len x.1.2.1)
 (ag (idx x.1.2.1 a.1.2.1) λb=>ag (ef (b,())) λc=>ao (bH c.1 a.2.2.1)
 (ab<|Sum.inr (1,(a.1.2.1,a.1.2.1,()),(),a.2.2.1,()))
 (ab<|Sum.inl ((a.1.1,aH i64 a.1.2.1 1,()),(),a.2.2.1,())))
 (ab<|Sum.inr (0,(a.1.1,a.1.2.1,()),(),a.2.2.1,()))
def qw(x:pL×Sb×al):Option (pL×SJ×al) :=
 ag (iH (x.1,x.2.1,())) (λd=>ao (nt<|aS d.2.1 0)
 (ag (jg (d.2.1,())) λc=>ab (x.1,c.1,()))
 (ag (Loop (ma x) (((0:Int),(0:Int),()),d.1,())) λc=>ao (de c.1 0)
 (ao (cu 0<|-1)
 (ag (jg ((7:Int),())) λb=>ab (x.1,b.1,()))
 (ao (fits<|len x.1.2.1)
 (ag (Loop (mb x) (((0:Int),(0:Int),()),(),c.2.2.1,())) λb=>ao (de b.1 0)
 (ag (ao (cu 0<|-1)
 (ag (bk x.1.2.1 ((-1:Int),aH i64 (-1) 1,())) λa=>ab (((),()),a,()))
 (ab (((),()),x.1.2.1,()))) λa=>ab ((x.1.1,a.2.1,x.1.2.2),((0:Int),c.2.2.1,(0:Int),([]:ay),()),()))
 (ag (ao (cu 0 b.2.1.1)
 (ag (bk x.1.2.1 (b.2.1.1,aH i64 b.2.1.1 1,())) λa=>ab (((),()),a,()))
 (ab (((),()),x.1.2.1,()))) λa=>ab ((x.1.1,a.2.1,x.1.2.2),((0:Int),c.2.2.1,(0:Int),([]:ay),()),())))
 ah))
 (ao (cu 0 c.2.1.1)
 (ag (jg ((7:Int),())) λb=>ab (x.1,b.1,()))
 (ao (fits<|len x.1.2.1)
 (ag (Loop (EX x) (((0:Int),(0:Int),()),(),c.2.2.1,())) λb=>ao (de b.1 0)
 (ag (ao (cu 0<|-1)
 (ag (bk x.1.2.1 ((-1:Int),aH i64 (-1) 1,())) λa=>ab (((),()),a,()))
 (ab (((),()),x.1.2.1,()))) λa=>ab ((x.1.1,a.2.1,x.1.2.2),((0:Int),c.2.2.1,(0:Int),([]:ay),()),()))
 (ag (ao (cu 0 b.2.1.1)
 (ag (bk x.1.2.1 (b.2.1.1,aH i64 b.2.1.1 1,())) λa=>ab (((),()),a,()))
 (ab (((),()),x.1.2.1,()))) λa=>ab ((x.1.1,a.2.1,x.1.2.2),((0:Int),c.2.2.1,(0:Int),([]:ay),()),())))
 ah))))
def qx(x:pL×Sb×al)(a:EU×jf×al):Option ((EU×jf×al)⊕(Nat×EU×jf×al)) :=
 ao (ba a.1.2.1<|len x.1.2.1)
 (ag (idx x.1.2.1 a.1.2.1) λb=>ao (bH b.1 x.2.1)
 (ag (bc (b.2.1,())) λc=>ag (bQ (b.2.2.2.2.1,())) λd=>ab (Sum.inr (1,(true,a.1.2.1,()),(b.1,c.1,b.2.2.1,b.2.2.2.1,d.1,b.2.2.2.2.2),())))
 (ab<|Sum.inl ((a.1.1,aH i64 a.1.2.1 1,()),a.2.1,())))
 (ab<|Sum.inr (0,(a.1.1,a.1.2.1,()),a.2.1,()))
def mf(x:pL×Sb×al):Option (jf×Bool×al) :=
 ag (Loop (qx x) ((false,(0:Int),()),(([]:ay),([]:List Sb),([]:ay),([]:ay),([]:List dm),()),())) (λa=>ao (de a.1 0)
 (ab ((([]:ay),([]:List Sb),([]:ay),([]:ay),([]:List dm),()),false,()))
 (ab (a.2.2.1,a.2.1.1,())))
def j9(x:(List dm)×(List dm)×al)(a:EU×al):Option (aac⊕aab) :=
 ao (ao (ba a.1.2.1<|len x.1)
 (ba a.1.2.1<|len x.2.1)
 false)
 (ag (idx x.1 a.1.2.1) λb=>ag (idx x.2.1 a.1.2.1) λc=>ao (nt<|an (bH b.1 c.1)<|an (bH b.2.1 c.2.1)<|an (bH b.2.2.1 c.2.2.1) true)
 (ab<|Sum.inr (1,(false,a.1.2.1,()),()))
 (ab<|Sum.inl ((a.1.1,aH i64 a.1.2.1 1,()),())))
 (ab<|Sum.inr (0,(a.1.1,a.1.2.1,()),()))
def gS(x:(List dm)×(List dm)×al):Option (Bool×al) :=
 ao (nt<|aS (len x.1)<|len x.2.1)
 (ab (false,()))
 (ag (Loop (j9 x) ((false,(0:Int),()),())) λa=>ao (de a.1 0)
 (ab (true,()))
 (ab (a.2.1.1,())))
def pg(x:(List dm)×al)(a:EU×al):Option (aac⊕aab) :=
 ao (ba a.1.2.1<|len x.1)
 (ag (idx x.1 a.1.2.1) λb=>ag (oe (b.1,())) λc=>ao (nt c.1)
 (ab<|Sum.inr (1,(false,a.1.2.1,()),()))
 (ag (idx x.1 a.1.2.1) λd=>ao (ba 64<|len d.2.2.1)
 (ab<|Sum.inr (1,(false,a.1.2.1,()),()))
 (ag (idx x.1 a.1.2.1) λe=>ag (idx x.1 a.1.2.1) λf=>ag (te (f.2.2.1,())) λg=>ao (nt<|bH e.2.1 g.1)
 (ab<|Sum.inr (1,(false,a.1.2.1,()),()))
 (ao (ba 0 a.1.2.1)
 (ag (idx x.1<|da i64 a.1.2.1 1) λh=>ag (idx x.1 a.1.2.1) λi=>ao (nt<|ft h.1 i.1)
 (ab<|Sum.inr (1,(false,a.1.2.1,()),()))
 (ab<|Sum.inl ((a.1.1,aH i64 a.1.2.1 1,()),())))
 (ab<|Sum.inl ((a.1.1,aH i64 a.1.2.1 1,()),()))))))
 (ab<|Sum.inr (0,(a.1.1,a.1.2.1,()),()))
def nh(x:(List dm)×al):Option (Bool×al) :=
 ag (Loop (pg x) ((false,(0:Int),()),())) (λa=>ao (de a.1 0)
 (ab (cu (len x.1) 4,()))
 (ab (a.2.1.1,())))
end Go.Ge
namespace Go.Ge
variable [Lp]
def SK(a:Tx)(x:Nm):List Tx:=if x.1.take a.length=a then [x.1] else []
def Ys(l:List Nm)(a:Tx):List Tx:=l.flatMap (SK a)
def wH(b:Tx)(f:List Tx):Tx×Int×al:=if b=[]\/6<=b.length then([],3,()) else match f with|[]=>([],3,())|[a]=>(a,0,())|_=>([],9,())
def aW(l:List Nm)(a:Tx):Tx×Int×al:=if ∃x∈l,x.1=a then(a,0,()) else
 match l.find? (λx=>decide (a∈x.2.1)) with|some x=>(x.1,0,())|none=>wH a (Ys l a)
def SL(c:Tx) f:ao (ao (nt<|ao (nt<|bH c ([]:Tx)) (cu 6<|@len UInt8 c) true) (aS (@len Tx f) 0) true) (ab (([]:Tx),3,()))
  (ao (ba 1<|@len Tx f) (ab (([]:Tx),9,()))<|ao (within 0<|@len Tx f) (ag (@idx Tx f 0) λg=>ab (g,0,())) ah)=ab (wH c f):=by
 have i:bH c ([])=decide (c=[]):=rfl;have j:cu 6 (@len UInt8 c)=decide (6<=c.length):=by unfold len;apply gX.2;omega
 unfold wH;rw[i,j];by_cases d:c=[]
 .rw[aX<|.inl d,dD d];rfl
 .rw[cL d];by_cases e:6<=c.length
  .rw[aX<|.inr e,dD e];rfl
  .rw[aR<|by rintro(h|h);exact d h;exact e h,cL e]
   match f with
   | []=>rfl
   | [a]=>rfl
   | a::b::r =>
     have:ba 1 (@len Tx (a::b::r))=true:=aO (by simp only[len,jC];omega);rw[ this];rfl
def Yt(l:List Nm) ref (f:l.length<=1000000) (q:Nat×(Int×Int×al)×Tx×al) (b:q.2.2.1=ref) :
  Loop (pf (l,ref,()) q) (((),0,()),([]:List Tx),())=ab (((),(l.length:Int),()),Ys l ref,()):=by
 refine rT l (λa i=>(((),i,()),a,())) (SK ref) _ ai (λi x c d e=>?_) ?_
 .have j:((l.take i).flatMap<|SK ref).length<=l.length:=by
   have:=pa (g:=SK ref) (λx=>by unfold SK;split<;>simp) l i;omega
  unfold pf;rw[aq d,au c,aa,b,MP,e];unfold SK;by_cases h:x.1.take ref.length=ref
  .rw[dD h,aX h];have:fits (plus (@len Tx<|(l.take i).flatMap<|SK ref)<|@len Tx<|[x.1])=true:=bo (by show _+1<=_;omega);unfold SK at this;rw[this];rfl
  .rw[cL h,aR h];rw[zQ];rfl
 .unfold pf;rw[aw];rfl
def mJ l (ref:Tx) (c:Small l) (d:l.length<=1000000):iG (l,ref,())=ab (aW l ref):=by
 unfold iG;have mid:∀{f1},f1=pe (l,ref,()) ->
   (∃(i:Nat) (x:Nm),l[i]?=ab x/\decide (ref∈x.2.1)=true/\(∀j y,j<i->l[j]?=ab y->decide (ref∈y.2.1)=false)/\Loop f1 ((0,0,()),ref,())=ab (1,((i:Int),(i:Int),()),ref,())) \/
   ((∀(i:Nat) x,l[i]?=ab x->decide (ref∈x.2.1)=false)/\Loop f1 ((0,0,()),ref,())=ab (0,(0,len l,()),ref,())):=by
  intro f1 p;subst p;exact iK l (λi=>((0,i,()),_)) _ _ _ c.1 (λi x a b e=>by
   unfold pe;rw[aq b,ae,au a,aa,wZ x.2.1 ref (c.2 x<|eQ a),aa,ew,e];by_cases h:ref∈x.2.1<;>simp[h]) (by unfold pe;rw[aw];rfl)
 rcases iK (f:=pd (l,_)) l (λi=>((0,i,()),ref,())) (λ_ x=>decide (x.1=ref)) (λi x=>(1,(i,i,()),ref,())) _ c.1 (λi x a b e=>by
  unfold pd;rw[aq b,ae,au a,aa,ew,e];by_cases h:x.1=ref<;>simp[bH,h]) (by unfold pd;rw[aw];rfl) with ⟨i,x,a,g,o,h⟩|⟨k,h⟩
 .rw[h,aa];dsimp only;rw[show de 1 0=false from rfl,af,bO ai,ae];unfold aW;rw[aX ⟨x,eQ a,iq g⟩]
 .rw[h,aa];rw[show de 0 0=true from rfl,ae,show cu 0 (-1)=false from rfl,af];have m:¬∃x∈l,x.1=ref:=by
   rintro⟨x,a,q⟩;obtain⟨i,b⟩:=bz.1 a;have:=k i x b;simp[q] at this
  unfold aW;rw[aR m];rcases mid rfl with ⟨i,x,a,g,o,h⟩|⟨k,h⟩
  .rw[h,aa];dsimp only;rw[show de 1 0=false from rfl,af,bO ai,ae,au a,aa];have:l.find? (λx=>decide (ref∈x.2.1))=ab x:=by
    rw[ac7];refine⟨g,i,aF a,?_,λj n=>?_⟩
    .have:=ik (aF a);rw[a] at this;exact(aQ this).symm
    .have r:=aF a;have:=o j l[j] n (ik ai);simpa using this
   rw[this]
  .rw[h,aa];rw[ Yt l ref d _ rfl];have:l.find? (λx=>decide (ref∈x.2.1))=none:=by
    rw[TQ];intro x a;obtain⟨i,b⟩:=bz.1 a;have:=k i x b;simpa using this
   rw[this];exact SL ref _
set_option maxRecDepth 100000
abbrev cF:=(Sb×Int×Int×Sb×Sb×al)
abbrev aae:=((Int×Int×al×al)×al×Sb×(List cF)×al)
abbrev ae9:=(ay×(Int×(Int×(ay×(ay×al)))))
abbrev Bf:=(Int×Int×al)
def aZ(l:List ae9)(x:(Int×((List ae9)×al))):Option (List ae9):=uJ l x.1 x.2.1
def tX(x:Sb×al):Option (Bool×al) :=
 ag (pY (x.1,())) (λa=>ag (gr (x.1,())) λb=>ag (rY (b.2.1,())) λc=>ab (ao (ao (ao (ao (aS a.2.1 0)
 (bH a.1 x.1)
 false)
 (nt<|bH x.1 ([]:ay))
 false)
 (ao (cu (len x.1) 92)
 (cu (len b.2.1) 28)
 false)
 false)
 (aS c.1 0)
 false,()))
def zx(x:cF×al):Option (Bool×al) :=
 ag (tX (x.1.1,())) (λb=>ao (ao (nt<|ao (nt<|nt b.1)
 (ba x.1.2.2.1 0)
 true)
 (ba 4095 x.1.2.2.1)
 true)
 (ab (false,()))
 (ao (aS x.1.2.1 1)
 (ab (ao (bH x.1.2.2.2.2.1 ([]:ay))
 (cu (len x.1.2.2.2.1) 8192)
 false,()))
 (ao (aS x.1.2.1 2)
 (ab (ao (bH x.1.2.2.2.2.1 ([]:ay))
 (bH x.1.2.2.2.1 ([]:ay))
 false,()))
 (ao (aS x.1.2.1 3)
 (ag (ao (ao (ao (bH x.1.2.2.2.1 ([]:ay))
 (nt<|bH x.1.2.2.2.2.1 ([]:ay))
 false)
 (cu (len x.1.2.2.2.2.1) 100)
 false)
 (ag (dy (x.1.2.2.2.2.1,(0:Int),())) λa=>ab (ba a.1 0))
 (ab false)) λa=>ab (a,()))
 (ab (false,()))))))
def mK(x:cF×Sb×al):Option (Int×al) :=
 ag (ha (x.1.1,x.2.1,())) (λa=>ab (a.1,()))
def jK(x:(List cF)×Sb×al)(a:Bf×al):Option ((Bf×al)⊕(Bf×al)) :=
 dq (ao (ba a.1.1 a.1.2.1)
 (ao (ba 1 0)
 ah
 (ag (idx x.1<|kE i64<|mz IntKind.u64 (kE IntKind.u64<|aH i64 a.1.1 a.1.2.1) 1) λc=>ag (mK (c,x.2.1,())) λb=>ab (Sum.inl ((((ao (ba b.1 0)
 ((aH i64 (kE i64<|mz IntKind.u64 (kE IntKind.u64<|aH i64 a.1.1 a.1.2.1) 1) 1,a.1.2.1,()),())
 ((a.1.1,kE i64<|mz IntKind.u64 (kE IntKind.u64<|aH i64 a.1.1 a.1.2.1) 1,()),())).1).1,(((ao (ba b.1 0)
 ((aH i64 (kE i64<|mz IntKind.u64 (kE IntKind.u64<|aH i64 a.1.1 a.1.2.1) 1) 1,a.1.2.1,()),())
 ((a.1.1,kE i64<|mz IntKind.u64 (kE IntKind.u64<|aH i64 a.1.1 a.1.2.1) 1,()),())).1).2).1,()),()))))
 (ab<|Sum.inr (0,(a.1.1,a.1.2.1,()),())))
def eH(x:(List cF)×Sb×al):Option (Int×Bool×al) :=
 ag (Loop (jK x) (((0:Int),len x.1,()),())) (λa=>ao (ba a.1.1<|len x.1)
 (ag (idx x.1 a.1.1) λb=>ag (mK (b,x.2.1,())) λc=>ab (a.1.1,aS c.1 0,()))
 (ab (a.1.1,false,())))
def om(x:(List cF)×Sb×al):Option (Int×al) :=
 ao (bH x.2.1 ([]:ay))
 (ab ((0:Int),()))
 (ag (eH (x.1,x.2.1,())) λa=>ao (nt a.2.1)
 (ab ((3:Int),()))
 (ag (idx x.1 a.1) λb=>ao (nt<|aS b.2.1 2)
 (ab ((12:Int),()))
 (ab ((0:Int),()))))
def qy(x:(List cF)×al)(a:Bf×al):Option ((Bf×al)⊕(Nat×Bf×al)) :=
 ao (ba a.1.2.1<|len x.1)
 (ag (idx x.1 a.1.2.1) λb=>ag (gr (b.1,())) λd=>ag (zx (b,())) λe=>ao (nt e.1)
 (ab<|Sum.inr (1,((1:Int),a.1.2.1,()),()))
 (ao (ba 0 a.1.2.1)
 (ag (idx x.1<|da i64 a.1.2.1 1) λc=>ag (ha (c.1,b.1,())) λf=>ao (cu 0 f.1)
 (ab<|Sum.inr (1,((1:Int),a.1.2.1,()),()))
 (ao (inside 0 a.1.2.1<|len x.1)
 (ag (om (sub x.1 (0:Int)<|minus a.1.2.1 0,d.1,())) λg=>ao (nt<|aS g.1 0)
 (ab<|Sum.inr (1,((1:Int),a.1.2.1,()),()))
 (ab<|Sum.inl ((a.1.1,aH i64 a.1.2.1 1,()),())))
 ah))
 (ao (inside 0 a.1.2.1<|len x.1)
 (ag (om (sub x.1 (0:Int)<|minus a.1.2.1 0,d.1,())) λc=>ao (nt<|aS c.1 0)
 (ab<|Sum.inr (1,((1:Int),a.1.2.1,()),()))
 (ab<|Sum.inl ((a.1.1,aH i64 a.1.2.1 1,()),())))
 ah)))
 (ab<|Sum.inr (0,(a.1.1,a.1.2.1,()),()))
def eI(x:(List cF)×al):Option (Int×al) :=
 ao (ba 64<|len x.1)
 (ab ((1:Int),()))
 (ag (Loop (qy x) (((0:Int),(0:Int),()),())) λa=>ao (de a.1 0)
 (ab ((0:Int),()))
 (ab (a.2.1.1,())))
def nw(x:(List cF)×al):Option ((List cF)×al) :=
 bif fits (len x.1) then ab (x.1,()) else ah
def ni(x:(List cF)×cF×al)(a:Bf×al×Sb×al):Option ((Bf×al×Sb×al)⊕(Nat×Bf×al×Sb×al)) :=
 ao (ba a.1.2.1<|len x.1)
 (ao (within a.1.2.1<|len x.1)
 (ag (idx x.1 a.1.2.1) λc=>ag (ao (nt<|bH c.1 a.2.2.1)
 (ag (dE (c.1,a.2.2.1,())) λb=>ab b.1)
 (ab true)) λb=>ao b
 (ab<|Sum.inr (1,(a.1.2.1,a.1.2.1,()),(),a.2.2.1,()))
 (ab<|Sum.inl ((a.1.1,aH i64 a.1.2.1 1,()),(),a.2.2.1,())))
 ah)
 (ab<|Sum.inr (0,(a.1.1,a.1.2.1,()),(),a.2.2.1,()))
def Pd(a:(Int×Int×al×al)×al×Sb×(List cF)×al):Option (aae⊕aae) :=
 dq (ao (ba a.1.2.1<|len a.2.2.2.1)
 (ao (within a.1.2.1<|len a.2.2.2.1)
 (ag (idx a.2.2.2.1 a.1.2.1) λb=>ag (ao (nt<|bH b.1 a.2.2.1)
 (ag (dE (b.1,a.2.2.1,())) λc=>ab c.1)
 (ab true)) λc=>ag (ao (nt c)
 (ao (within a.1.1<|len a.2.2.2.1)
 (ag (idx a.2.2.2.1 a.1.1) λd=>ag (idx a.2.2.2.1 a.1.1) λe=>ag (idx a.2.2.2.1 a.1.1) λf=>ab ((aH i64 a.1.1 1,(),()),lP a.2.2.2.1 a.1.1 b,()))
 ah)
 (ab ((a.1.1,(),()),a.2.2.2.1,()))) λd=>ab (Sum.inl ((d.1.1,aH i64 a.1.2.1 1,(),()),(),a.2.2.1,d.2.1,())))
 ah)
 (ab<|Sum.inr (0,(a.1.1,a.1.2.1,(),()),(),a.2.2.1,a.2.2.2.1,())))
def p4(a:(Int×Int×al×al)×al×Sb×(List cF)×al):Option (aae⊕aae) :=
 dq (ao (ba a.1.2.1<|len a.2.2.2.1)
 (ao (within a.1.2.1<|len a.2.2.2.1)
 (ag (idx a.2.2.2.1 a.1.2.1) λb=>ag (ao (nt<|bH b.1 a.2.2.1)
 (ag (dE (b.1,a.2.2.1,())) λc=>ab c.1)
 (ab true)) λc=>ag (ao (nt c)
 (ao (within a.1.1<|len a.2.2.2.1)
 (ag (idx a.2.2.2.1 a.1.1) λd=>ag (idx a.2.2.2.1 a.1.1) λe=>ag (idx a.2.2.2.1 a.1.1) λf=>ab ((aH i64 a.1.1 1,(),()),lP a.2.2.2.1 a.1.1 b,()))
 ah)
 (ab ((a.1.1,(),()),a.2.2.2.1,()))) λd=>ab (Sum.inl ((d.1.1,aH i64 a.1.2.1 1,(),()),(),a.2.2.1,d.2.1,())))
 ah)
 (ab<|Sum.inr (0,(a.1.1,a.1.2.1,(),()),(),a.2.2.1,a.2.2.2.1,())))
def tf(x:(List cF)×cF×al):Option ((List cF)×Int×al) :=
 ag (eI (x.1,())) (λj=>ag (ao (nt<|nt<|aS j.1 0)
 (ag (zx (x.2.1,())) λf=>ab (nt f.1))
 (ab true)) λf=>ao f
 (ab (([]:List cF),(1:Int),()))
 (ag (gr (x.2.1.1,())) λk=>ag (om (x.1,k.1,())) λh=>ao (nt<|aS h.1 0)
 (ab (([]:List cF),h.1,()))
 (ag (eH (x.1,x.2.1.1,())) λd=>ag (ao d.2.1
 (ag (idx x.1 d.1) λg=>ab (aS g.2.1 2))
 (ab false)) λg=>ao (ao g
 (aS x.2.1.2.1 2)
 false)
 (ao (fits<|len x.1)
 (ao (within d.1<|len x.1)
 (ag (idx x.1 d.1) λi=>ag (idx x.1 d.1) λc=>ag (idx x.1 d.1) λa=>ab (lP x.1 d.1 x.2.1,(0:Int),()))
 ah)
 ah)
 (ag (eI (x.1,())) λi=>ao (nt<|aS i.1 0)
 (ao (cu 64<|len ([]:List cF))
 (ab (([]:List cF),(5:Int),()))
 (ag (eH (([]:List cF),x.2.1.1,())) λc=>ah))
 (ao (fits<|len x.1)
 (ag (Loop (ni x) (((0:Int),(0:Int),()),(),x.2.1.1,())) λc=>ao (de c.1 0)
 (ao (aS (-1)<|-1)
 (ao (cu 64<|len x.1)
 (ab (([]:List cF),(5:Int),()))
 (ag (eH (x.1,x.2.1.1,())) λa=>ag (aZ x.1 (a.1,([x.2.1]:List cF),())) λb=>ab (b,(0:Int),())))
 (ag (Loop (Pd) (((-1:Int),aH i64 (-1) 1,(),()),(),c.2.2.2.1,x.1,())) λa=>ao (inside a.1.1 (len a.2.2.2.1)<|len a.2.2.2.1)
 (ao (inside 0 a.1.1<|len<|over a.2.2.2.1 a.1.1<|kj (minus (len a.2.2.2.1) a.1.1) (([]:ay),(0:Int),(0:Int),([]:ay),([]:ay),()))
 (ao (cu 64<|minus a.1.1 0)
 (ab (([]:List cF),(5:Int),()))
 (ag (eH (sub (over a.2.2.2.1 a.1.1<|kj (minus (len a.2.2.2.1) a.1.1) (([]:ay),(0:Int),(0:Int),([]:ay),([]:ay),())) (0:Int)<|minus a.1.1 0,x.2.1.1,())) λb=>ag (aZ (sub (over a.2.2.2.1 a.1.1<|kj (minus (len a.2.2.2.1) a.1.1) (([]:ay),(0:Int),(0:Int),([]:ay),([]:ay),())) (0:Int)<|minus a.1.1 0) (b.1,([x.2.1]:List cF),())) λe=>ab (e,(0:Int),())))
 ah)
 ah))
 (ao (aS c.2.1.1<|-1)
 (ao (cu 64<|len x.1)
 (ab (([]:List cF),(5:Int),()))
 (ag (eH (x.1,x.2.1.1,())) λa=>ag (aZ x.1 (a.1,([x.2.1]:List cF),())) λb=>ab (b,(0:Int),())))
 (ag (Loop (p4) ((c.2.1.1,aH i64 c.2.1.1 1,(),()),(),c.2.2.2.1,x.1,())) λa=>ao (inside a.1.1 (len a.2.2.2.1)<|len a.2.2.2.1)
 (ao (inside 0 a.1.1<|len<|over a.2.2.2.1 a.1.1<|kj (minus (len a.2.2.2.1) a.1.1) (([]:ay),(0:Int),(0:Int),([]:ay),([]:ay),()))
 (ao (cu 64<|minus a.1.1 0)
 (ab (([]:List cF),(5:Int),()))
 (ag (eH (sub (over a.2.2.2.1 a.1.1<|kj (minus (len a.2.2.2.1) a.1.1) (([]:ay),(0:Int),(0:Int),([]:ay),([]:ay),())) (0:Int)<|minus a.1.1 0,x.2.1.1,())) λb=>ag (aZ (sub (over a.2.2.2.1 a.1.1<|kj (minus (len a.2.2.2.1) a.1.1) (([]:ay),(0:Int),(0:Int),([]:ay),([]:ay),())) (0:Int)<|minus a.1.1 0) (b.1,([x.2.1]:List cF),())) λe=>ab (e,(0:Int),())))
 ah)
 ah)))
 ah)))))
def yb(x:(List cF)×Sb×al):Option (cF×Bool×al) :=
 ag (eI (x.1,())) (λb=>ao (nt<|aS b.1 0)
 (ab ((([]:ay),(0:Int),(0:Int),([]:ay),([]:ay),()),false,()))
 (ag (eH (x.1,x.2.1,())) λa=>ao (nt a.2.1)
 (ab ((([]:ay),(0:Int),(0:Int),([]:ay),([]:ay),()),false,()))
 (ag (idx x.1 a.1) λc=>ab (c,true,()))))
def nJ(x:Sb×al)(a:(Bool×Int×al)×al):Option (((Bool×Int×al)×al)⊕(Nat×(Bool×Int×al)×al)) :=
 ao (ba a.1.2.1<|len x.1)
 (ag (idx x.1 a.1.2.1) λb=>ao (aS (u8 b) 0)
 (ab<|Sum.inr (1,(false,a.1.2.1,()),()))
 (ab<|Sum.inl ((a.1.1,aH i64 a.1.2.1 1,()),())))
 (ab<|Sum.inr (0,(a.1.1,a.1.2.1,()),()))
def sb(x:Sb×al):Option (Bool×al) :=
 ag (Loop (nJ x) ((false,(0:Int),()),())) (λa=>ao (de a.1 0)
 (ab (ao (cu 1<|len x.1)
 (cu (len x.1) 100)
 false,()))
 (ab (a.2.1.1,())))
def lV(x:cF×al):Option (Bool×al) :=
 ag (kt (x.1.1,())) (λb=>ag (r0 (b.2.1,())) λc=>ag (ao (nt<|bH x.1.1 ([]:ay))
 (ag (wY (x.1.1,())) λa=>ab a.1)
 (ab false)) λa=>ao (aS x.1.2.1 1)
 (ab (ao (ao (ao (ao (ao (ao (ao a
 (cu (len x.1.1) 92)
 false)
 (cu (len b.2.1) 28)
 false)
 (aS c.1 0)
 false)
 (cu 0 x.1.2.2.1)
 false)
 (cu x.1.2.2.1 4095)
 false)
 (bH x.1.2.2.2.2.1 ([]:ay))
 false)
 (cu (len x.1.2.2.2.1) 8192)
 false,()))
 (ao (aS x.1.2.1 2)
 (ab (ao (ao (ao (ao (ao (ao (ao a
 (cu (len x.1.1) 92)
 false)
 (cu (len b.2.1) 28)
 false)
 (aS c.1 0)
 false)
 (cu 0 x.1.2.2.1)
 false)
 (cu x.1.2.2.1 4095)
 false)
 (bH x.1.2.2.2.2.1 ([]:ay))
 false)
 (bH x.1.2.2.2.1 ([]:ay))
 false,()))
 (ao (aS x.1.2.1 3)
 (ag (ao (ao (ao (ao (ao (ao (ao a
 (cu (len x.1.1) 92)
 false)
 (cu (len b.2.1) 28)
 false)
 (aS c.1 0)
 false)
 (cu 0 x.1.2.2.1)
 false)
 (cu x.1.2.2.1 4095)
 false)
 (bH x.1.2.2.2.1 ([]:ay))
 false)
 (ag (sb (x.1.2.2.2.2.1,())) λd=>ab d.1)
 (ab false)) λd=>ab (d,()))
 (ab (false,())))))
def qz(x:(List cF)×Sb×al)(a:Bf×al):Option ((Bf×al)⊕(Nat×Bf×al)) :=
 ao (ba a.1.2.1<|len x.1)
 (ag (idx x.1 a.1.2.1) λb=>ao (bH b.1 x.2.1)
 (ab<|Sum.inr (1,(a.1.2.1,a.1.2.1,()),()))
 (ab<|Sum.inl ((a.1.1,aH i64 a.1.2.1 1,()),())))
 (ab<|Sum.inr (0,(a.1.1,a.1.2.1,()),()))
def iy(x:(List cF)×Sb×al):Option (Int×al) :=
 ag (Loop (qz x) (((0:Int),(0:Int),()),())) (λa=>ao (de a.1 0)
 (ab ((-1:Int),()))
 (ab (a.2.1.1,())))
def oo(x:(List cF)×Sb×al):Option (Bool×al) :=
 ag (iy (x.1,x.2.1,())) (λb=>ag (ao (nt<|bH x.2.1 ([]:ay))
 (ag (ao (cu 0 b.1)
 (ag (idx x.1 b.1) λa=>ab (aS a.2.1 2))
 (ab false)) λa=>ab a)
 (ab true)) λa=>ab (a,()))
def tY(x:(List cF)×al)(a:(Bool×Int×al)×al):Option (((Bool×Int×al)×al)⊕(Nat×(Bool×Int×al)×al)) :=
 ao (ba a.1.2.1<|len x.1)
 (ag (idx x.1 a.1.2.1) λb=>ag (kt (b.1,())) λc=>ag (idx x.1 a.1.2.1) λd=>ag (lV (d,())) λe=>ao (nt e.1)
 (ab<|Sum.inr (1,(false,a.1.2.1,()),()))
 (ag (oo (x.1,c.1,())) λf=>ao (nt f.1)
 (ab<|Sum.inr (1,(false,a.1.2.1,()),()))
 (ao (ba 0 a.1.2.1)
 (ag (idx x.1<|da i64 a.1.2.1 1) λg=>ag (idx x.1 a.1.2.1) λh=>ag (mF (g.1,h.1,())) λi=>ao (cu 0 i.1)
 (ab<|Sum.inr (1,(false,a.1.2.1,()),()))
 (ab<|Sum.inl ((a.1.1,aH i64 a.1.2.1 1,()),())))
 (ab<|Sum.inl ((a.1.1,aH i64 a.1.2.1 1,()),())))))
 (ab<|Sum.inr (0,(a.1.1,a.1.2.1,()),()))
def mg(x:(List cF)×al):Option (Bool×al) :=
 ao (ba 64<|len x.1)
 (ab (false,()))
 (ag (Loop (tY x) ((false,(0:Int),()),())) λa=>ao (de a.1 0)
 (ab (true,()))
 (ab (a.2.1.1,())))
def jh(x:(List cF)×Sb×Bool×al)(a:(al×Int×al)×(List cF)×al):Option (((al×Int×al)×(List cF)×al)⊕((al×Int×al)×(List cF)×al)) :=
 dq (ao (ba a.1.2.1<|len x.1)
 (ag (idx x.1 a.1.2.1) λd=>ag (tS (d.1,x.2.1,())) λe=>ag (ao (nt e.1)
 (ag (ao (nt<|nt x.2.2.1)
 (ag (idx x.1 a.1.2.1) λb=>ab (nt<|bH b.1 x.2.1))
 (ab true)) λb=>ab b)
 (ab false)) λb=>ag (ao b
 (ag (idx x.1 a.1.2.1) λc=>ao (fits<|plus (len a.2.1)<|len ([c]:List cF))
 (ab (((),()),app a.2.1 ([c]:List cF),()))
 ah)
 (ab (((),()),a.2.1,()))) λc=>ab (Sum.inl (((),aH i64 a.1.2.1 1,()),c.2.1,())))
 (ab<|Sum.inr (0,((),a.1.2.1,()),a.2.1,())))
def jL(x:(List cF)×Sb×Bool×al):Option ((List cF)×al) :=
 ag (Loop (jh x) (((),(0:Int),()),([]:List cF),())) (λa=>ab (a.2.1,()))
def lC(x:(List cF)×cF×al)(d:((List cF)×al)×al)(a:(Int×al)×al):Option (((Int×al)×al)⊕((Int×al)×al)) :=
 dq (ao (ba a.1.1<|len d.1.1)
 (ag (idx d.1.1 a.1.1) λb=>ag (mF (b.1,x.2.1.1,())) λc=>ao (ba c.1 0)
 (ab<|Sum.inl ((aH i64 a.1.1 1,()),()))
 (ab<|Sum.inr (0,(a.1.1,()),())))
 (ab<|Sum.inr (0,(a.1.1,()),())))
def oq(x:(List cF)×cF×al):Option ((List cF)×Int×al) :=
 ag (mg (x.1,())) (λh=>ag (ao (nt<|nt h.1)
 (ag (lV (x.2.1,())) λd=>ab (nt d.1))
 (ab true)) λd=>ao d
 (ab (([]:List cF),(1:Int),()))
 (ag (kt (x.2.1.1,())) λe=>ag (ao (nt<|bH e.1 ([]:ay))
 (ag (iy (x.1,e.1,())) λf=>ab (ba f.1 0))
 (ab false)) λf=>ao f
 (ab (([]:List cF),(3:Int),()))
 (ag (oo (x.1,e.1,())) λi=>ao (nt i.1)
 (ab (([]:List cF),(12:Int),()))
 (ag (iy (x.1,x.2.1.1,())) λb=>ag (ao (cu 0 b.1)
 (ag (idx x.1 b.1) λg=>ab (aS g.2.1 2))
 (ab false)) λg=>ag (ao (ao g
 (aS x.2.1.2.1 2)
 false)
 (ao (inside 0 b.1<|len x.1)
 (ao (fits<|plus (len ([]:List cF))<|len<|sub x.1 (0:Int)<|minus b.1 0)
 (ao (inside (aH i64 b.1 1) (len x.1)<|len x.1)
 (ao (fits<|plus (len<|app ([]:List cF)<|sub x.1 (0:Int)<|minus b.1 0)<|len<|sub x.1 (aH i64 b.1 1)<|minus (len x.1)<|aH i64 b.1 1)
 (ab ((app (app ([]:List cF)<|sub x.1 (0:Int)<|minus b.1 0)<|sub x.1 (aH i64 b.1 1)<|minus (len x.1)<|aH i64 b.1 1,()),()))
 ah)
 ah)
 ah)
 ah)
 (ag (ao (cu 0 b.1)
 (ag (jL (x.1,x.2.1.1,true,())) λa=>ab ((a.1,()),()))
 (ab ((x.1,()),()))) λa=>ab ((a.1.1,()),()))) λa=>ao (cu 64<|len a.1.1)
 (ab (([]:List cF),(5:Int),()))
 (ag (Loop (lC x a) (((0:Int),()),())) λc=>ao (inside 0 c.1.1<|len a.1.1)
 (ao (fits<|plus (len ([]:List cF))<|len<|sub a.1.1 (0:Int)<|minus c.1.1 0)
 (ao (fits<|plus (len<|app ([]:List cF)<|sub a.1.1 (0:Int)<|minus c.1.1 0)<|len ([x.2.1]:List cF))
 (ao (inside c.1.1 (len a.1.1)<|len a.1.1)
 (ao (fits<|plus (len<|app (app ([]:List cF)<|sub a.1.1 (0:Int)<|minus c.1.1 0) ([x.2.1]:List cF))<|len<|sub a.1.1 c.1.1<|minus (len a.1.1) c.1.1)
 (ab (app (app (app ([]:List cF)<|sub a.1.1 (0:Int)<|minus c.1.1 0) ([x.2.1]:List cF))<|sub a.1.1 c.1.1<|minus (len a.1.1) c.1.1,(0:Int),()))
 ah)
 ah)
 ah)
 ah)
 ah)))))
end Go.Ge
namespace Go.Ge
variable [Lp]
set_option maxRecDepth 100000
abbrev vC:=(List<|Sb×Int×Int×Sb×Sb×al)
abbrev Jm:=((Int×Int×al×al)×al×Sb×vC×al)
abbrev VA:=(Sb×Int×Int×Sb×Sb×al)
def iO(x:vC×Sb×al)(a:(Int×Int×al)×al×Sb×al):Option (((Int×Int×al)×al×Sb×al)⊕(Nat×(Int×Int×al)×al×Sb×al)) :=
 ao (ba a.1.2.1<|len x.1)
 (ao (within a.1.2.1<|len x.1)
 (ag (idx x.1 a.1.2.1) λc=>ag (ao (nt<|bH c.1 a.2.2.1)
 (ag (dE (c.1,a.2.2.1,())) λb=>ab b.1)
 (ab true)) λb=>ao b
 (ab<|Sum.inr (1,(a.1.2.1,a.1.2.1,()),(),a.2.2.1,()))
 (ab<|Sum.inl ((a.1.1,aH i64 a.1.2.1 1,()),(),a.2.2.1,())))
 ah)
 (ab<|Sum.inr (0,(a.1.1,a.1.2.1,()),(),a.2.2.1,()))
def HX(a:(Int×Int×al×al)×al×Sb×vC×al):Option (Jm⊕Jm) :=
 dq (ao (ba a.1.2.1<|len a.2.2.2.1)
 (ao (within a.1.2.1<|len a.2.2.2.1)
 (ag (idx a.2.2.2.1 a.1.2.1) λb=>ag (ao (nt<|bH b.1 a.2.2.1)
 (ag (dE (b.1,a.2.2.1,())) λc=>ab c.1)
 (ab true)) λc=>ag (ao (nt c)
 (ao (within a.1.1<|len a.2.2.2.1)
 (ag (idx a.2.2.2.1 a.1.1) λd=>ag (idx a.2.2.2.1 a.1.1) λe=>ag (idx a.2.2.2.1 a.1.1) λf=>ab ((aH i64 a.1.1 1,(),()),lP a.2.2.2.1 a.1.1 b,()))
 ah)
 (ab ((a.1.1,(),()),a.2.2.2.1,()))) λd=>ab (Sum.inl ((d.1.1,aH i64 a.1.2.1 1,(),()),(),a.2.2.1,d.2.1,())))
 ah)
 (ab<|Sum.inr (0,(a.1.1,a.1.2.1,(),()),(),a.2.2.1,a.2.2.2.1,())))
def lD(a:(Int×Int×al×al)×al×Sb×vC×al):Option (Jm⊕Jm) :=
 dq (ao (ba a.1.2.1<|len a.2.2.2.1)
 (ao (within a.1.2.1<|len a.2.2.2.1)
 (ag (idx a.2.2.2.1 a.1.2.1) λb=>ag (ao (nt<|bH b.1 a.2.2.1)
 (ag (dE (b.1,a.2.2.1,())) λc=>ab c.1)
 (ab true)) λc=>ag (ao (nt c)
 (ao (within a.1.1<|len a.2.2.2.1)
 (ag (idx a.2.2.2.1 a.1.1) λd=>ag (idx a.2.2.2.1 a.1.1) λe=>ag (idx a.2.2.2.1 a.1.1) λf=>ab ((aH i64 a.1.1 1,(),()),lP a.2.2.2.1 a.1.1 b,()))
 ah)
 (ab ((a.1.1,(),()),a.2.2.2.1,()))) λd=>ab (Sum.inl ((d.1.1,aH i64 a.1.2.1 1,(),()),(),a.2.2.1,d.2.1,())))
 ah)
 (ab<|Sum.inr (0,(a.1.1,a.1.2.1,(),()),(),a.2.2.1,a.2.2.2.1,())))
def tZ(x:vC×Sb×al):Option (vC×al) :=
 ag (eI (x.1,())) (λc=>ao (nt<|aS c.1 0)
 (ab (([]:List VA),()))
 (ao (fits<|len x.1)
 (ag (Loop (iO x) (((0:Int),(0:Int),()),(),x.2.1,())) λb=>ao (de b.1 0)
 (ao (aS (-1)<|-1)
 (ab (x.1,()))
 (ag (Loop (HX) (((-1:Int),aH i64 (-1) 1,(),()),(),b.2.2.2.1,x.1,())) λa=>ao (inside a.1.1 (len a.2.2.2.1)<|len a.2.2.2.1)
 (ao (inside 0 a.1.1<|len<|over a.2.2.2.1 a.1.1<|kj (minus (len a.2.2.2.1) a.1.1) (([]:ay),(0:Int),(0:Int),([]:ay),([]:ay),()))
 (ab (sub (over a.2.2.2.1 a.1.1<|kj (minus (len a.2.2.2.1) a.1.1) (([]:ay),(0:Int),(0:Int),([]:ay),([]:ay),())) (0:Int)<|minus a.1.1 0,()))
 ah)
 ah))
 (ao (aS b.2.1.1<|-1)
 (ab (x.1,()))
 (ag (Loop (lD) ((b.2.1.1,aH i64 b.2.1.1 1,(),()),(),b.2.2.2.1,x.1,())) λa=>ao (inside a.1.1 (len a.2.2.2.1)<|len a.2.2.2.1)
 (ao (inside 0 a.1.1<|len<|over a.2.2.2.1 a.1.1<|kj (minus (len a.2.2.2.1) a.1.1) (([]:ay),(0:Int),(0:Int),([]:ay),([]:ay),()))
 (ab (sub (over a.2.2.2.1 a.1.1<|kj (minus (len a.2.2.2.1) a.1.1) (([]:ay),(0:Int),(0:Int),([]:ay),([]:ay),())) (0:Int)<|minus a.1.1 0,()))
 ah)
 ah)))
 ah))
def vW(x:vC×Sb×al):Option (VA×Bool×al) :=
 ag (iy (x.1,x.2.1,())) (λa=>ag (mg (x.1,())) λb=>ao (ao (nt<|nt b.1)
 (ba a.1 0)
 true)
 (ab ((([]:ay),(0:Int),(0:Int),([]:ay),([]:ay),()),false,()))
 (ag (idx x.1 a.1) λc=>ab (c,true,())))
def sd(x:vC×Sb×al):Option (vC×al) :=
 ag (mg (x.1,())) (λa=>ao (nt a.1)
 (ab (([]:List VA),()))
 (ag (jL (x.1,x.2.1,true,())) λb=>ab (b.1,())))
def jM(x:vC×Sb×al)(a:(Int×Int×al)×al×Sb×al):Option (((Int×Int×al)×al×Sb×al)⊕(Nat×(Int×Int×al)×al×Sb×al)) :=
 ao (ba a.1.2.1<|len x.1)
 (ao (within a.1.2.1<|len x.1)
 (ag (idx x.1 a.1.2.1) λb=>ag (dE (b.1,a.2.2.1,())) λc=>ao c.1
 (ab<|Sum.inr (1,(a.1.2.1,a.1.2.1,()),(),a.2.2.1,()))
 (ab<|Sum.inl ((a.1.1,aH i64 a.1.2.1 1,()),(),a.2.2.1,())))
 ah)
 (ab<|Sum.inr (0,(a.1.1,a.1.2.1,()),(),a.2.2.1,()))
def Ka(a:(Int×Int×al×al)×al×Sb×vC×al):Option (Jm⊕Jm) :=
 dq (ao (ba a.1.2.1<|len a.2.2.2.1)
 (ao (within a.1.2.1<|len a.2.2.2.1)
 (ag (idx a.2.2.2.1 a.1.2.1) λc=>ag (dE (c.1,a.2.2.1,())) λd=>ag (ao (nt d.1)
 (ao (within a.1.1<|len a.2.2.2.1)
 (ag (idx a.2.2.2.1 a.1.1) λb=>ag (idx a.2.2.2.1 a.1.1) λe=>ag (idx a.2.2.2.1 a.1.1) λf=>ab ((aH i64 a.1.1 1,(),()),lP a.2.2.2.1 a.1.1 c,()))
 ah)
 (ab ((a.1.1,(),()),a.2.2.2.1,()))) λb=>ab (Sum.inl ((b.1.1,aH i64 a.1.2.1 1,(),()),(),a.2.2.1,b.2.1,())))
 ah)
 (ab<|Sum.inr (0,(a.1.1,a.1.2.1,(),()),(),a.2.2.1,a.2.2.2.1,())))
def mL(a:(Int×Int×al×al)×al×Sb×vC×al):Option (Jm⊕Jm) :=
 dq (ao (ba a.1.2.1<|len a.2.2.2.1)
 (ao (within a.1.2.1<|len a.2.2.2.1)
 (ag (idx a.2.2.2.1 a.1.2.1) λc=>ag (dE (c.1,a.2.2.1,())) λd=>ag (ao (nt d.1)
 (ao (within a.1.1<|len a.2.2.2.1)
 (ag (idx a.2.2.2.1 a.1.1) λb=>ag (idx a.2.2.2.1 a.1.1) λe=>ag (idx a.2.2.2.1 a.1.1) λf=>ab ((aH i64 a.1.1 1,(),()),lP a.2.2.2.1 a.1.1 c,()))
 ah)
 (ab ((a.1.1,(),()),a.2.2.2.1,()))) λb=>ab (Sum.inl ((b.1.1,aH i64 a.1.2.1 1,(),()),(),a.2.2.1,b.2.1,())))
 ah)
 (ab<|Sum.inr (0,(a.1.1,a.1.2.1,(),()),(),a.2.2.1,a.2.2.2.1,())))
def vX(x:vC×Sb×al):Option (vC×al) :=
 ag (eI (x.1,())) (λc=>ao (nt<|aS c.1 0)
 (ab (([]:List VA),()))
 (ao (fits<|len x.1)
 (ag (Loop (jM x) (((0:Int),(0:Int),()),(),x.2.1,())) λb=>ao (de b.1 0)
 (ao (aS (-1)<|-1)
 (ab (x.1,()))
 (ag (Loop (Ka) (((-1:Int),aH i64 (-1) 1,(),()),(),b.2.2.2.1,x.1,())) λa=>ao (inside a.1.1 (len a.2.2.2.1)<|len a.2.2.2.1)
 (ao (inside 0 a.1.1<|len<|over a.2.2.2.1 a.1.1<|kj (minus (len a.2.2.2.1) a.1.1) (([]:ay),(0:Int),(0:Int),([]:ay),([]:ay),()))
 (ab (sub (over a.2.2.2.1 a.1.1<|kj (minus (len a.2.2.2.1) a.1.1) (([]:ay),(0:Int),(0:Int),([]:ay),([]:ay),())) (0:Int)<|minus a.1.1 0,()))
 ah)
 ah))
 (ao (aS b.2.1.1<|-1)
 (ab (x.1,()))
 (ag (Loop (mL) ((b.2.1.1,aH i64 b.2.1.1 1,(),()),(),b.2.2.2.1,x.1,())) λa=>ao (inside a.1.1 (len a.2.2.2.1)<|len a.2.2.2.1)
 (ao (inside 0 a.1.1<|len<|over a.2.2.2.1 a.1.1<|kj (minus (len a.2.2.2.1) a.1.1) (([]:ay),(0:Int),(0:Int),([]:ay),([]:ay),()))
 (ab (sub (over a.2.2.2.1 a.1.1<|kj (minus (len a.2.2.2.1) a.1.1) (([]:ay),(0:Int),(0:Int),([]:ay),([]:ay),())) (0:Int)<|minus a.1.1 0,()))
 ah)
 ah)))
 ah))
def ua(x:vC×Sb×al):Option (vC×al) :=
 ag (mg (x.1,())) (λa=>ao (nt a.1)
 (ab (([]:List VA),()))
 (ag (jL (x.1,x.2.1,false,())) λb=>ab (b.1,())))
end Go.Ge
namespace Go.Ge
variable [Lp]
set_option maxRecDepth 100000
abbrev Jn:=(List<|Sb×Int×Int×Sb×Sb×al)
abbrev yc:=(Int×Sb×al)
def ji(a:(Jn×Jn×al)×al×al×(List yc)×al):Option (((Jn×Jn×al)×al×al×(List yc)×al)⊕((Jn×Jn×al)×al×al×(List yc)×al)) :=
 dq (ao (ao (nt<|ba 0<|len a.1.1)
 (ba 0<|len a.1.2.1)
 true)
 (ag (ao (aS (len a.1.1) 0)
 (ab (((1:Int),()),()))
 (ag (ao (aS (len a.1.2.1) 0)
 (ab (((-1:Int),()),()))
 (ag (idx a.1.1 (0:Int)) λd=>ag (idx a.1.2.1 (0:Int)) λb=>ag (ha (d.1,b.1,())) λc=>ab ((c.1,()),()))) λd=>ab ((d.1.1,()),()))) λd=>ag (ao (ba d.1.1 0)
 (ag (idx a.1.1 (0:Int)) λb=>ao (fits<|plus (len a.2.2.2.1)<|len ([((3:Int),b.1,())]:List yc))
 (ab ((),(),(),app a.2.2.2.1 ([((3:Int),b.1,())]:List yc),()))
 ah)
 (ag (ao (ba 0 d.1.1)
 (ag (idx a.1.2.1 (0:Int)) λb=>ao (fits<|plus (len a.2.2.2.1)<|len ([((1:Int),b.1,())]:List yc))
 (ab ((),(),(),app a.2.2.2.1 ([((1:Int),b.1,())]:List yc),()))
 ah)
 (ag (idx a.1.1 (0:Int)) λb=>ag (idx a.1.2.1 (0:Int)) λc=>ag (ao (nt<|an (bH b.1 c.1)<|an (aS b.2.1 c.2.1)<|an (aS b.2.2.1 c.2.2.1)<|an (bH b.2.2.2.1 c.2.2.2.1)<|an (bH b.2.2.2.2.1 c.2.2.2.2.1) true)
 (ao (fits<|plus (len a.2.2.2.1)<|len ([((2:Int),b.1,())]:List yc))
 (ab ((),(),(),app a.2.2.2.1 ([((2:Int),b.1,())]:List yc),()))
 ah)
 (ab ((),(),(),a.2.2.2.1,()))) λe=>ab ((),(),(),e.2.2.2.1,()))) λb=>ab ((),(),(),b.2.2.2.1,()))) λb=>ag (ao (cu d.1.1 0)
 (ao (inside 1 (len a.1.1)<|len a.1.1)
 (ab ((sub a.1.1 (1:Int)<|minus (len a.1.1) 1,()),()))
 ah)
 (ab ((a.1.1,()),()))) λc=>ag (ao (cu 0 d.1.1)
 (ao (inside 1 (len a.1.2.1)<|len a.1.2.1)
 (ab ((sub a.1.2.1 (1:Int)<|minus (len a.1.2.1) 1,()),()))
 ah)
 (ab ((a.1.2.1,()),()))) λe=>ab (Sum.inl ((c.1.1,e.1.1,()),(),(),b.2.2.2.1,())))
 (ab<|Sum.inr (0,(a.1.1,a.1.2.1,()),(),(),a.2.2.2.1,())))
def qA(x:Jn×Jn×al):Option ((List yc)×Int×al) :=
 ag (eI (x.1,())) (λb=>ag (ao (nt<|nt<|aS b.1 0)
 (ag (eI (x.2.1,())) λa=>ab (nt<|aS a.1 0))
 (ab true)) λa=>ao a
 (ab (([]:List yc),(1:Int),()))
 (ag (Loop (ji) ((x.1,x.2.1,()),(),(),([]:List yc),())) λc=>ab (c.2.2.2.1,(0:Int),())))
def mM(x:(List yc)×al)(a:(Int×al)×(al×al×al)×(List<|Int)×al):Option (((Int×al)×(al×al×al)×(List<|Int)×al)⊕((Int×al)×(al×al×al)×(List<|Int)×al)) :=
 dq (ao (ba a.1.1<|len x.1)
 (ag (idx x.1 a.1.1) λc=>ag (ao (ao (cu 1 c.1)
 (cu c.1 3)
 false)
 (ao (within c.1 4)
 (ag (idx ([([]:ay),([43]:ay),([126]:ay),([45]:ay)]:List Sb) c.1) λb=>ab ((b,()),()))
 ah)
 (ab ((([63]:ay),()),()))) λb=>ao (fits<|plus (len b.1.1)<|len ([32]:ay))
 (ag (l9 (c.2.1,())) λd=>ao (fits<|plus (len<|app b.1.1 ([32]:ay))<|len d.1)
 (ao (fits<|plus (len<|app (app b.1.1 ([32]:ay)) d.1)<|len ([10]:ay))
 (ao (fits<|plus (len a.2.2.1)<|len<|aC<|app (app (app b.1.1 ([32]:ay)) d.1) ([10]:ay))
 (ab<|Sum.inl ((aH i64 a.1.1 1,()),((),(),a.2.1.2.2),app a.2.2.1<|aC<|app (app (app b.1.1 ([32]:ay)) d.1) ([10]:ay),()))
 ah)
 ah)
 ah)
 ah)
 (ab<|Sum.inr (0,(a.1.1,()),((),(),a.2.1.2.2),a.2.2.1,())))
def vY(x:(List yc)×al):Option (Sb×al) :=
 ag (Loop (mM x) (((0:Int),()),((),(),()),([]:List (Int)),())) (λa=>ab (bu a.2.2.1,()))
end Go.Ge
