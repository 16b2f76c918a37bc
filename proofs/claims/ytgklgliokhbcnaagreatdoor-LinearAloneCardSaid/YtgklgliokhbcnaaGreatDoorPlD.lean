import Derived.Test.YtgklgliokhbcnaaGreatDoorPlC
set_option linter.unusedSectionVars false
set_option linter.unusedVariables false
set_option linter.unusedSimpArgs false
set_option linter.defProp false
open Option renaming some->aa,none->af
open Sum renaming inl->aA,inr->aB
open Go.IntKind (i64)
namespace Go.Ge
variable [Lp]
def O2(a:List Tx)(b:Int)(i:Nat)(x:Nm):Bool:=decide ((i:Int)≠b)&&x.2.1.any (λs=>decide (s∈a))
def SE(l:List Nm)(a:List Tx)(b:Int):Bool:=l.zipIdx.any λp=>O2 a b p.2 p.1
def pD(l:List Nm)(id:Tx)(a:List Tx):Int:=if eT a≠0 then eT a else if SE l a (GF l id)=true then 8 else 0
def HY{l given own}:SE l given own=true↔∃i x,l[i]?=aa x/\O2 given own i x=true:=by
 unfold SE;rw[Tv];constructor
 .rintro⟨p,a,h⟩;obtain⟨x,i⟩:=p;exact⟨i,x,ahW.1 a,h⟩
 .rintro⟨i,x,b,h⟩;exact⟨(x,i),ahW.2 b,h⟩
def MW{l given own}(h:∀i x,l[i]?=aa x->O2 given own i x=false):SE l given own=false:=by
 rw[<-Bool.not_eq_true,HY];rintro⟨i,x,a,k⟩;rw[h i x a] at k;cases k
def sW l (id:Tx) (given:List Tx) (e:Small l) (n:given.length<=4294967296):hY (l,id,given,())=aa (pD l id given,()):=by
 unfold hY pD;rw[vb given n,ab];by_cases g:eT given=0
 .rw[g,MU l id e.1,ab];generalize GF l id=own;have inner:∀y,y.2.1.length<=4294967296->(y.2.1.any (λs=>decide (s∈given))=true/\∃(k:Nat) (q:Int×aj),Loop (jK y) ((0,0,()),given,())=aa (1,((k:Int),q),given,())) \/
    (y.2.1.any (λs=>decide (s∈given))=false/\∃q,Loop (jK y) ((0,0,()),given,())=aa (0,q,given,())):=by
   intro y o;rcases eL (f:=jK y) y.2.1 (λi=>((0,i,()),given,())) (λ_ s=>decide (s∈given)) (λi s=>(1,(i,i,()),given,())) _ o (λi s hs a b=>by
    unfold jK;rw[al a,ai,ao hs,ab,Cj given s n,ab,dw,b];by_cases h:s∈given<;>simp[h]) (by unfold jK;rw[aq];rfl) with ⟨i,s,hs,j,p,h⟩|⟨hn,h⟩
   .exact .inl ⟨Tv.2 ⟨s,bq.2 ⟨i,hs⟩,j⟩,i,_,h⟩
   .refine .inr ⟨?_,_,h⟩;rw[List.any_eq_false];intro s hs;obtain⟨i,a⟩:=bq.1 hs;rw[hn i s a];simp
  rcases eL (f:=qs (l,_) (own,())) l (λi=>((0,i,()),given,())) (O2 given own) (λi x=>(1,(8,i,()),given,())) _ e.1 (λi x c a b=>by
   unfold qs;rw[al a,ai,ao c,ab];unfold O2;by_cases d:i=own
   .rw[au d,aV,ah,b];simp[d]
   .rw[ar d,aI,ai];rcases inner x (e.2 x<|bq.2 ⟨i,c⟩) with ⟨m,k,q,h⟩|⟨m,q,h⟩
    .rw[h,ab,m];dsimp only;rw[gM,ah,bA ag,ai];simp[d]
    .rw[h,ab,m];rw[cV,ai,show cw 0 (-1)=false from rfl,ah,b];simp) (by unfold qs;rw[aq];rfl) with ⟨i,x,c,j,p,h⟩|⟨hn,h⟩
  .rw[h,aN (HY.2 ⟨i,x,c,j⟩)];rfl
  .rw[h,MW hn];rfl
 .rw[ar g,aI,ai,aN g]
def wq(l:List Nm)(id:Tx)(a:List Tx)(j:Small l)(o:a.length<=4294967296)(k:∀x∈a,x.length<=4294967296):l5 (l,id,a,())=aa (pD l id a,()):=by
 unfold l5 pD;dsimp only;rw[oy a o k,ab];dsimp only;by_cases m:eT a=0
 .rw[m,au rfl,aV,ah,MT l id j.1,ab,aJ aS];generalize GF l id=own;have inner:∀(i:Nat) (x:Nm),l[i]?=aa x->(O2 a own i x=true/\∃q,Loop (jL (l,id,a,()) (own,()) (((0:Int),(i:Int),()),())) (((0:Int),(0:Int),()),())=aa (1,((8:Int),q),())) \/
    (O2 a own i x=false/\∃q,Loop (jL (l,id,a,()) (own,()) (((0:Int),(i:Int),()),())) (((0:Int),(0:Int),()),())=aa (0,((0:Int),q),())):=by
   intro i x b;rcases eL (f:=jL (l,id,a,()) (own,()) (((0:Int),(i:Int),()),())) a (λn=>(((0:Int),n,()),())) (λ_ s=>decide ((i:Int)≠own)&&decide (s∈x.2.1)) (λn s=>(1,((8:Int),(n:Int),()),())) (0,((0:Int),len a,()),()) o (λn s hs hn e=>by
    unfold jL;dsimp only;rw[al hn,ai];by_cases g:(i:Int)=own
    .rw[au g,aV,ah,e];simp[g]
    .rw[ar g,aI,ai,ao b,ab,ao hs,ab,OZ _ _ (j.2 x<|bq.2 ⟨i,b⟩),ab,dw,e];by_cases h:s∈x.2.1<;>simp[h,g]) (by unfold jL;dsimp only;rw[aq,ah];rfl) with ⟨n,s,hs,c,p,h⟩|⟨hn,h⟩
   .refine .inl ⟨?_,_,h⟩;simp only[gz,Ae] at c;unfold O2;simp only[gz,Ae,Tv];exact⟨c.1,s,c.2,bq.2 ⟨n,hs⟩⟩
   .refine .inr ⟨?_,_,h⟩;rw[<-Bool.not_eq_true];unfold O2;simp only[gz,Ae,Tv];rintro⟨d,s,r,t⟩;obtain⟨n,hs⟩:=bq.1 t;have:=hn n s hs;rw[dn d,dn r] at this;cases this
  rcases eL (f:=qu (l,id,a,()) (own,())) l (λi=>(((0:Int),i,()),())) (O2 a own) (λi x=>(1,((8:Int),(i:Int),()),())) (0,((0:Int),len l,()),()) j.1 (λi x b u e=>by
   unfold qu;dsimp only;rw[al u,ai];rcases inner i x b with ⟨d,q,h⟩|⟨d,q,h⟩
   .rw[h,ab,d];rfl
   .rw[h,ab,d,e];rfl) (by unfold qu;dsimp only;rw[aq,ah];rfl) with ⟨i,x,b,c,p,h⟩|⟨hn,h⟩
  .rw[h,ab,aN (HY.2 ⟨i,x,b,c⟩)];rfl
  .rw[h,ab,MW hn];rfl
 .rw[ar m,aI,ai,aN m]
def xw(l:List Tx)(h:l.length<=4294967296):aX (l,())=aa (l,()):=by
 unfold aX;rw[cY h];rfl
def ZH{α}{n:Nat}{l:List α}{c:Int}(a:c=n):ak (aU ((min n l.length:Nat):Int)<|len l) (aU ((min n l.length:Nat):Int) c) false=false:=by
 subst a;by_cases h:l.length<=n
 .rw[Nat.min_eq_right h,aq,ah]
 .rw[wO ag,aC (tc _)];cases aU n _<;>rfl
def yx{α}{l:List α}{n:Nat}{c:Int}(a:c=n):cw (len l) c=decide (l.length<=n):=by subst a;exact wo n l
def Vi{α}{l:List α}{n:Nat}{c:Int}(a:c=n):aU c (len l)=decide (n<l.length):=by subst a;exact AK n l
def pK(l:List Tx):Prop:=l.length<=8/\∀x∈l,x.length<=100
def SF(l:List Tx):∃b,oX (l,())=aa (b,())/\(b=true->pK l):=by
 unfold oX;rcases XY (f:=kF (l,())) l 8 (λi=>((false,i,()),())) (λ_ x=>decide (100<x.length)) (λi x=>(1,(false,i,()),())) (λn=>_) ag (λi x d a g j=>by
  unfold kF;dsimp only;rw[al a,ai,aT ag,ai,ao d,ab,Vi (c:=100) rfl,dw,j];by_cases h:100<x.length<;>simp[h]) (by unfold kF;rw[ZH (c:=8) rfl,ah]) with ⟨i,x,a,d,m,_,h⟩|⟨hn,h⟩
 .rw[h];exact⟨false,rfl,λh=>by cases h⟩
 .rw[h];refine⟨_,rfl,λe=>?_⟩;dsimp only at e;rw[yx (n:=8) (c:=8) rfl] at e;have k:=fU e;refine⟨k,λx d=>?_⟩;obtain⟨i,a⟩:=bq.1 d;have:=hn i x (by have:=av a;omega) a;simpa using this
def pK.small{l}(h:pK l):l.length<=4294967296:=by have:=h.1;omega
abbrev Item:=Tx×Tx×Tx×aj
abbrev cO:=Tx×Tx×List Tx×Tx×Int×Int×Bool×aj
abbrev lC:=Tx×List Tx×Tx×Tx×List Item×aj
abbrev AL:=Tx×List Tx×Tx×Tx×Tx×List Item×aj
abbrev aeB:=Int×List cO×List lC×List AL×aj
structure X0 (b:aeB):Prop where
 ll:b.2.1.length<=60
 ln:∀x∈b.2.1,pK x.2.2.1
 il:b.2.2.1.length<=60
 rQ:∀x∈b.2.2.1,pK x.2.1
 bl:b.2.2.2.1.length<=60
 bn:∀x∈b.2.2.2.1,pK x.2.1
def ofL(x:cO):List Nm:=if x.2.2.2.2.2.2.1=true then [(x.1,x.2.2.1,())] else []
def ofI(x:lC):List Nm:=[(x.1,x.2.1,())]
def ofB(x:AL):List Nm:=[(x.1,x.2.1,())]
def ofV(a:Int)(b:aeB):List Nm:=if a=1 then b.2.2.2.1.flatMap ofB else if a=2 then b.2.2.1.flatMap ofI else if a=3 then b.2.1.flatMap ofL else []
def lM{b c:Type}{g:b->List c}(d:∀x,(g x).length<=1)(l:List b):(l.flatMap g).length<=l.length:=by
 induction l with
 | nil=>simp
 | cons a r e=>rw[ac3,jt,iE];have:=d a;omega
def eY{a b:Type}{g:a->List b}(c:∀x,(g x).length<=1)(l:List a) i:((l.take i).flatMap g).length<=l.length:=by
 have:=lM c (l.take i)
 grind
def KX x:(ofL x).length<=1:=by unfold ofL;split<;>simp
def GH x:(ofI x).length<=1:=by simp[ofI]
def KY x:(ofB x).length<=1:=by simp[ofB]
def wI{α}{s:List α}{x:α}(h:s.length<=1000):fits (plus (len s)<|len [x])=true:=aH cJ
def wu kind b (a:X0 b):qY (kind,b,())=aa (ofV kind b,()):=by
 unfold qY ofV;by_cases g:kind=1
 .rw[aN g,au g,ai];have:=hM (f:=uw (kind,b,())) b.2.2.2.1 (λs i=>((i,()),(),s,())) ofB _ (by have:=a.bl;omega) (λi x c d e=>by
   unfold uw;dsimp only;have k:=eY KY b.2.2.2.1 i;rw[al d,ao c,ab,xw _ (a.bn x<|bq.2 ⟨i,c⟩).small,ab,wI (by have:=a.bl;omega),e];rfl) (by unfold uw;rw[aq];rfl)
  rw[this,ab,ab]
 .rw[aJ g,ar g,ah];by_cases h:kind=2
  .rw[aN h,au h,ai];have:=hM (f:=ux (kind,b,())) b.2.2.1 (λs i=>((i,()),(),s,())) ofI _ (by have:=a.il;omega) (λi x c d e=>by
    unfold ux;dsimp only;have k:=eY GH b.2.2.1 i;rw[al d,ao c,ab,xw _ (a.rQ x<|bq.2 ⟨i,c⟩).small,ab,wI (by have:=a.il;omega),e];rfl) (by unfold ux;rw[aq];rfl)
   rw[this,ab,ab,ab]
  .rw[aJ h,ar h,ah];by_cases j:kind=3
   .rw[aN j,au j,ai];have:=hM (f:=uy (kind,b,())) b.2.1 (λs i=>((i,()),(),s,())) ofL _ (by have:=a.ll;omega) (λi x c d e=>by
     unfold uy;dsimp only;have k:=eY KX b.2.1 i;rw[al d,ao c,ab,xw _ (a.ln x<|bq.2 ⟨i,c⟩).small,ab,wI (by have:=a.ll;omega),e];unfold ofL;cases x.2.2.2.2.2.2.1 with
     | false=>simp[ak,ae,cl]
     | true=>rfl) (by unfold uy;rw[aq];rfl)
    rw[this,ab,ab,ab,ab]
   .rw[aJ j,ar j];rfl
def xy(a:Int)(b:aeB)(c:X0 b):qZ (a,b,())=aa (ofV a b,()):=by
 unfold qZ ofV;dsimp only;by_cases h:a=1
 .rw[aN h,au h,ai];have:=hM (f:=uA (a,b,())) b.2.2.2.1 (λs i=>(((),i,()),s,())) ofB (((),len b.2.2.2.1,()),b.2.2.2.1.flatMap ofB,()) (by have:=c.bl;omega) (λi x d e g=>by
   unfold uA;dsimp only;have l:=eY KY b.2.2.2.1 i;rw[al e,ai,ao d,ab,ab,wI (by have:=c.bl;omega),ai,g];rfl) (by unfold uA;dsimp only;rw[aq,ah];rfl)
  rw[this,ab,ab]
 .rw[aJ h,ar h,ah];by_cases j:a=2
  .rw[aN j,au j,ai];have:=hM (f:=uB (a,b,())) b.2.2.1 (λs i=>(((),i,()),s,())) ofI (((),len b.2.2.1,()),b.2.2.1.flatMap ofI,()) (by have:=c.il;omega) (λi x d e g=>by
    unfold uB;dsimp only;have l:=eY GH b.2.2.1 i;rw[al e,ai,ao d,ab,ab,wI (by have:=c.il;omega),ai,g];rfl) (by unfold uB;dsimp only;rw[aq,ah];rfl)
   rw[this,ab,ab,ab]
  .rw[aJ j,ar j,ah];by_cases k:a=3
   .rw[aN k,au k,ai];have:=hM (f:=uC (a,b,())) b.2.1 (λs i=>(((),i,()),s,())) ofL (((),len b.2.1,()),b.2.1.flatMap ofL,()) (by have:=c.ll;omega) (λi x d e g=>by
     unfold uC;dsimp only;have l:=eY KX b.2.1 i;rw[al e,ai,ao d,ab,ab,ab,wI (by have:=c.ll;omega),ai,g];unfold ofL;cases x.2.2.2.2.2.2.1 with
     | false=>simp[ak,ae,cl]
     | true=>rfl) (by unfold uC;dsimp only;rw[aq,ah];rfl)
    rw[this,ab,ab,ab,ab]
   .rw[aJ k,ar k,ah];rfl
def Dj kind b (c:X0 b):Small (ofV kind b):=by
 unfold ofV;split
 .refine⟨by have:=lM KY b.2.2.2.1;have:=c.bl;omega,λx a=>?_⟩;rw[Rf] at a;obtain⟨y,d,a⟩:=a;simp only[ofB,DD] at a;subst a;exact(c.bn y d).small
 .split
  .refine⟨by have:=lM GH b.2.2.1;have:=c.il;omega,λx a=>?_⟩;rw[Rf] at a;obtain⟨y,d,a⟩:=a;simp only[ofI,DD] at a;subst a;exact(c.rQ y d).small
  .split
   .refine⟨by have:=lM KX b.2.1;have:=c.ll;omega,λx a=>?_⟩;rw[Rf] at a;obtain⟨y,d,a⟩:=a;unfold ofL at a;split at a
    .simp at a;subst a;exact(c.ln y d).small
    .cases a
   .exact⟨aS,λx a=>by cases a⟩
def EU(n x:Int):Int:=Ac .u32 (jv .u32 x n) (nO .u32 x<|32-n)
def qd{n m}(h:gP .u64 (ju .u64<|cH .i64 0 n) 31=m)(a:aU m 0=false)(b:cH .u64 32 m=n)(c:aU n 0=false)(d:32-n=m) x:cj (x,n,())=aa (EU n x,()):=by
 unfold cj kp EU;rw[h,a,ah,b,c,ah,ab,d,XU]
def AM{n}(a:aU n 0=false)(b:cH .i64 32 n=32-n)(c:aU (32-n) 0=false) x:cp (x,n,())=aa (EU n x,()):=by
 unfold cp EU;rw[a,ah,b,c,ah]
def r7 x:cj (x,7,())=aa (EU 7 x,()):=qd (m:=25) aD aD aD aD aD x
def r18 x:cj (x,18,())=aa (EU 18 x,()):=qd (m:=14) aD aD aD aD aD x
def r17 x:cj (x,17,())=aa (EU 17 x,()):=qd (m:=15) aD aD aD aD aD x
def r19 x:cj (x,19,())=aa (EU 19 x,()):=qd (m:=13) aD aD aD aD aD x
def r6 x:cj (x,6,())=aa (EU 6 x,()):=qd (m:=26) aD aD aD aD aD x
def r11 x:cj (x,11,())=aa (EU 11 x,()):=qd (m:=21) aD aD aD aD aD x
def r25 x:cj (x,25,())=aa (EU 25 x,()):=qd (m:=7) aD aD aD aD aD x
def r2 x:cj (x,2,())=aa (EU 2 x,()):=qd (m:=30) aD aD aD aD aD x
def r13 x:cj (x,13,())=aa (EU 13 x,()):=qd (m:=19) aD aD aD aD aD x
def r22 x:cj (x,22,())=aa (EU 22 x,()):=qd (m:=10) aD aD aD aD aD x
def t7 x:cp (x,7,())=aa (EU 7 x,()):=AM aD aD aD x
def t18 x:cp (x,18,())=aa (EU 18 x,()):=AM aD aD aD x
def t17 x:cp (x,17,())=aa (EU 17 x,()):=AM aD aD aD x
def t19 x:cp (x,19,())=aa (EU 19 x,()):=AM aD aD aD x
def t11 x:cp (x,11,())=aa (EU 11 x,()):=AM aD aD aD x
def t2 x:cp (x,2,())=aa (EU 2 x,()):=AM aD aD aD x
def t13 x:cp (x,13,())=aa (EU 13 x,()):=AM aD aD aD x
def word(b:List Int)(t:Nat):Int :=
 Ac .u32 (Ac .u32 (Ac .u32 (nO .u32 (ju .u32<|b.getD (4*t) 0) 24)<|nO .u32 (ju .u32<|b.getD (4*t+1) 0) 16)<|nO .u32 (ju .u32<|b.getD (4*t+2) 0) 8) (ju .u32<|b.getD (4*t+3) 0)
def gy(n:Nat):List Int:=List.replicate n 0
def Ck(b:List Int):Nat->List Int
 | 0=>gy 64
 | t+1=>(Ck b t).set t (word b t)
def vd b t:(Ck b t).length=64:=by
 induction t with
 | zero=>rfl
 | succ t a=>simp[Ck,a]
def aa9 b:∀t j,t<=j->j<64->(Ck b t).getD j 0=0:=by
 intro t;induction t with
 | zero =>
   intro j _ d;show(List.replicate 64 _).getD j 0=0
   grind
 | succ t a =>
   intro j e c;have:=a j ag c;simp only[Ck] at this⊢
   grind
def akW(p:List Int)(t:Nat):Int :=
 aw .u32 (aw .u32 (aw .u32 (fN .u32 (fN .u32 (EU 17<|p.getD (t-2) 0)<|EU 19<|p.getD (t-2) 0)<|jv .u32 (p.getD (t-2) 0) 10)<|p.getD (t-7) 0)
  (fN .u32 (fN .u32 (EU 7<|p.getD (t-15) 0)<|EU 18<|p.getD (t-15) 0)<|jv .u32 (p.getD (t-15) 0) 3)) (p.getD (t-16) 0)
def Kj(l:List Int):Nat->List Int
 | 0=>l
 | k+1=>(Kj l k).set (16+k) (akW (Kj l k)<|16+k)
def EV l k:(Kj l k).length=l.length:=by
 induction k with
 | zero=>rfl
 | succ k a=>simp[Kj,a]
def AN(b:List Int):List Int:=Kj (Ck b 16) 48
def GI b:(AN b).length=64:=by unfold AN;rw[EV,vd]
def four{t:Nat}(a:t<64):jr .i64 4 t=((4*t:Nat):Int):=by rw[zI ag ag];omega
def Vj b (l:b.length=64) (t:Nat) (m:t<16) w (d:w.length=64) (n:w.getD t 0=0) u v y :
  Loop (jY (b,u) ((t,v),y)) ((0,()),w,())=aa ((4,()),w.set t<|word b t,()):=by
 let a:=λj=>match j with
  | 0=>0
  | 1=>Ac .u32 (nO .u32 0 8) (ju .u32<|b.getD (4*t) 0)
  | 2=>Ac .u32 (nO .u32 (Ac .u32 (nO .u32 0 8)<|ju .u32<|b.getD (4*t) 0) 8) (ju .u32<|b.getD (4*t+1) 0)
  | 3=>Ac .u32 (nO .u32 (Ac .u32 (nO .u32 (Ac .u32 (nO .u32 0 8)<|ju .u32<|b.getD (4*t) 0) 8)<|ju .u32<|b.getD (4*t+1) 0) 8) (ju .u32<|b.getD (4*t+2) 0)
  | _=>word b t
 have c:∀j,j<4->a (j+1)=Ac .u32 (nO .u32 (a j) 8) (ju .u32<|b.getD (4*t+j) 0):=by
  intro j e;rcases(by omega:j=0\/j=1\/j=2\/j=3) with rfl|rfl|rfl|rfl
  .rfl
  .rfl
  .rfl
  .exact(ag4 _ _ _ _).symm
 have h:w=w.set t 0:=by
  apply DE
  grind
 have:=cB (f:=jY (b,u) ((t,v),y)) 4 (λj=>((j,()),w.set t<|a j,())) (λj e=>by
  unfold jY;dsimp only;rw[four ag,eA ag ag];have g:minus (((4*t:Nat):Int)+4) ((4*t:Nat):Int)=4:=by unfold minus;omega
  rw[ aT ag,ai,aE ag ag,ai,aE ag ag];have o:(w.set t<|a j).length=64:=by simp[d]
  have i:(w.set t<|a j).getD t 0=a j:=by simp[ d,(by omega:t<64)]
  rw[np b 0 (k:=4*t+j) (by unfold plus;omega) ag,ab,ai,fC _ 0 ag,i,ab,aC aD,ah,ai,ab,ab,ab,ka,az ag,zJ,List.set_set,c j e])
  (by
   unfold jY;rw[four ag,eA ag ag];have g:minus (((4*t:Nat):Int)+4) ((4*t:Nat):Int)=4:=by unfold minus;omega
   rw[g];rfl)
 grind
def ZI:([0,0,0,0,0,0,0,0,0,0,0,0,0,0,0,0,0,0,0,0,0,0,0,0,0,0,0,0,0,0,0,0,0,0,0,0,0,0,0,0,0,0,0,0,0,0,0,0,0,0,0,0,0,0,0,0,0,0,0,0,0,0,0,0]:List Int)=gy 64:=rfl
def Vk b (a:b.length=64) u:Loop (nr (b,u)) ((0,()),gy 64,())=aa ((16,()),Ck b 16,()):=by
 refine cB 16 (λt=>(((t:Int),()),Ck b t,())) (λt c=>?_) ?_
 .unfold nr;dsimp only;rw[aT ag,four ag,eA ag ag,aL ag ag ag,Vj b a t c _ (vd b t) (aa9 b t t (bX _) ag),az ag];rfl
 .unfold nr;dsimp only;rfl
def aba l (a:l.length=64):Loop nu ((16,()),l,())=aa ((64,()),Kj l 48,()):=by
 refine cB 48 (λk=>((((16+k:Nat):Int),()),Kj l k,())) (λk b=>?_) ?_
 .have hlen:(Kj l k).length=64:=by rw[EV,a]
  unfold nu;dsimp only;rw[aT ag,dv ag ag,dv ag ag,dv ag ag,dv ag ag,
   aE ag ag,ai,np _ 0 (k:=16+k-2) ag ag,ab,aE ag ag,ai,np _ 0 (k:=16+k-15) ag ag,ab,
   r7,ab,r18,ab,aC aD,ah,r17,ab,r19,ab,aE ag ag,ai,np _ 0 (k:=16+k-7) ag ag,ab,
   aE ag ag,ai,np _ 0 (k:=16+k-16) ag ag,aE ag ag,fC _ 0 ag,az ag]
  rfl
 .unfold nu;dsimp only;rfl
def SG b (a:b.length=64) u:sf (b,u)=aa (AN b,()):=by
 unfold sf;rw[ZI,Vk b a,ab];rw[aba _<|vd b 16,ab];dsimp only[AN]
def aeD s {i} (h:i<s.length) x (hx:s[i]?=aa x):u8 x=(ax s).getD i 0:=by
 simp[ax,hx,u8]
def abb h s (hs:s.length=64) u:Loop (kU (h,s,u)) ((0,()),gy 64,())=aa (((16:Int),()),Ck (ax s) 16,()):=by
 have key:∀b,b=ax s->Loop (kU (h,s,u)) ((0,()),gy 64,())=aa ((16,()),Ck b 16,()):=by
  intro b a;refine cB 16 (λt=>(((t:Int),()),Ck b t,())) (λt o=>?_) ?_
  .have at_:∀(i:Int) (j:Nat),i=j->j<64->∃x,idx s i=aa x/\u8 x=b.getD j 0:=by
    intro i j e p;subst e;refine⟨s[j],?_,by rw[a];exact aeD s ag _ (fX ag)⟩;rw[se,fX]
   unfold kU;dsimp only;rw[aT ag,four ag,eA ag ag,eA ag ag,eA ag ag];obtain⟨q,c,d⟩:=at_ _ (4*t) rfl ag;obtain⟨r,f,g⟩:=at_ (((4*t:Nat):Int)+1) (4*t+1) ag ag;obtain⟨v,k,l⟩:=at_ (((4*t:Nat):Int)+2) (4*t+2) ag ag;obtain⟨w,m,n⟩:=at_ (((4*t:Nat):Int)+3) (4*t+3) ag ag;rw[c,ab,aC aD,ah,f,ab,aC aD,ah,k,ab,m,ab,aE ag ag,
    fC _ 0 (by rw[vd];omega),az ag,d,g,l,n]
   rfl
  .unfold kU;dsimp only;rfl
 grind
def ag8 l (a:l.length=64):Loop oL ((16,()),l,())=aa ((64,()),Kj l 48,()):=by
 refine cB 48 (λk=>((((16+k:Nat):Int),()),Kj l k,())) (λk b=>?_) ?_
 .have hlen:(Kj l k).length=64:=by rw[EV,a]
  unfold oL;dsimp only;rw[aT ag,dv ag ag,dv ag ag,dv ag ag,dv ag ag,
   aE ag ag,ai,np _ 0 (k:=16+k-2) ag ag,ab,aE ag ag,ai,np _ 0 (k:=16+k-15) ag ag,ab,
   t17,ab,t19,ab,aC aD,ah,aE ag ag,ai,np _ 0 (k:=16+k-7) ag ag,ab,t7,ab,t18,ab,
   aE ag ag,ai,np _ 0 (k:=16+k-16) ag ag,aE ag ag,fC _ 0 ag,az ag]
  rfl
 .unfold oL;dsimp only;rfl
abbrev W8:=Int×Int×Int×Int×Int×Int×Int×Int
def rnd(k w:Int):W8->W8
 | (a,b,c,d,e,f,g,h) =>
   let one:=aw .u32 (aw .u32 (aw .u32 (aw .u32 h<|fN .u32 (fN .u32 (EU 6 e)<|EU 11 e)<|EU 25 e)<|fN .u32 g<|gP .u32 e<|fN .u32 f g) k) w
   let two:=aw .u32 (fN .u32 (fN .u32 (EU 2 a)<|EU 13 a)<|EU 22 a) (Ac .u32 (gP .u32 a b)<|gP .u32 c<|Ac .u32 a b)
   (aw .u32 one two,a,b,c,aw .u32 d one,e,f,g)
def Vl(K w:List Int)(s:W8):Nat->W8
 | 0=>s
 | t+1=>rnd (K.getD t 0) (w.getD t 0) (Vl K w s t)
def HZ:List Int:=[1116352408,1899447441,3049323471,3921009573,961987163,1508970993,2453635748,2870763221,3624381080,310598401,607225278,1426881987,1925078388,2162078206,2614888103,3248222580,3835390401,4022224774,264347078,604807628,770255983,1249150122,1555081692,1996064986,2554220882,2821834349,2952996808,3210313671,3336571891,3584528711,113926993,338241895,666307205,773529912,1294757372,1396182291,1695183700,1986661051,2177026350,2456956037,2730485921,2820302411,3259730800,3345764771,3516065817,3600352804,4094571909,275423344,430227734,506948616,659060556,883997877,958139571,1322822218,1537002063,1747873779,1955562222,2024104815,2227730452,2361852424,2428436474,2756734187,3204031479,3329325298]
def abc:Cb ()=aa (HZ,()):=rfl
def X1:xh ()=aa (HZ,()):=rfl
def xz(s:W8)(t:Int):Int×Int×Int×Int×Int×Int×Int×Int×Int×aj:=(s.1,s.2.1,s.2.2.1,s.2.2.2.1,s.2.2.2.2.1,s.2.2.2.2.2.1,s.2.2.2.2.2.2.1,s.2.2.2.2.2.2.2,t,())
def oz(s:W8):List Int:=[s.1,s.2.1,s.2.2.1,s.2.2.2.1,s.2.2.2.2.1,s.2.2.2.2.2.1,s.2.2.2.2.2.2.1,s.2.2.2.2.2.2.2]
def X2 w (a:w.length=64) s u v:Loop (kA (HZ,u) (w,v)) (xz s 0,())=aa (xz (Vl HZ w s 64) 64,()):=by
 refine cB 64 (λt=>(xz (Vl HZ w s t) t,())) (λt b=>?_) ?_
 .show kA _ _ _=aa _
  unfold kA xz;dsimp only;rw[aT ag,r6,r11,r25,aE ag ag,fC HZ 0 (by show t<64;omega),fC w 0 ag,
   r2,r13,r22,az ag]
  rfl
 .unfold xz;rfl
def X3(w:List Int)(n:w.length=64)(s:W8) q u v:Loop (kV (q,w,u) (HZ,v)) ((0,()),oz s,())=aa (((64:Int),()),oz<|Vl HZ w s 64,()):=by
 refine cB 64 (λt=>(((t:Int),()),oz<|Vl HZ w s t,())) (λt i=>?_) ?_
 .show kV _ _ _=aa (.inl ((((t+1:Nat):Int),()),oz<|rnd _ _ _,()))
  generalize Vl HZ w s t=q;obtain⟨a,b,c,d,e,f,g,h⟩:=q;have j:idx (oz (a,b,c,d,e,f,g,h)) 0=aa a:=rfl;have k:idx (oz (a,b,c,d,e,f,g,h)) 1=aa b:=rfl;have l:idx (oz (a,b,c,d,e,f,g,h)) 2=aa c:=rfl;have o:idx (oz (a,b,c,d,e,f,g,h)) 3=aa d:=rfl;have p:idx (oz (a,b,c,d,e,f,g,h)) 4=aa e:=rfl;have r:idx (oz (a,b,c,d,e,f,g,h)) 5=aa f:=rfl;have x:idx (oz (a,b,c,d,e,f,g,h)) 6=aa g:=rfl;have y:idx (oz (a,b,c,d,e,f,g,h)) 7=aa h:=rfl;have w0:within 0 8=true:=aD;have w1:within 1 8=true:=aD;have w2:within 2 8=true:=aD;have m:within 3 8=true:=aD;have wt:within t 64=true:=aE ag ag;unfold kV;simp only[aT<|show(t:Int)<64 by omega,ai,w0,w1,w2,m,wt,j,k,l,ab,t11,t2,t13,fC HZ 0 i,fC w 0 (show t<w.length by omega),az (show t<4611686018427387904 by omega),
   <-akT,<-aja]
  rfl
 .unfold kV;rfl
def of8(l:List Int):W8:=(l.getD 0 0,l.getD 1 0,l.getD 2 0,l.getD 3 0,l.getD 4 0,l.getD 5 0,l.getD 6 0,l.getD 7 0)
def abd l (i:l.length=8):oz (of8 l)=l:=by
 match l,i with
 | [a,b,c,d,e,f,g,h],_=>rfl
def AO(l m:List Int):Nat->List Int
 | 0=>l
 | i+1=>(AO l m i).set i (aw .u32 (l.getD i 0)<|m.getD i 0)
def Cl l m i:(AO l m i).length=l.length:=by
 induction i with
 | zero=>rfl
 | succ i a=>simp[AO,a]
def ZJ l m:∀i j,i<=j->(AO l m i).getD j 0=l.getD j 0:=by
 intro i;induction i with
 | zero=>intro j _;rfl
 | succ i a =>
   intro j h;have:=a j ag;simp only[AO] at this⊢
   grind
def comp(h b:List Int):List Int:=AO h (oz<|Vl HZ (AN b) (of8 h) 64) 8
def Vm h b:(comp h b).length=h.length:=Cl _ _ _
def abe l m (i:l.length=8) (j:m.length=8):AO l m 8=AO m l 8:=by
 match l,i,m,j with
 | [a,b,c,d,e,f,g,h],_,[k,n,o,p,q,r,s,t],_ =>
   simp only[AO,List.set,List.getD_cons_succ];simp only[Va]
def abf h (c:h.length=8) s (hs:s.length=64) u:uf (h,s,u)=aa (comp h<|ax s,()):=by
 unfold uf;rw[ZI,abb h s hs,ab];rw[ag8 _<|vd _ _,ab,X1,ab];have b:(AN<|ax s).length=64:=GI _;have d:=X3 _ b (of8 h) (64,()) () ();rw[<-((abd h c).symm)] at d;rw[show Kj _ 48=AN _ from rfl,d,ab];generalize e:oz _=m;have a:m.length=8:=by rw[<-e];rfl
 have:Loop (oM (h,s,u)) ((0,()),m,())=aa ((8,()),AO m h 8,()):=by
  refine cB 8 (λi=>(((i:Int),()),AO m h i,())) (λi f=>?_) ?_
  .have g:(AO m h i).length=8:=by rw[Cl,a]
   unfold oM;simp only[aT<|show(i:Int)<8 by omega,aE (show(0:Int)<=i by omega) (show _<8 by omega),fC _ 0 (show i<(AO m h i).length by omega),fC h 0 (show i<h.length by omega),az (show i<4611686018427387904 by omega)];rw[ZJ m h i i<|bX _];rfl
  .unfold oM;rfl
 rw[this,ab];rw[abe m h a c];unfold comp;rw[e]
def H0:List Int:=[1779033703,3144134277,1013904242,2773480762,1359893119,2600822924,528734635,1541459225]
def abg:u5 ()=aa (H0,()):=rfl
def O3:yU ()=aa (H0,()):=rfl
def AP(a:bg):Nat->List Int
 | 0=>H0
 | k+1=>comp (AP a k) (ax<|(a.drop<|64*k).take 64)
def AQ all k:(AP all k).length=8:=by
 induction k with
 | zero=>rfl
 | succ k a=>simp only[AP];rw[Vm,a]
def ZK all more:∀k,64*k<=all.length->AP (all++more) k=AP all k:=by
 intro k;induction k with
 | zero=>intro _;rfl
 | succ k a =>
   simp only[AP]
   grind
abbrev Vn:=(Bool×List Int×aj)×List Int×Int×aj
def Inv(c:Vn)(a:bg):Prop :=
 ∃b,c=((decide<|64<=a.length,(if 64<=a.length then AP a (a.length / 64) else gy 8),()),b,(a.length:Int),())/\b.length=64/\b.take (a.length % 64)=ax (a.drop<|64*(a.length / 64))
def aeE:Vn:=((false,gy 8,()),gy 64,0,())
def amI:Inv aeE []:=⟨gy 64,rfl,rfl,rfl⟩
def D8 a b:ax (a++b)=ax a++ax b:=by simp[ax]
def MX a n:(ax a).take n=ax (a.take n):=by simp[ax]
def kb a:(ax a).length=a.length:=by simp[ax]
def sX(a b:Nat):eU a b=((a % b:Nat):Int):=(Int.natCast_emod a b).symm
def aeF q (st:Vn) (a:st.1.2.1.length=8):Loop (ha (xz q 64,())) ((0,()),st,())=aa ((8,()),((st.1.1,AO st.1.2.1 (oz q) 8,st.1.2.2),st.2),()):=by
 obtain⟨⟨b,h,u⟩,c⟩:=st;refine cB (f:=ha _) 8 (λi=>((i,()),((b,AO h (oz q) i,u),c),())) (λi g=>?_) ?_
 .have j:(AO h (oz q) i).length=8:=by rw[Cl,a]
  have d:([(xz q 64).1,(xz q 64).2.1,(xz q 64).2.2.1,(xz q 64).2.2.2.1,(xz q 64).2.2.2.2.1,(xz q 64).2.2.2.2.2.1,(xz q 64).2.2.2.2.2.2.1,(xz q 64).2.2.2.2.2.2.2.1])=oz q:=rfl;unfold ha;rw[d];have e:(oz q).length=8:=rfl;simp only[aT<|show(i:Int)<8 by omega,aE (show(0:Int)<=i by omega) (show _<8 by omega),fC (AO h (oz q) i) 0 (show i<(AO h _ i).length by omega),fC _ 0 (show i<(oz q).length by omega),ab,az (show i<4611686018427387904 by omega)];rw[ZJ h _ i i<|bX _];rfl
 .unfold ha;rfl
def aeG(part a:bg)(M:Vn)(O:part≠[])(P:Inv M a)(hb:a.length+part.length<1152921504606846976) :
  ∃p,fH ((part,()),M,())=aa (.inl ((part.drop<|64-a.length % 64,()),p,()))/\Inv p (a++part.take (64-a.length % 64)):=by
 obtain⟨d,rfl,hw,Q⟩:=P;generalize R:a.length=N at *;have S:N % 64<64:=BE _ aD;have B:eU (N:Int) 64=((N % 64:Nat):Int):=sX N 64;have em:mo (ax part) (minus (64:Int) ((N % 64:Nat):Int))=ax (part.take<|64-N % 64):=by
  unfold mo minus;rw[show((64:Int)-((N % 64:Nat):Int)).toNat=64-N % 64 by omega,MX]
 generalize j:(part.take<|64-N % 64).length=k;have T:k=min (64-N % 64) part.length:=by rw[<-j,dk]
 have U:0<k:=by
  have:0<part.length:=by cases part with|nil=>exact absurd rfl O|cons=>simp
  omega
 have q:len (ax<|part.take<|64-N % 64)=(k:Int):=by unfold len;rw[kb,j]
 have s:aw .i64 ((N % 64:Nat):Int) (k:Int)=((N % 64+k:Nat):Int):=by rw[eA ag ag];omega
 have l:aw .i64 (N:Int) (k:Int)=((N+k:Nat):Int):=by rw[eA ag ag];omega
 have t:inside ((N % 64:Nat):Int) 64 64=true:=aL ag ag ag;have u:inside (k:Int) (len part) (len part)=true:=aL ag ef ag;have v:sub part (k:Int) (minus (len part) (k:Int))=part.drop k:=by
  unfold sub minus len;rw[vM,JG (by rw[qU];omega)]
 have w:part.drop k=part.drop (64-N % 64):=by
  rcases Nat.le_total (64-N % 64) part.length with h|h
  .rw[show k=64-N % 64 by omega]
  .rw[Fj ag,Fj h]
 have m:over d ((N % 64:Nat):Int) (ax<|part.take<|64-N % 64)=ax (a.drop (64*(N / 64))++part.take (64-N % 64))++d.drop (N % 64+k):=by
  unfold over;rw[vM,Q,kb,j,D8]
 have C:nt (br part [])=true:=by
  unfold br nt;cases part with
  | nil=>exact absurd rfl O
  | cons x r=>rfl
 have e:(a++part.take (64-N % 64)).length=N+k:=by rw[jt,R,j]
 have V:64*(N / 64)+N % 64=N:=TL N 64;have b:(a.drop<|64*(N / 64)).length=N % 64:=by rw[qU];omega
 have g:(ax (a.drop (64*(N / 64))++part.take (64-N % 64))++d.drop (N % 64+k)).length=64:=by
  rw[jt,kb,jt,b,j,qU];omega
 unfold fH;dsimp only;simp only[C,ai,ar (show(64:Int)≠0 by decide),ah,B,t,em,q,u,s,l,v,m];by_cases D:N % 64+k=64
 ·
  have E:d.drop (N % 64+k)=[]:=by rw[Fj ag]
  simp only[au<|show((N % 64+k:Nat):Int)=64 by omega,ai,E,vl] at g⊢;generalize z:ax (a.drop (64*(N / 64))++part.take (64-N % 64))=blk at *;have A:(N+k) / 64=N / 64+1:=ag;have F:(N+k) % 64=0:=ag;have n:((a++part.take (64-N % 64)).drop<|64*(N / 64)).take 64=a.drop (64*(N / 64))++part.take (64-N % 64):=by
   rw[aav ag,JG (by rw[jt,b,j];omega)]
  have G:∃H:Bool,H=true/\(ae (ak (nt<|decide<|64<=N) (ae (u5 ()) λI:List Int×aj=>aa ((),((true,I.1,()),blk,((N+k:Nat):Int),()),()))<|some ((),((decide<|64<=N,(if 64<=N then AP a (N / 64) else gy 8),()),blk,((N+k:Nat):Int),()),())) λy:aj×Vn×aj=>aa y)=aa ((),((true,AP a (N / 64),()),blk,((N+k:Nat):Int),()),()):=by
   refine⟨true,rfl,?_⟩;by_cases c:64<=N
   .simp only[c,Zc,x9];rfl
   .have:N / 64=0:=ag;simp only[c,decide_false,if_false,this,abg];rfl
  obtain⟨_,_,G⟩:=G;have J:(ak (nt<|decide<|64<=N) (ae (u5 ()) λI:List Int×aj=>aa ((),((true,I.1,()),blk,((N+k:Nat):Int),()),())) (aa ((),((decide<|64<=N,(if 64<=N then AP a (N / 64) else gy 8),()),blk,((N+k:Nat):Int),()),())):Option (aj×Vn×aj))=aa ((),((true,AP a (N / 64),()),blk,((N+k:Nat):Int),()),()):=by
   have:∀o:Option (aj×Vn×aj),(ae o λy=>aa y)=o:=by intro o;cases o<;>rfl
   exact(this _).symm.trans G
  rw[J,ab,abc,ab,SG blk g,ab];dsimp only;have K:=AQ a (N / 64);have W:=np (AP a<|N / 64) 0 (i:=0) (k:=0) rfl ag;have X:=np (AP a<|N / 64) 0 (i:=1) (k:=1) rfl ag;have Y:=np (AP a<|N / 64) 0 (i:=2) (k:=2) rfl ag;have Z:=np (AP a<|N / 64) 0 (i:=3) (k:=3) rfl ag;have i4:=np (AP a<|N / 64) 0 (i:=4) (k:=4) rfl ag;have i5:=np (AP a<|N / 64) 0 (i:=5) (k:=5) rfl ag;have i6:=np (AP a<|N / 64) 0 (i:=6) (k:=6) rfl ag;have i7:=np (AP a<|N / 64) 0 (i:=7) (k:=7) rfl ag;have w0:within 0 8=true:=aD;have w1:within 1 8=true:=aD;have w2:within 2 8=true:=aD;have w3:within 3 8=true:=aD;have w4:within 4 8=true:=aD;have w5:within 5 8=true:=aD;have w6:within 6 8=true:=aD;have w7:within 7 8=true:=aD;simp only[w0,w1,w2,w3,w4,w5,w6,w7,ai,W,X,Y,Z,i4,i5,i6,i7,ab];have hr:=X2 (AN blk) (GI blk) (of8<|AP a<|N / 64) () ();rw[show((AP a _).getD 0 0,(AP a _).getD 1 0,(AP a _).getD 2 0,(AP a _).getD 3 0,(AP a _).getD 4 0,(AP a _).getD 5 0,(AP a _).getD 6 0,(AP a _).getD 7 0,0,())=xz (of8<|AP a _) 0 from rfl,hr,ab];rw[aeF _ ((true,AP a _,()),blk,_,()) K,ab,ab,ka];refine⟨_,by rw[w],?_⟩;refine⟨blk,?_,g,?_⟩
  .rw[e];have c:64<=N+k:=ag;simp only[c,Zc,x9];have L:AP (a++part.take (64-N % 64)) ((N+k) / 64)=AO (AP a<|N / 64) (oz<|Vl HZ (AN blk) (of8<|AP a<|N / 64) 64) 8:=by
    rw[A];simp only[AP];rw[ZK a _ _ ag,n,z];rfl
   rw[L]
  .rw[e,F,Fj ag];rfl
 .have hnf:N % 64+k<64:=ag;simp only[ar<|show((N % 64+k:Nat):Int)≠64 by omega,ah,ab,ka];refine⟨_,by rw[w],?_⟩;have A:(N+k) / 64=N / 64:=ag;refine⟨_,?_,g,?_⟩
  .rw[e,A];by_cases c:64<=N
   .have f:64<=N+k:=ag;simp only[c,f];rw[ZK a _ _ ag]
   .have f:¬64<=N+k:=ag;simp only[c,f,if_false]
  .rw[e,A,acQ (by rw[kb,jt,b,j];omega),JG (by rw[kb,jt];omega),aav ag]
def aeH:∀n a all c,a.length<=n->Inv c all->all.length+a.length<1152921504606846976 ->
  ∃b,Loop fH ((a,()),c,())=aa (([],()),b,())/\Inv b (all++a):=by
 intro n;induction n with
 | zero =>
   intro a all c hn e f;rw[aO];have:fH (([],()),c,())=aa (.inr (([],()),c,())):=by
    unfold fH;rw[show nt _=false from rfl,ah,mK]
   grind
 | succ n h =>
   intro a all c hn e f;by_cases i:a=[]
   .grind
   .obtain⟨d,j,k⟩:=aeG a all c i e f;obtain⟨b,l,g⟩:=h (a.drop<|64-all.length % 64) _ d (by rw[qU];omega) k (by rw[jt,dk,qU];omega);refine⟨b,?_,by rw[vL,Fk] at g;exact g⟩;rw[aO,j];exact l
def KZ part all st (b:Inv st all) (c:all.length+part.length<1152921504606846976):∃a,ga ((part,()),st,())=aa ((),a,())/\Inv a (all++part):=by
 obtain⟨a,d,e⟩:=aeH part.length part all st (bX _) b c;refine⟨a,?_,e⟩;unfold ga;rw[d,ab]
def zs(n:Nat):Nat:=(119-n % 64) % 64
def je(n k:Nat):Int:=ju .u8 (jv .u64 (jr .u64 (ju .u64 (n:Int)) 8) ((8*k:Nat):Int))
def O4(n:Nat):List Int:=[je n 7,je n 6,je n 5,je n 4,je n 3,je n 2,je n 1,je n 0]
def pad(s:bg):bg:=s++[128]++List.replicate (zs s.length) 0++bm (O4 s.length)
def EW s:(pad s).length=s.length+1+zs s.length+8:=by simp[pad,bm,O4];omega
def ZL s:(pad s).length % 64=0:=by rw[EW];unfold zs;omega
def mL s:bm (ax s)=s:=by
 unfold bm ax;rw[List.map_map]
 conv=>rhs;rw[<-List.map_id s]
 apply Y0;simp_all
def y5 a b:bm (a++b)=bm a++bm b:=by simp[bm]
def Vo s (hn:s.length<=1048576):Loop kT (((),()),ax s++[128],())=aa (((),()),ax s++[128]++gy (zs s.length),()):=by
 have b:zs s.length<64:=BE _ aD;have:=cB (f:=kT) (zs s.length) (λj=>(((),()),ax s++[128]++gy j,())) (λj a=>by
  unfold kT;have el:len (ax s++[128]++gy j)=((s.length+1+j:Nat):Int):=by unfold len;simp[ax,gy];omega
  rw[ar aD,ah,el,show((64:Int))=((64:Nat):Int) from rfl,sX,ar (by unfold zs at a;omega),show nt false=true from rfl,ai,dU (by simp only[plus,len,Ra];omega),ai,ka]
  congr 4
  show ax s++[128]++gy j++[0]=_
  rw[vL,show gy j++[0]=gy (j+1) from by simp[gy,List.replicate_succ']])
  (by
   unfold kT;have el:len (ax s++[128]++gy (zs s.length))=((s.length+1+zs s.length:Nat):Int):=by unfold len;simp[ax,gy];omega
   rw[ar aD,ah,el,show(64)=((64:Nat):Int) from rfl,sX,au (by unfold zs;omega),show nt true=false from rfl,ah,mK])
 have c:ax s++[128]++gy 0=ax s++[128]:=by simp[gy]
 grind
def abh s b (hn:s.length<=1048576) (g:b.length<=2097152) u:Loop (eV (s,u)) (((),7,()),b,())=aa (((),-1,()),b++O4 s.length,()):=by
 have step:∀(k:Nat) c,k<=7->c.length<=2097160->eV (s,u) (((),k,()),c,())=aa (.inl (((),k-1,()),c++[je s.length k],())):=by
  intro k c a d;unfold eV;dsimp only;have f:jr .i64 8 k=((8*k:Nat):Int):=by rw[zI ag ag];omega
  rw[ f,dU (by simp only[plus,len,Ra];omega),dv ag ag];rfl
 have e:∀c,eV (s,u) (((),(-1),()),c,())=aa (.inr (((),-1,()),c,())):=by
  intro c;unfold eV;dsimp only;rw[cR aD,ah,mK]
 have L:∀(k:Nat) c,k<=7->c.length<=2097160->Loop (eV (s,u)) (((),(k:Int),()),c,())=Loop (eV (s,u)) (((),k-1,()),c++[je s.length k],()):=by
  intro k c a d;rw[aO,step k c a d];rfl
 refine(L 7 b ag ag).trans ((L 6 _ ag cJ).trans<|(L 5 _ ag cJ).trans<|(L 4 _ ag cJ).trans<|(L 3 _ ag cJ).trans<|(L 2 _ ag cJ).trans<|(L 1 _ ag cJ).trans<|(L 0 _ ag cJ).trans ?_);have:b++[je s.length 7]++[je s.length 6]++[je s.length 5]++[je s.length 4]++[je s.length 3]++[je s.length 2]++[je s.length 1]++[je s.length 0]=b++O4 s.length:=by simp[O4]
 rw[this];rw[aO];rfl
def abj s (hn:s.length<=1048576):ue (s,())=aa (pad s,()):=by
 have a:zs s.length<64:=BE _ aD;unfold ue;dsimp only;rw[dU ef,dU (by simp only[plus,len,Ra,kb];omega),show app _ _=ax s++[128] from rfl,Vo s hn,ab];rw[abh s _ hn<|by simp[kb,gy];omega,ab];rw[y5,y5,y5,mL];have:bm (gy<|zs s.length)=List.replicate (zs s.length) 0:=by unfold bm gy;rw[List.map_replicate];rfl
 rw[this];rfl
def X4 t (b:t.length % 64=0) (hn:t.length<=2097152) u:Loop (n9 (t,u)) ((0,()),H0,())=aa (((t.length:Int),()),AP t<|t.length / 64,()):=by
 have:=cB (f:=n9 (t,u)) (t.length / 64) (λj=>((((64*j:Nat):Int),()),AP t j,())) (λj c=>by
  unfold n9;dsimp only;rw[eA ag ag,bA ef,aL ag ag ef];have hs:sub t ((64*j:Nat):Int) (minus (((64*j:Nat):Int)+64) ((64*j:Nat):Int))=(t.drop<|64*j).take 64:=by
   unfold sub minus
   grind
  rw[hs,abf _ (AQ t j) _ (by rw[dk,qU];omega)];rfl)
  (by
   unfold n9;dsimp only;have a:64*(t.length / 64)=t.length:=ag;rw[a,eA ag ag,cR ef,ah,mK])
 exact this
def amJ(h:List Int)(i:Nat):Int:=ju .u8 (jv .u32 (h.getD (i / 4) 0) ((24-8*(i % 4):Nat):Int))
def Vp(h:List Int):Nat->List Int
 | 0=>gy 32
 | i+1=>(Vp h i).set i (amJ h i)
def Cm h i:(Vp h i).length=32:=by
 induction i with
 | zero=>rfl
 | succ i a=>simp[Vp,a]
def ZM:([0,0,0,0,0,0,0,0,0,0,0,0,0,0,0,0,0,0,0,0,0,0,0,0,0,0,0,0,0,0,0,0]:List Int)=gy 32:=rfl
def aeI{a:Nat}(h:a<4611686018427387904):Hg .i64 a 4=((a / 4:Nat):Int):=by
 unfold Hg;have:=uI (a:=((a / 4):Int)) ag ag;unfold ju at this
 grind
def Vq{h o:List Int}(a:h.length=8)(b:o.length=32)(i:Nat)(c:i<32):Hg .i64 i 4=((i / 4:Nat):Int)/\cH .i64 24 (jr .i64 8<|eU i 4)=((24-8*(i % 4):Nat):Int):=by
 refine⟨aeI ag,?_⟩;rw[show 4=((4:Nat):Int) from rfl,sX,zI ag ag,dv ag ag];omega
def ag9 h (a:h.length=8) q u:Loop (sg (q,h,u)) ((0,()),gy 32,())=aa ((32,()),Vp h 32,()):=by
 refine cB 32 (λi=>(((i:Int),()),Vp h i,())) (λi b=>?_) ?_
 .have c:=Cm h i;obtain⟨d,e⟩:=Vq a c i b;unfold sg;dsimp only;rw[aT ag,d,aE ag ag,ai,fC h 0 ag,e,aE ag ag,
   fC _ 0 ag,az ag]
  rfl
 .unfold sg;dsimp only;rfl
def aha h w (f:h.length=8) g n (a b c d e:aj) r:Loop (kC (r,((g,h,a),w,n,b),c)) ((0,()),gy 32,())=aa ((32,()),Vp h 32,()):=by
 refine cB 32 (λi=>(((i:Int),()),Vp h i,())) (λi j=>?_) ?_
 .have k:=Cm h i;obtain⟨l,m⟩:=Vq f k i j;unfold kC;dsimp only;rw[aT ag,l,aE ag ag,ai,fC h 0 ag,m,aE ag ag,
   fC _ 0 ag,az ag]
  rfl
 .unfold kC;dsimp only;rfl
def sha(s:bg):List Int:=Vp (AP (pad s)<|(pad s).length / 64) 32
def tQ s:(sha s).length=32:=Cm _ _
def X5 s (hn:s.length<=1048576):yk (s,())=aa (sha s,()):=by
 have a:zs s.length<64:=BE _ aD;unfold yk;rw[O3,ab];rw[abj s hn,ab,X4 _ (ZL s) (by rw[EW];omega),ab,ZM,ag9 _ (AQ _ _),ab];dsimp only[sha]
def abk s (hn:s.length<=1152921504606840000) st (c:Inv st (s++[128])):∃a,Loop eB ((),st,())=aa ((),a,())/\Inv a (s++[128]++List.replicate (zs s.length) 0):=by
 have o:zs s.length<64:=BE _ aD;have key:∀m j st,j+m=zs s.length->Inv st (s++[128]++List.replicate j 0)->∃a,Loop eB ((),st,())=aa ((),a,())/\Inv a (s++[128]++List.replicate (zs s.length) 0):=by
  intro m;induction m with
  | zero =>
    intro j st f c;obtain rfl:j=zs s.length:=ag;refine⟨st,?_,c⟩;obtain⟨b,rfl,h,i⟩:=c;rw[aO];have:eB ((),((decide<|64<=(s++[128]++List.replicate (zs s.length) 0).length,(if 64<=(s++[128]++List.replicate (zs s.length) 0).length then AP (s++[128]++List.replicate (zs s.length) 0) ((s++[128]++List.replicate (zs s.length) 0).length / 64) else gy 8),()),b,((s++[128]++List.replicate (zs s.length) 0).length:Int),()),())=aa (.inr ((),((decide<|64<=(s++[128]++List.replicate (zs s.length) 0).length,(if 64<=(s++[128]++List.replicate (zs s.length) 0).length then AP (s++[128]++List.replicate (zs s.length) 0) ((s++[128]++List.replicate (zs s.length) 0).length / 64) else gy 8),()),b,((s++[128]++List.replicate (zs s.length) 0).length:Int),()),())):=by
     have k:(s++[128]++List.replicate (zs s.length) 0).length=s.length+1+zs s.length:=cJ;unfold eB;rw[ar aD,ah,k,show(64)=((64:Nat):Int) from rfl,sX,au (by unfold zs;omega),show nt true=false from rfl,ah,mK]
    grind
  | succ m l =>
    intro j st f c;obtain⟨d,n,g⟩:=KZ [0] _ st c cJ;obtain⟨a,p,q⟩:=l (j+1) d ag (by
     rw[vL,show List.replicate j (0:UInt8)++[0]=List.replicate _ 0 from by rw[List.replicate_succ']] at g;exact g)
    rw[aO];have e:st.2.2.1=((s.length+1+j:Nat):Int):=by
     obtain⟨b,rfl,h,i⟩:=c
     grind
    have:eB ((),st,())=aa (.inl ((),d,())):=by
     unfold eB;rw[ar aD,ah,e,show(64)=((64:Nat):Int) from rfl,sX,ar (by unfold zs at f;omega),show nt false=true from rfl,ai,n,ab,ka]
    grind
 exact key (zs s.length) 0 st ag (by simpa using c)
def aeJ(n:Nat)(i:n<=1152921504606840000)(a:Vn)(b:a.2.2.1=n) u v:Loop (kB (u,a,v)) ((0,()),gy 8,())=aa ((8,()),O4 n,()):=by
 obtain⟨d,e,m,q⟩:=a;have step:∀(k:Nat) c,k<8->c.length=8->kB (u,(d,e,n,q),v) ((k,()),c,())=aa (.inl ((((k+1):Int),()),c.set (7-k)<|je n k,())):=by
  intro k c f j;unfold kB;dsimp only;have g:jr .i64 8 k=((8*k:Nat):Int):=by rw[zI ag ag];omega
  have h:cH .i64 7 k=((7-k:Nat):Int):=by rw[dv ag ag];omega
  rw[aT ag,g,h,aE ag ag,fC c 0 ag,az ag];rfl
 have:=cB 8 (λk=>(((k:Int),()),(match k with
  | 0=>gy 8
  | 1=>[0,0,0,0,0,0,0,je n 0]
  | 2=>[0,0,0,0,0,0,je n 1,je n 0]
  | 3=>[0,0,0,0,0,je n 2,je n 1,je n 0]
  | 4=>[0,0,0,0,je n 3,je n 2,je n 1,je n 0]
  | 5=>[0,0,0,je n 4,je n 3,je n 2,je n 1,je n 0]
  | 6=>[0,0,je n 5,je n 4,je n 3,je n 2,je n 1,je n 0]
  | 7=>[0,je n 6,je n 5,je n 4,je n 3,je n 2,je n 1,je n 0]
  | _=>O4 n),())) (λk f=>by
    rcases(by omega:k=0\/k=1\/k=2\/k=3\/k=4\/k=5\/k=6\/k=7) with rfl|rfl|rfl|rfl|rfl|rfl|rfl|rfl<;>exact(step _ _ ag rfl).trans rfl)
  (by
   rfl)
 grind
def ahc s (hn:s.length<=1048576) st (h:Inv st s) u v:oK (u,st,v)=aa ((sha s,()),st,()):=by
 have o:zs s.length<64:=BE _ aD;have b:st.2.2.1=s.length:=by obtain⟨a,rfl,_⟩:=h;rfl
 obtain⟨c,i,j⟩:=KZ [128] s st h cJ;obtain⟨d,k,l⟩:=abk s ag c j;obtain⟨e,m,n⟩:=KZ (bm<|O4 s.length) _ d l (by simp[bm,O4];omega);unfold oK;rw[ZM,show bm _=[128] from rfl,i,ab];rw[k,ab];rw[show([0,0,0,0,0,0,0,0])=gy 8 from rfl,aeJ s.length ag st b,ab,aL aD aD aD,ai];rw[show sub _ 0 _=O4 s.length from rfl,m,ab];have f:Inv e (pad s):=n;obtain⟨a,rfl,p,q⟩:=f;have g:64<=(pad s).length:=by have:=ZL s;rw[EW] at this⊢;omega
 simp only[g,x9];rw[aha _ _ (AQ _ _) _ _ () () () () () (),ab];dsimp only[sha]
def X6 s (hn:s.length<=1048576):Dc (s,())=aa (sha s,()):=by
 obtain⟨a,b,c⟩:=KZ s [] aeE amI cJ;unfold Dc;rw[show((false,([0,0,0,0,0,0,0,0]),()),([0,0,0,0,0,0,0,0,0,0,0,0,0,0,0,0,0,0,0,0,0,0,0,0,0,0,0,0,0,0,0,0,0,0,0,0,0,0,0,0,0,0,0,0,0,0,0,0,0,0,0,0,0,0,0,0,0,0,0,0,0,0,0,0]),_,())=aeE from rfl,b,ab];rw[ahc s hn a<|by simpa using c,ab]
def O5:bg:=[48,49,50,51,52,53,54,55,56,57,97,98,99,100,101,102]
def hx(n:Nat):UInt8:=O5.getD n 0
def ve:bg->bg
 | []=>[]
 | b::r=>hx (b.toNat / 16)::hx (b.toNat % 16)::ve r
def ke l:(ve l).length=2*l.length:=by
 induction l with
 | nil=>rfl
 | cons b r a=>simp only[ve,iE];omega
def aeK a b:ve (a++b)=ve a++ve b:=by
 induction a with
 | nil=>rfl
 | cons x r c=>simp only[Lh,ve,c]
def ahd:∀n:Fin 256,idx O5 (jv .u8 (n.val:Int) 4)=aa (hx<|n.val / 16):=by decide +kernel
def ahe:∀n:Fin 256,idx O5 (gP .u8 (n.val:Int) 15)=aa (hx<|n.val % 16):=by decide +kernel
def ajd b:idx O5 (jv .u8 (u8 b) 4)=aa (hx<|b.toNat / 16):=ahd ⟨b.toNat,b.toNat_lt⟩
def aje b:idx O5 (gP .u8 (u8 b) 15)=aa (hx<|b.toNat % 16):=ahe ⟨b.toNat,b.toNat_lt⟩
def zK s {k:Nat} h:idx (ax s) k=aa (u8 s[k]):=by
 rw[se];simp[ax,u8,h]
def K0(s:bg){k:Nat} h:idx s k=aa s[k]:=by
 rw[se];simp
def lD s:len (ax s)=(s.length:Int):=by simp[len,ax]
def SH(s:bg){k} h:s.take (k+1)=s.take k++[s[k]]:=by
 rw[wN,fX h];rfl
def ZN(s:bg){k} h:ax (ve<|s.take<|k+1)=(ax (ve<|s.take k)++[u8<|hx<|s[k].toNat / 16])++[u8<|hx<|s[k].toNat % 16]:=by
 rw[SH s h,aeK,D8,vL];rfl
def aeL(s:bg)(a:s.length<=1048576){k}(h:k<s.length)(x y:Int) :
  fits (plus (len<|ax<|ve<|s.take k)<|len [x])=true/\fits (plus (len<|ax (ve<|s.take k)++[x])<|len [y])=true:=by
 constructor
 .apply dU;rw[lD,ke];simp only[dk,plus,len,iE,pM];omega
 .apply dU;have:(ax (ve<|s.take k)++[x]).length=2*min k s.length+1:=by
   rw[jt,kb,ke,dk];rfl
  simp only[plus,len,iE,pM];omega
def SI s (hs:s.length<=1048576):lU (s,())=aa (ve s,()):=by
 unfold lU;rw[dU<|by simp only[len];omega,ai];have key:Loop (mu (s,())) ((0,()),((),(),()),[],())=aa (((s.length:Int),()),((),(),()),ax<|ve s,()):=by
  have:=cB (f:=mu (s,())) s.length (λk=>((k,()),((),(),()),ax<|ve _,())) (λk a=>by
   unfold mu;dsimp only;obtain⟨b,c⟩:=aeL s hs a _ _;rw[lD,aT ag,ai,aE ag ag,ai,zK s a,ab,aC aD,ah];rw[show([48,49,50,51,52,53,54,55,56,57,97,98,99,100,101,102])=O5 from rfl,ajd,ab,b,ai,aje,ab];unfold app;rw[c,ai,ka,az ag,ZN s a]) (by
   unfold mu;dsimp only;rw[lD,aC ag,ah,mK,yI])
  exact this
 rw[key,ab];rw[mL]
def amK:∀n:Fin 16,pR ((n.val:Int),())=aa (u8<|hx n.val,()):=by decide +kernel
def ZO{n:Nat}(h:n<16):pR (n,())=aa (u8<|hx n,()):=amK ⟨n,h⟩
def aeM:∀n:Fin 256,Hg .i64 (ju .i64 (n.val:Int)) 16=((n.val / 16:Nat):Int):=by decide +kernel
def aeN:∀n:Fin 256,eU (ju .i64 (n.val:Int)) 16=((n.val % 16:Nat):Int):=by decide +kernel
def ajf b:Hg .i64 (ju .i64<|u8 b) 16=((b.toNat / 16:Nat):Int):=aeM ⟨b.toNat,b.toNat_lt⟩
def ajg b:eU (ju .i64<|u8 b) 16=((b.toNat % 16:Nat):Int):=aeN ⟨b.toNat,b.toNat_lt⟩
def MY s (hs:s.length<=1048576):u6 (s,())=aa (ve s,()):=by
 unfold u6;have key:Loop (oc (s,())) (((),0,()),[],())=aa (((),(s.length:Int),()),ax<|ve s,()):=by
  have:=cB (f:=oc (s,())) s.length (λk=>(((),k,()),ax _,())) (λk a=>by
   unfold oc;dsimp only;obtain⟨b,c⟩:=aeL s hs a _ _;have d:=s[k].toNat_lt;rw[show len s=s.length from rfl,aT ag,ai,K0 s a,ab,ar aD,ah,ajf,ZO ag,ab];dsimp only;rw[b,ai,ab,ah,ajg,ZO ag,ab];unfold app;rw[c,ai,ka,az ag,ZN s a]) (by
   unfold oc;dsimp only;rw[show len s=s.length from rfl,aC ag,ah,mK,yI])
  exact this
 rw[key,ab];rw[mL]
def hv(c:UInt8):Int:=Lib.indexByte O5 c
def aim:∀n:Fin 16,hv (hx n.val)=(n.val:Int):=by decide +kernel
def aeO{a b}(h:u8 a=u8 b):a=b:=by
 have:a.toNat=b.toNat:=by unfold u8 at h;omega
 exact TM.1 this
def H2:bg->Option bg
 | []=>aa []
 | [_]=>af
 | a::b::r=>if hv a<0\/hv b<0 then af else(H2 r).map (UInt8.ofNat (16*(hv a).toNat+(hv b).toNat)::·)
def aeP(l:bg) k (h:k<=l.length):sub l k (minus (len l) k)=l.drop k:=by
 unfold sub minus len;rw[vM,JG (by rw[qU];omega)]
def zL{a b:Nat}(h:a+b<4611686018427387904):aw .i64 a b=((a+b:Nat):Int):=by
 rw[eA ag ag];omega
def H3:∀l,H2 (ve l)=aa l:=by
 intro l;induction l with
 | nil=>rfl
 | cons b r a =>
   have c:=b.toNat_lt;simp only[ve,H2,(aim ⟨b.toNat / 16,ag⟩),(aim ⟨b.toNat % 16,ag⟩),a];rw[aJ ag];rw[vM,vM,show 16*_+b.toNat % 16=b.toNat by omega];simp
def amL:bg:=[115,104,97,50,53,54,58]
def SJ(s:bg):bg:=amL++ve (bm<|sha s)
def Ql{α}(l:List α) n (h:l.length=n):sub l 0 (minus n 0)=l:=by
 unfold sub minus;rw[show((0:Int).toNat)=0 from rfl,DG,JG ag]
def aeQ s (hs:s.length<=1048576):oa (s,())=aa (SJ s,()):=by
 unfold oa;rw[X6 s hs,ab];rw[show sub _ 0 (minus 32 0)=sha s from Ql _ 32 (tQ s),SI _ (by simp[bm,tQ]),ab];dsimp only;rw[dU<|by simp only[plus,len,ke,bm,yJ,tQ,iE,pM];omega];rfl
def Qm s (hs:s.length<=1048576):tF (s,())=aa (SJ s,()):=by
 unfold tF;rw[X5 s hs,ab];rw[show sub _ 0 (minus 32 0)=sha s from Ql _ 32 (tQ s),MY _ (by simp[bm,tQ]),ab];dsimp only;rw[dU<|by simp only[plus,len,ke,bm,yJ,tQ,iE,pM];omega];rfl
def Vr(l:bg)(k:Nat):sub l 0 (minus k 0)=l.take k:=by
 unfold sub minus;rw[show((0:Int).toNat)=0 from rfl,DG,adp,vM]
set_option maxRecDepth 100000
def dq(p:UInt8->Bool)(s:bg):bg:=(s.reverse.dropWhile p).reverse
def xA{p} s {x} (h:p x=true):dq p (s++[x])=dq p s:=by
 simp[dq,h]
def y6{p} s {x} (h:p x=false):dq p (s++[x])=s++[x]:=by
 simp[dq,h]
def Qn{p}:∀z s,(∀x∈z,p x=true)->dq p (s++z)=dq p s:=by
 intro z;induction z with
 | nil=>intro s _;rw[vl]
 | cons x r a =>
   intro s h;rw[show s++x::r=(s++[x])++r by simp,a _ (λy b=>h y (vK _ b)),xA s (h x<|qT ..)]
def aeR{p s}(h:∀x,s.getLast?=aa x->p x=false):dq p s=s:=by
 rcases YX s with rfl|⟨r,x,rfl⟩
 .rfl
 .have:=h x aS;rw[acZ];exact y6 r this
def Vs(r:bg) x (a:r.length<=1048576):cH .i64 (len<|r++[x]) 1=(r.length:Int)/\idx (r++[x]) (r.length:Int)=aa x:=by
 constructor
 .have:len (r++[x])=((r.length+1):Int):=by simp[len]
  rw[ dv ag ag];omega
 .rw[se];simp
def O6 c:∀n s,s.length<=n->s.length<=1048576->∀q,Loop (fl (q,c,())) ((s,()),())=aa ((dq (λx=>aG (u8 x) c) s,()),()):=by
 intro n;induction n with
 | zero =>
   intro s h _ q;obtain rfl:s=[]:=yG.1 ag;rw[aO];rfl
 | succ n f =>
   intro s h a q;rcases YX s with rfl|⟨r,x,rfl⟩
   .grind
   .rw[acZ] at h a⊢;rw[jt] at h a;obtain⟨b,d⟩:=Vs r x ag;rw[aO];have e:fl (q,c,()) ((r++[x],()),())=if aG (u8 x) c=true then aa (.inl ((r,()),())) else aa (.inr ((r++[x],()),())):=by
     unfold fl;rw[aT<|by simp only[len,jt,iE];omega,ai,b,d,ab,ab];cases hx:aG _ c with
     | true =>
       rw[ai,aL ag ag (by simp only[len,jt];omega),ai,ka,show sub _ 0 _=r from by rw[Vr];simp,aN rfl]
     | false=>rw[ah,mK,aJ aS]
    rw[e];cases hx:aG _ c with
    | true =>
      rw[ xA r hx]
      grind
    | false =>
      rw[ y6 r hx];rfl
def yy s c (hs:s.length<=1048576):eW (s,c,())=aa (dq (λx=>aG (u8 x) c) s,()):=by
 unfold eW;rw[O6 c s.length s (bX _) hs s,ab]
def db(x:UInt8):Bool:=aG (u8 x) 0
def zM x:db x=true↔x=0:=by
 unfold db aG;rw[TI];constructor
 .intro h;exact aeO h
 .rintro rfl;rfl
def O7 s (hs:s.length<=1048576):eC (s,[0],())=aa (dq db s,()):=by
 unfold eC;by_cases h:s=[]
 .subst h;rfl
 .rw[show br s []=false from cm h,aI,ai,show aG _ 1=true from rfl,ai,show idx ([0]:bg) 0=aa 0 from rfl,ab,ab,ab,
   yy s _ hs]
  rfl
def xB:List Bool:=((List.replicate 256 false).set 0 true).set 32 true
def BG(x:UInt8):Bool:=xB.getD x.toNat false
def SK:xB.length=256:=by simp only[xB,Y7,acV]
def ajh:∀n:Fin 256,xB.getD n.val false=(decide (n.val=0)||decide (n.val=32)):=by decide +kernel
def Vt x:BG x=true↔x=0\/x=32:=by
 unfold BG;rw[ajh ⟨x.toNat,x.toNat_lt⟩];simp;constructor
 .rintro(h|h)
  .exact .inl (TM.1 h)
  .exact .inr (TM.1 h)
 .rintro(rfl|rfl)
  .grind
  .grind
def SL x:cM ((u8 x,()),xB,())=aa ((BG x,()),xB,()):=by
 unfold cM;have hx:=x.toNat_lt;have e:u8 x=x.toNat:=rfl;dsimp only;rw[e,aE ag ag,fC xB false (by show _<xB.length;rw[SK];omega)];rfl
def Vu:ek ([0,32],())=aa (xB,true,()):=by
 have key:Loop (ez ([0,32],())) ((false,0,()),List.replicate 256 false,())=aa (0,(false,2,()),xB,()):=by
  rw[aO];show Loop _ _=_
  rw[aO];show Loop _ _=_
  rw[aO];rfl
 exact(congrArg (ae · _) key).trans rfl
def Vv:∀n s,s.length<=n->s.length<=1048576->Loop cN ((s,()),xB,())=aa ((dq BG s,()),xB,()):=by
 intro n;induction n with
 | zero =>
   intro s h _;obtain rfl:s=[]:=yG.1 ag;rw[aO];rfl
 | succ n e =>
   intro s h a;rcases YX s with rfl|⟨r,x,rfl⟩
   .grind
   .rw[acZ] at h a⊢;rw[jt] at h a;obtain⟨b,c⟩:=Vs r x ag;rw[aO];have d:cN ((r++[x],()),xB,())=if BG x=true then aa (.inl ((r,()),xB,())) else aa (.inr ((r++[x],()),xB,())):=by
     unfold cN;rw[aT<|by simp only[len,jt,iE];omega,ai,b,c,ab,SL,ab];cases hx:BG x with
     | true =>
       rw[aV,ah,aL ag ag (by simp only[len,jt];omega),ai,ka,show sub _ 0 _=r from by rw[Vr];simp,aN rfl]
     | false=>rw[aI,ai,mK,aJ aS]
    rw[d];cases hx:BG x with
    | true =>
      rw[ xA r hx]
      grind
    | false =>
      rw[ y6 r hx];rfl
def GJ s (hs:s.length<=1048576):eC (s,[0,32],())=aa (dq BG s,()):=by
 unfold eC;by_cases h:s=[]
 .subst h;rfl
 .rw[show br s []=false from cm h,aI,ai,show br [0,32] []=false from rfl,ah,show aG _ 1=false from rfl,ah,ab,Vu,ab];unfold dN;rw[Vv s.length s (bX _) hs];rfl
def O8 c:∀n s,s.length<=n->∀q,Loop (fO (q,c,())) ((s,()),())=aa ((s.dropWhile<|λx=>aG (u8 x) c,()),()):=by
 intro n;induction n with
 | zero =>
   intro s h q;obtain rfl:s=[]:=yG.1 ag;rw[aO];rfl
 | succ n a =>
   intro s h q;cases s with
   | nil=>rw[aO];rfl
   | cons x r =>
     rw[aO];have b:fO (q,c,()) ((x::r,()),())=if aG (u8 x) c=true then aa (.inl ((r,()),())) else aa (.inr ((x::r,()),())):=by
      unfold fO;rw[aT<|by simp only[len,iE];omega,ai,show idx _ 0=aa x from rfl,ab,ab];cases hx:aG _ c with
      | true =>
        rw[ai,aL aD (by simp only[len,iE];omega) (tc _),ai,ka,show sub _ 1 _=r from aeP _ 1 aS,aN rfl]
      | false=>rw[ah,mK,aJ aS]
     rw[ TG]
     grind
def H4 s c:hU (s,c,())=aa (s.dropWhile<|λx=>aG (u8 x) c,()):=by
 unfold hU;rw[O8 c s.length s (bX _) s,ab]
def H5{p}{l:bg}{x}(h:x∈l.takeWhile p):p x=true:=vN.1 List.all_takeWhile x h
def Vw s (hs:s.length<=1048576):iK (s,[0],())=aa ((dq db s).dropWhile db,()):=by
 unfold iK;by_cases h:s=[]
 .subst h;rfl
 .rw[show br s []=false from cm h,aI,ai,show aG _ 1=true from rfl,ai,show idx ([0]:bg) 0=aa 0 from rfl,ab,ab,ab,
   yy s _ hs,ab,ab,H4]
  rfl
def AR s:(dq db s).dropWhile db=[]↔∀x∈s,x=0:=by
 constructor
 .intro h;have e:∀x∈dq db s,db x=true:=by
   intro x a;have:=BA (p:=db) (l:=dq db s);rw[h,vl] at this;rw[<-this] at a;exact H5 a
  have b:dq db s=[]:=by
   rcases YX _ with b|⟨r,x,b⟩
   .exact b
   .exfalso;have a:=e x (by rw[b];simp);unfold dq at b;have c:(s.reverse.dropWhile db)=x::r.reverse:=by
     grind
    have:=List.head?_dropWhile_not db s.reverse
    grind
  intro x a;have c:s.reverse.dropWhile db=[]:=by
   have:=congrArg List.reverse b;simpa [dq] using this
  have:=BA (p:=db) (l:=s.reverse);rw[c,vl] at this;have d:=List.mem_reverse.2 a;rw[<-this] at d;exact(zM x).1 (H5 d)
 .intro h;have:dq db s=[]:=by
   have:=Qn s [] (λx a=>(zM x).2 (h x a));exact this
  simp_all
def MZ b (c:b.length<=1048576):ug (b,())=aa (decide (b.length=512/\∀x∈b,x=0),()):=by
 unfold ug;by_cases h:b.length=512
 .rw[au<|by simp only[len];omega,ai,Vw b c,ab,ab];unfold br;by_cases a:∀x∈b,x=0
  .rw[dn<|(AR b).2 a,dn ⟨h,a⟩]
  .rw[cm<|λe=>a ((AR b).1 e),cm λe=>a e.2]
 .rw[ar<|by simp only[len];omega,ah,ab,cm λe=>h e.1]
end Go.Ge
namespace Go.Ge
variable [Lp]
def ain:∀d:Fin 8,ju .i64 (cH .u8 ((48+d.val:Nat):Int) 48)=(d.val:Int):=by decide +kernel
def amM{v d:Nat}(a:d<8)(g:8*v+d<9223372036854775808):Ac .i64 (nO .i64 v 3) (ju .i64<|cH .u8 ((48+d:Nat):Int) 48)=((8*v+d:Nat):Int):=by
 rw[ain ⟨d,a⟩];have b:nO .i64 v 3=((8*v:Nat):Int):=by
  unfold nO;rw[show min _ IntKind.i64.bits=3 from rfl,show v*2 ^ 3=((8*v):Int) by omega];exact uI ag ag
 rw[b];unfold Ac;have e:(BitVec.ofInt IntKind.i64.bits ((8*v:Nat):Int) ||| BitVec.ofInt IntKind.i64.bits (d:Int)).toNat=8*v+d:=by
  rw[BitVec.toNat_or];have c:(BitVec.ofInt IntKind.i64.bits ((8*v:Nat):Int)).toNat=2 ^ 3*v:=by
   rw[Y4,show(IntKind.i64.bits)=64 from rfl];omega
  have f:(BitVec.ofInt IntKind.i64.bits d).toNat=d:=by
   rw[Y4,show(IntKind.i64.bits)=64 from rfl];omega
  rw[c,f,<-Nat.two_pow_add_eq_or_of_lt a]
 rw[e];exact uI ag ag
def zN(s:bg):Prop:=∀x∈s,x≠0
instance (s:bg):Decidable (zN s):=inferInstanceAs (Decidable (∀x∈s,x≠0))
def H6:∀s,decide (Lib.indexByte s 0<0)=decide (zN s):=by
 intro s;induction s with
 | nil=>rfl
 | cons b r a =>
   unfold Lib.indexByte;by_cases d:b=0
   .subst d;rw[aN<|by rfl,cm aD,cm λh=>h 0 (qT ..) rfl]
   .rw[aJ<|by simpa using d];by_cases c:zN r
    .rw[dn c] at a;have e:=fU a;have g:=(Bh 0 r).1;have f:Lib.indexByte r 0=-1:=ag;rw[f,dn aD,dn];intro x hx;rcases fI.1 hx with rfl|hx
     .exact d
     .exact c x hx
    .rw[cm c] at a;have e:=wM a;rw[aJ cJ,cm ag,cm];intro h;exact c λx hx=>h x (vK _ hx)
def GK s:dy (s,0,())=aa (Lib.indexByte s 0,()):=rfl
def GL s (hs:s.length<=1048576):kq (s,())=aa (dq db s,decide<|zN<|dq db s,()):=by
 unfold kq;rw[O7 s hs,ab];rw[GK,ab];unfold aU;rw[H6]
abbrev Hd:=bg×Int×Int×Int×Int×Int×Int×bg×aj
def clr(s:bg)(a:Int):Prop:=s≠[]/\(s.length:Int)<=a/\zN s
instance (s:bg) (a:Int):Decidable (clr s a):=inferInstanceAs (Decidable<|_/\_/\_)
def SM(n b:Int):Prop:=0<=n/\n<b
instance (n b:Int):Decidable (SM n b):=inferInstanceAs (Decidable<|_/\_)
def kindOk(h:Hd):Prop:=(h.2.1=1/\h.2.2.2.2.2.2.2.1=[])\/(h.2.1=2/\h.2.2.2.2.2.2.2.1=[]/\h.2.2.2.2.2.1=0)\/(h.2.1=3/\clr h.2.2.2.2.2.2.2.1 100/\h.2.2.2.2.2.1=0)
instance (h:Hd):Decidable (kindOk h):=inferInstanceAs (Decidable<|_\/_\/_)
def O9(h:Hd)(a:Int):Prop:=SM h.2.2.1 2097152/\SM h.2.2.2.1 2097152/\SM h.2.2.2.2.1 2097152/\SM h.2.2.2.2.2.1 8589934592/\SM h.2.2.2.2.2.2.1 8589934592/\clr h.1 a/\kindOk h
instance (h:Hd) (a:Int):Decidable (O9 h a):=inferInstanceAs (Decidable<|_/\_/\_/\_/\_/\_/\_)
def EX n b:lK (n,b,())=aa (decide<|SM n b,()):=by
 unfold lK;by_cases h:0<=n
 .rw[bA h,ai];unfold aU SM;simp[h]
 .rw[cR ag,ah,cm λe=>h e.1]
def Qo s m:od (s,m,())=aa (decide<|clr s m,()):=by
 unfold od;by_cases h:s=[]
 .subst h;rw[show br [] []=true from rfl,aV,ah,ah,ab,cm λe=>e.1 rfl]
 .rw[show br s []=false from cm h,aI,ai];by_cases a:s.length<=m
  .rw[bA<|by exact a,ai,GK,ab,ab];unfold aU;rw[H6];unfold clr;simp[h,a]
  .rw[cR<|by simp only[len];omega,ah,ab,cm λe=>a e.2.1]
def Vx(h:Hd) m:rv (h,m,())=aa (decide<|O9 h m,()):=by
 unfold rv;by_cases d:SM h.2.2.1 2097152
 case neg=>rw[EX,ab,cm d,ah,ab,ah,ab,ah,ab,ah,ab,aI,aV,ah,ab,ai,cm λe=>d e.1]
 rw[EX,ab,dn d,ai,EX,ab,ab];by_cases f:SM h.2.2.2.1 2097152
 case neg=>rw[cm f,ah,ab,ah,ab,ah,ab,aI,aV,ah,ab,ai,cm λe=>f e.2.1]
 rw[dn f,ai,EX,ab,ab];by_cases g:SM h.2.2.2.2.1 2097152
 case neg=>rw[cm g,ah,ab,ah,ab,aI,aV,ah,ab,ai,cm λe=>g e.2.2.1]
 rw[dn g,ai,EX,ab,ab];by_cases i:SM h.2.2.2.2.2.1 8589934592
 case neg=>rw[cm i,ah,ab,aI,aV,ah,ab,ai,cm λe=>i e.2.2.2.1]
 rw[dn i,ai,EX,ab,ab];by_cases j:SM h.2.2.2.2.2.2.1 8589934592
 case neg=>rw[cm j,aI,aV,ah,ab,ai,cm λe=>j e.2.2.2.2.1]
 rw[dn j,aV,aI,ai,Qo,ab,ab];by_cases k:clr h.1 m
 case neg=>rw[cm k,aI,ai,cm λe=>k e.2.2.2.2.2.1]
 rw[dn k,aV,ah];rw[(gO.2 ⟨λe=>e.2.2.2.2.2.2,λe=>⟨d,f,g,i,j,k,e⟩⟩)];by_cases l:h.2.1=1
 .rw[l,xg,ai];unfold br;rw[show decide _=decide (kindOk h) from gO.2 (by unfold kindOk;simp[l])]
 .rw[ar l,ah];by_cases b:h.2.1=2
  .rw[b,xg,ai];unfold br aG;by_cases a:h.2.2.2.2.2.2.2.1=[]
   .rw[dn a,ai,show decide (h.2.2.2.2.2.1=0)=decide (kindOk h) from gO.2 (by unfold kindOk;simp[b,a])]
   .rw[cm a,ah,show decide (kindOk h)=false from cm (by unfold kindOk;simp[b,a])]
  .rw[ar b,ah];by_cases c:h.2.1=3
   .rw[c,xg,ai,Qo,ab];unfold aG;by_cases a:clr h.2.2.2.2.2.2.2.1 100
    .rw[dn a,ai,show decide _=decide (kindOk h) from gO.2 (by unfold kindOk;simp[c,a])]
    .rw[cm a,ah,show decide _=false from cm (by unfold kindOk;simp[c,a])]
   .rw[ar c,ah,show decide _=false from cm (by unfold kindOk;simp[l,b,c])]
def cE:bg->List bg
 | []=>[[]]
 | b::r=>if b=47 then []::cE r else match cE r with
   | h::t=>(b::h)::t
   | []=>[[b]]
def pr s:cE s≠[]:=by
 cases s with
 | nil=>simp[cE]
 | cons b r =>
   unfold cE
   grind
def kf{b}(h:b≠47){r x t}(e:cE r=x::t):cE (b::r)=(b::x)::t:=by
 rw[cE,aJ h,e]
def parts(p:bg):List bg:=if p=[] then [] else cE p
def Vy{b}(h:b≠47):∀k r x t,Lib.splitK [47] 0 k r=x::t->Lib.splitK [47] 0 k (b::r)=(b::x)::t:=by
 intro k r x t e;cases k with
 | zero=>simp[Lib.splitK] at e⊢;exact⟨by rw[e.1],e.2⟩
 | succ k =>
   have a:Lib.index (b::r) [47]=if Lib.index r [47]==-1 then -1 else Lib.index r [47]+1:=by
    rw[Lib.index]
    grind
   have d:=Lib.index_ge r [47];unfold Lib.splitK at e⊢;rw[a];by_cases c:(Lib.index r [47]==-1)=true
   .grind
   .rw[aJ c] at e⊢;have f:Lib.index r [47]≠-1:=λq=>c (by rw[q];rfl);have hn:¬((Lib.index r [47]+1==-1)=true):=λq=>by have:=beq_iff_eq.1 q;omega
    obtain⟨j,g⟩:∃j:Nat,Lib.index r [47]=j:=⟨(Lib.index r [47]).toNat,ag⟩;simp_all
def SN k r:Lib.splitK [47] 0 (k+1) (47::r)=[]::Lib.splitK [47] 0 k r:=by
 have a:Lib.index (47::r) [47]=0:=by rw[Lib.index];simp
 rw[Lib.splitK,a];simp
def abl:∀s k,s.count 47<=k->Lib.splitK [47] 0 k s=cE s:=by
 intro s;induction s with
 | nil =>
   intro k _;cases k with
   | zero=>rfl
   | succ k=>simp[Lib.splitK,cE,Lib.index]
 | cons b r d =>
   intro k a;by_cases h:b=47
   .subst h;obtain⟨c,rfl⟩:∃c,k=c+1:=⟨k-1,by rw[List.count_cons_self] at a;omega⟩;rw[SN,d c (by rw[List.count_cons_self] at a;omega),cE,aN rfl]
   .have:=d k (by rwa [List.count_cons_of_ne h] at a);cases hs:cE r with
    | nil=>exact absurd hs (pr r)
    | cons x t =>
      rw[hs] at this;rw[Vy h k r x t this,kf h hs]
def aeT s:Lib.split s [47]=cE s:=abl s _ (by rw[Lib.count_one];apply bX)
def ZP c:aG (u8 c) 47=decide (c=47):=D7 (n:=47)
def akX c:aG (u8 c) 0=decide (c=0):=D7 (n:=0)
def rF p (a:p.length<=1048576):fg (p,())=aa (parts p,()):=by
 unfold fg parts;by_cases h:p=[]
 .rw[ck h,ai,aN h]
 .rw[aY h,ah,aJ h];have:vn (p,[47],())=aa (cE p,()):=by
   show(Db p [47]).map _=_
   unfold Db;simp only;rw[aN ag,aeT];rfl
  rw[this,ab]
def iq p (v:p.length<=1048576):ec (p,())=aa (parts p,()):=by
 unfold ec parts;by_cases h:p=[]
 .rw[ck h,ai,aN h]
 .rw[aY h,ah,aJ h];have key:=qc (f:=kX (p,())) p (λs i=>(((),s.1,i,()),s.2,()))
   (λi s x=>aa (.inl<|if x=47 then([],s.2++[s.1]) else(s.1++[x],s.2))) (λi s=>(((),s.1,i,()),s.2,())) (λi s=>s.1.length<=i/\s.2.length<=i)
   (λs i x k u n=>by
    unfold kX;dsimp only;rw[al u,ai,ao k,ab,ZP];by_cases b:x=47
    .rw[dn b,ai,aH cJ,az ag];simp only[aN b];rfl
    .rw[cm b,ah,az ag,jd ag ag,sub_one k,aH cJ];simp only[aJ b];rfl)
   (λs i x w k n hs=>by
    obtain rfl:=TR (aF hs);by_cases b:x=47
    .grind
    .simp only[aJ b,jt,iE,pM];omega)
   (λs n=>by
    unfold kX;rw[aq];rfl)
   (λs i x _ _ h=>by cases h) ([],[]) ⟨bX _,bX _⟩
  have run:∀r i a o,∃d c j,va (λi s x=>aa (.inl<|if x=47 then([],s.2++[s.1]) else(s.1++[x],s.2))) (λi s=>(((),s.1,(i:Int),()),s.2,())) r i (a,o)=aa (((),d,j,()),c,()) /\
    c++[d]=o++(match cE r with|h::t=>(a++h)::t|[]=>[a])/\c.length<=o.length+r.length:=by
   intro r;induction r with
   | nil=>intro i a o;exact⟨a,o,_,rfl,by simp[cE],aS⟩
   | cons x r q =>
     intro i a o;by_cases b:x=47
     .obtain⟨d,c,j,l,e,m⟩:=q (i+1) [] (o++[a]);refine⟨d,c,j,?_,?_,?_⟩
      .unfold va
       grind
      .rw[e,cE,aN b];cases hs:cE r with
       | nil=>exact absurd hs (pr r)
       | cons h t=>simp
      .grind
     .obtain⟨d,c,j,l,e,m⟩:=q (i+1) (a++[x]) o;refine⟨d,c,j,?_,?_,?_⟩
      .unfold va
       grind
      .rw[e];cases hs:cE r with
       | nil=>exact absurd hs (pr r)
       | cons h t=>rw[kf b hs];simp
      .grind
  obtain⟨d,c,j,l,e,m⟩:=run p 0 [] [];have g:Loop (kX _) (((),([]),0,()),_)=aa _:=key.trans l;rw[g,ab];simp at m;rw[aH cJ,ai,gX,e];cases hs:cE p with
  | nil=>exact absurd hs (pr p)
  | cons h t=>simp
def aP:List bg->bg
 | []=>[]
 | [x]=>x
 | x::y::r=>x++47::aP (y::r)
def aeU l:Lib.join l [47]=aP l:=by
 induction l with
 | nil=>rfl
 | cons x r a =>
   cases r with
   | nil=>simp[Lib.join_one,aP]
   | cons y r =>
     rw[aP,<-a,Lib.join_cons,Lib.join_cons];simp[Lib.joinTail]
def wv s:aP (cE s)=s:=by
 induction s with
 | nil=>rfl
 | cons b r a =>
   by_cases h:b=47
   .subst h;rw[cE,aN rfl];cases hs:cE r with
    | nil=>exact absurd hs (pr r)
    | cons x t=>rw[aP,<-hs,a];rfl
   .cases hs:cE r with
    | nil=>exact absurd hs (pr r)
    | cons x t =>
      rw[kf h hs];rw[hs] at a;cases t with
      | nil=>rw[aP] at a⊢;rw[a]
      | cons y t=>rw[aP] at a⊢;rw[Lh,a]
def dP p:aP (parts p)=p:=by
 unfold parts;by_cases h:p=[]
 .rw[ h];rfl
 .rw[aJ h,wv]
def EY x (hx:47∉x) r:cE (x++47::r)=x::cE r:=by
 induction x with
 | nil=>rw[JJ,cE,aN rfl]
 | cons b x a =>
   simp at hx;exact kf (λe=>hx.1 e.symm) (a hx.2)
def pt x (hx:47∉x):cE x=[x]:=by
 induction x with
 | nil=>rfl
 | cons b x a =>
   simp at hx;exact kf (λe=>hx.1 e.symm) (a hx.2)
def GM l (a:l≠[]) (h:∀x∈l,47∉x):cE (aP l)=l:=by
 induction l with
 | nil=>exact absurd rfl a
 | cons x r b =>
   cases r with
   | nil=>exact pt x (h x<|qT ..)
   | cons y r =>
     rw[aP,EY x (h x<|qT ..),b aS λz c=>h z (vK _ c)]
def X7 s:∀x∈cE s,47∉x/\x.length<=s.length:=by
 induction s with
 | nil=>intro x a;simp[cE] at a;subst a;simp
 | cons b r c =>
   intro x a;by_cases h:b=47
   .rw[cE] at a
    grind
   .cases hs:cE r with
    | nil=>exact absurd hs (pr r)
    | cons y t =>
      rw[kf h hs] at a
      grind
def D9 s:(cE s).length<=s.length+1:=by
 induction s with
 | nil=>simp[cE]
 | cons b r a =>
   by_cases h:b=47
   .rw[cE,aN h];simp;omega
   .cases hs:cE r with
    | nil=>exact absurd hs (pr r)
    | cons y t=>rw[kf h hs];rw[hs] at a;simp at a⊢;omega
def Qp p:∀x∈parts p,47∉x/\x.length<=p.length:=by
 unfold parts;by_cases h:p=[]
 .grind
 .rw[aJ h];exact X7 p
def fD p:(parts p).length<=p.length+1:=by
 unfold parts;by_cases h:p=[]
 .grind
 .rw[aJ h];exact D9 p
def kg l (h:∀x∈l,47∉x/\x≠[]):parts (aP l)=l:=by
 unfold parts;cases l with
 | nil=>rfl
 | cons x r =>
   have a:aP (x::r)≠[]:=by
    have:=(h x<|qT ..).2;cases r with
    | nil=>exact this
    | cons y r=>rw[aP];simp
   rw[aJ a,GM _ aS λz b=>(h z b).1]
def Cn l (o:l.length<=1048576) (hx:(aP l).length<=1048576):oO (l,())=aa (aP l,()):=by
 unfold oO;have pre:∀a b,a≠[]->b≠[]->aP (a++b)=aP a++47::aP b:=by
  intro a;induction a with
  | nil=>intro b h;exact absurd rfl h
  | cons x r n =>
    intro b _ c;cases r with
    | nil =>
      cases b with
      | nil=>exact absurd rfl c
      | cons y b=>rfl
    | cons y r =>
      have:=n b aS c;rw[Lh,Lh,aP,aP,<-Lh,this];simp
 have mono:∀i,(aP<|l.take i).length<=(aP l).length:=by
  intro i;by_cases j:l.take i=[]
  .rw[j];simp[aP]
  .by_cases c:l.drop i=[]
   .rw[show l.take i=l from by have:=Fk i l;rw[c,vl] at this;exact this];apply bX
   .have:=pre _ _ j c;simp_all
 have step:∀i x,l[i]?=aa x->aP (l.take<|i+1)=(if 0<i then aP (l.take i)++[47] else aP (l.take i))++x:=by
  intro i x hx;have e:l.take (i+1)=l.take i++[x]:=by rw[wN,hx];rfl
  rw[e];cases i with
  | zero=>rfl
  | succ i =>
    rw[ pre _ _ (by have:=av hx;intro q;have:=congrArg List.length q;rw[dk] at this;simp only[pM] at this;omega) aS];simp[aP]
 have key:=cB (f:=qj (l,())) l.length (λi=>((aP<|l.take i,i,()),())) (λi k=>by
  obtain⟨x,d⟩:∃x,l[i]?=aa x:=⟨_,fX k⟩;have hs:=step i x d;have c:=mono (i+1);rw[hs] at c;unfold qj;dsimp only;rw[al k,ai];by_cases m:0<i
  .rw[aN m] at hs c;rw[jt,jt] at c;rw[aT ag,ai,aH ag,ai,ab,ao d,ab];rw[aH<|by simp only[gX,jt];omega,az ag,hs];rfl
  .rw[aJ m] at hs c;rw[jt] at c;rw[aC ag,ah,ab,ao d,ab];dsimp only;rw[aH ag,az ag,hs];rfl) (by
  unfold qj;rw[aq,yI];rfl)
 have g:Loop _ ((([]),(0:Int),()),())=aa _:=key;rw[g,ab]
def tR(s:bg):Bool:=decide (s≠[46]/\s≠[46,46]/\1<=s.length/\s.length<=32/\0∉s)
def Ea s:decide (Lib.indexByte s 0<0)=decide (0∉s):=by
 rw[H6];by_cases h:zN s
 .rw[dn h,dn];intro a;exact h 0 a rfl
 .rw[cm h,cm];intro a;exact h λx b e=>a (e▸b)
def X8 s:sj (s,())=aa (tR s,()):=by
 unfold sj;have one:∀i:Nat,i<2->nw (s,()) ((false,i,()),())=if br s (if i=0 then [46] else [46,46])=true then aa (.inr (1,(false,i,()),())) else aa (.inl ((false,((i+1:Nat):Int),()),())):=by
  intro i h;unfold nw;dsimp only;rw[aT ag,ai,se];rcases(by omega:i=0\/i=1) with rfl|rfl
  .rw[show([[46],[46,46]]:List bg)[0]?=aa [46] from rfl,ab,dw];rfl
  .rw[show([[46],[46,46]]:List bg)[1]?=aa [46,46] from rfl,ab,dw];rfl
 by_cases c:s=[46]
 .rw[aO,show((false,(0:Int),()),())=((false,((0:Nat):Int),()),()) from rfl,one 0 ag];subst c;rfl
 .rw[aO,show((false,0,()),())=((false,((0:Nat):Int),()),()) from rfl,one 0 ag,aJ (by rw[aN rfl,aY c];simp)];by_cases d:s=[46,46]
  .simp only[Option.bind];rw[aO,one 1 ag];subst d;rfl
  .simp only[Option.bind];rw[aO,one 1 ag,aJ (by rw[aJ ag,aY d];simp)];simp only[Option.bind];rw[aO];have e:nw (s,()) ((false,((1+1:Nat):Int),()),())=aa _:=rfl;rw[e];simp;rw[ab];rw[cV];have el:cw 1 (len s)=decide (1<=s.length):=by unfold len;apply gO.2;omega
   have f:cw _ 32=decide _:=wo 32 s;rw[el,f];have g:dy (s,0,())=aa (Lib.indexByte s 0,()):=rfl;rw[g,ab];rw[show aU _ 0=decide _ from Ea s];unfold tR;by_cases a:1<=s.length
   .by_cases b:s.length<=32
    .simp[a,b,ak,ae,c,d]
    .simp[ b,ak,ae]
   .simp[a,ak,ae]
def Pb s (hs:s.length<=1048576):sn (s,())=aa (tR s&&decide (47∉s),()):=by
 unfold sn;have key:=qc (f:=nx (s,())) s (λ_ i=>((false,i,()),()))
  (λi _ x=>aa (if x=0\/x=47 then .inr _ else .inl ())) (λi _=>(0,(false,i,()),())) (λ_ _=>True)
  (λu i x l m _=>by
   unfold nx;rw[al m,ao l,ab,akX];by_cases j:x=0
   .rw[dn j,aN (.inl j)];rfl
   .rw[cm j,ab,ZP];by_cases b:x=47
    .rw[dn b,aN (.inr b)];rfl
    .rw[cm b,aJ (by simp[j,b]),az ag];rfl)
  (λ_ _ _ _ _ _ _=>trivial)
  (λu _=>by
   unfold nx;rw[aq,ah])
  (λ_ _ _ _ _ h=>by cases h) () trivial
 have run:∀(r:bg) i,∃q,va (λi _ x=>aa (if x=0\/x=47 then aB (1,(false,(i:Int),()),()) else aA ())) (λi _=>(0,(false,i,()),())) r i ()=aa q /\
   q.1=(if 0∉r/\47∉r then 0 else 1)/\q.2.1.1=false:=by
  intro r;induction r with
  | nil=>intro i;exact⟨_,rfl,aS,rfl⟩
  | cons x r n =>
    intro i;unfold va;by_cases h:x=0\/x=47
    .simp
     grind
    .simp;obtain⟨q,b,k,o⟩:=n (i+1)
     grind
 obtain⟨q,b,k,o⟩:=run s 0;have g:Loop _ ((false,(0:Int),()),())=aa q:=key.trans b;rw[g,ab];have el:cw 1 (len s)=decide (1<=s.length):=by unfold len;apply gO.2;omega
 have p:cw _ 32=decide _:=wo 32 s;rw[el,p,k];unfold tR;by_cases a:0∉s/\47∉s
 .rw[aN a,cV];by_cases c:1<=s.length
  .by_cases d:s.length<=32
   .by_cases e:s=[46]
    .simp[e,ak,br,nt]
    .by_cases f:s=[46,46]
     .simp[f,ak,br,nt]
     .simp[a,c,d,ak,br,nt]
   .simp[d,ak]
  .simp[c,ak]
 .rw[aJ a,gM,ah]
  grind
def Qq p (j:p.length<=1048576):xk (p,())=aa ((parts p).all tR&&decide ((parts p).length<=8)&&decide (p.length<=96),()):=by
 unfold xk;rw[iq p j,ab];have e:=Qp p;have hn:=fD p;generalize parts p=l at e hn;have key:=qc (f:=uh (l,())) l (λ_ i=>((false,i,()),()))
  (λi _ x=>aa (if tR x=false then .inr _ else .inl ())) (λi _=>(0,(false,i,()),())) (λ_ _=>True)
  (λu i x g k _=>by
   unfold uh;have c:=e x (dW g);rw[al k,ao g,ab,Pb x ag,ab];rw[dn c.1,adl];cases h:tR x with
   | true=>rw[ az ag];rfl
   | false=>rfl)
  (λ_ _ _ _ _ _ _=>trivial)
  (λu _=>by
   unfold uh;rw[aq,ah])
  (λ_ _ _ _ _ h=>by cases h) () trivial
 have run:∀r i,∃q,va (λi _ x=>aa (if tR x=false then aB (1,(false,(i:Int),()),()) else aA ())) (λi _=>(0,(false,i,()),())) r i ()=aa q /\
   q.1=(if r.all tR=true then 0 else 1)/\q.2.1.1=false:=by
  intro r;induction r with
  | nil=>intro i;exact⟨_,rfl,rfl,rfl⟩
  | cons x r t =>
    intro i;unfold va;cases h:tR x with
    | false=>exact⟨_,rfl,by simp[h],rfl⟩
    | true =>
      simp_all
 obtain⟨q,m,n,o⟩:=run l 0;have b:Loop _ ((false,(0:Int),()),())=aa q:=key.trans m;rw[b,ab,n,o];have s:cw _ 8=decide _:=wo 8 l;have d:cw _ 96=decide _:=wo 96 p;rw[s,d];cases h:l.all tR with
 | true =>
   rw[aN rfl,cV];by_cases a:l.length<=8<;>simp[ ak]
 | false=>rw[aJ aS,gM,ah];simp
def nL(x:bg):Bool:=decide (x≠[]/\x≠[46])
def names(s:bg):List bg:=(parts s).filter nL
def nM(s:bg):Bool:=(names s).all tR&&decide (s.head?≠aa 47)&&decide ((names s).length<=8)&&decide ((aP<|names s).length<=96)
def lE(s:bg):bg×Int:=if nM s then(aP<|names s,0) else([],2)
def wJ s:∀x∈names s,47∉x/\x≠[]/\x.length<=s.length:=by
 intro x a;obtain⟨b,c⟩:=zg.1 a;obtain⟨d,e⟩:=Qp s x b;simp only[nL] at c
 grind
def GN s:(names s).length<=s.length+1:=gi (TD _ _) (fD s)
def Jk s:parts (aP<|names s)=names s:=kg _ λx a=>⟨(wJ s x a).1,(wJ s x a).2.1⟩
def xC s:(aP<|names s).length<=s.length:=by
 have gen:∀l,(aP<|l.filter nL).length<=(aP l).length:=by
  intro l;induction l with
  | nil=>simp
  | cons x r a =>
    by_cases b:nL x=true
    .rw[ah6 b];cases c:r.filter nL with
     | nil =>
       cases r with
       | nil=>apply bX
       | cons y r=>simp only[aP,jt,iE];omega
     | cons y q =>
       rw[c] at a;cases r with
       | nil=>simp at c
       | cons z r=>simp only[aP,jt,iE] at a⊢;omega
    .rw[List.filter_cons_of_neg b];cases r with
     | nil=>simp[aP]
     | cons z r=>rw[aP];simp;omega
 have:=gen (parts s);rw[dP] at this;exact this
def Vz s:cC (s,[47],())=aa (decide<|s.head?=aa 47,()):=by
 unfold cC cq;cases s with
 | nil=>rfl
 | cons b r =>
   have a:inside 0 (len [(47:UInt8)]) (len (b::r))=true:=aL aD aD (by simp only[len,iE,pM];omega);rw[(bA<|by simp only[len,iE,pM];omega),ai,a,ai,Qi,ab,ab];simp[br]
def Qr s (hs:s.length<=4096):pS (s,())=aa ((lE s).1,(lE s).2,()):=by
 unfold pS;rw[rF s ag,ab];have hn:=fD s;have key:=qc (f:=oN (parts s,())) (parts s) (λo i=>((([]),0,(),(i:Int),()),o,()))
  (λi o x=>aa (if nL x=false then .inl o else if tR x=false then .inr _ else .inl (o++[x]))) (λi o=>(0,(([]),0,(),(i:Int),()),o,())) (λi o=>o.length<=i)
  (λo i x l t u=>by
   unfold oN;rw[al t,ai,ao l,ab];have e:nL x=(nt (br x [])&&nt (br x [46])):=by simp[nL,br,nt]
   by_cases a:x=[]
   .rw[ck a,aV,ah,ai,ab];rw[ az ag,aN (by rw[e,ck a];rfl)];rfl
   .by_cases b:x=[46]
    .rw[aY a,aI,ai,ck b,ai,ab];rw[ az ag,aN (by rw[e,ck b];simp[nt])];rfl
    .rw[aY a,aI,ai,aY b,ah,X8,ab];have g:nL x=true:=by rw[e,aY a,aY b];rfl
     cases h:tR x with
     | false =>
       rw[aI,ai,ab];rw[ aJ (by rw[g];simp)];rfl
     | true =>
       rw[aV,ah,aH cJ];rw[ az ag,aJ (by rw[g];simp)];rfl)
  (λo i x A l u j=>by
   have j:=aF j;by_cases a:nL x=false
   .grind
   .rw[aJ a] at j;by_cases b:tR x=false
    .grind
    .rw[aJ b] at j;obtain rfl:=TR j;simp;omega)
  (λo _=>by
   unfold oN;rw[aq,ah])
  (λ_ _ _ _ _ h=>by cases h) [] (bX _)
 have run:∀r i o,∃q,va (λi o x=>aa (if nL x=false then aA o else if tR x=false then aB (1,(([]:bg),(2:Int),(),(i:Int),()),o,()) else aA (o++[x]))) (λi o=>(0,(([]),0,(),i,()),o,())) r i o=aa q /\
   (if(r.filter nL).all tR=true then q.1=0/\q.2.2.1=o++r.filter nL else q.1=1/\q.2.1.1=[]/\q.2.1.2.1=2):=by
  intro r;induction r with
  | nil=>intro i o;exact⟨_,rfl,aS⟩
  | cons x r v =>
    intro i o;unfold va;cases e:nL x with
    | false =>
      simp_all
    | true =>
      rw[ah6 e];cases l:tR x with
      | false=>exact⟨_,rfl,by simp[l]⟩
      | true =>
        obtain⟨q,n,d⟩:=v (i+1) (o++[x])
        grind
 obtain⟨q,n,d⟩:=run _ 0 [];have k:Loop _ ((([]),(0:Int),(),(0:Int),()),_)=aa q:=key.trans n;rw[k,ab];rw[show(parts s).filter nL=names s from rfl,JJ] at d;have B:=xC s;have w:=GN s;unfold lE nM;cases p:(names s).all tR with
 | false =>
   rw[p] at d;rw[d.1,d.2.1,d.2.2];rfl
 | true =>
   rw[p] at d;rw[d.1,cV,d.2];have y:kS (names s,[47],())=aa (aP<|names s,()):=by
    show(EL (names s) [47]).map _=_
    unfold EL;rw[aeU,aN ⟨ag,ag⟩];rfl
   rw[y,ab,Vz,ab];have z:aU 8 (len<|names s)=!decide ((names s).length<=8):=by
    by_cases h:(names s).length<=8
    .rw[aC<|by simp only[len];omega];simp[h]
    .rw[aT<|by simp only[len];omega];simp[h]
   have m:aU 96 (len<|aP<|names s)=!decide ((aP<|names s).length<=96):=by
    by_cases h:(aP<|names s).length<=96
    .rw[aC<|by simp only[len];omega];simp[h]
    .rw[aT<|by simp only[len];omega];simp[h]
   rw[z,m];by_cases a:s.head?=aa 47
   .simp[a,ak,nt]
   .by_cases b:(names s).length<=8
    .by_cases c:(aP<|names s).length<=96<;>simp[a,b,c,ak,nt]
    .simp[ b,ak,nt]
def SO s (hs:s.length<=4096):ui (s,())=aa ((lE s).1,(lE s).2,()):=by
 unfold ui;rw[iq s ag,ab];have hn:=fD s;have key:=qc (f:=kY (parts s,())) (parts s) (λo i=>(((),i,()),o,()))
  (λi o x=>aa (.inl<|if nL x=true then o++[x] else o)) (λi o=>(((),(i:Int),()),o,())) (λi o=>o.length<=i)
  (λo i x g k l=>by
   unfold kY;rw[al k,ai,ao g,ab,ab];have e:nL x=(nt (br x [])&&nt (br x [46])):=by simp[nL,br,nt]
   by_cases a:x=[]
   .rw[ck a,az ag,aJ (by rw[e,ck a];simp[nt])];rfl
   .by_cases b:x=[46]
    .rw[aY a,aI,ai,ck b,az ag,aJ (by rw[e,ck b];simp[nt])];rfl
    .rw[aY a,aI,ai,aY b,ab,ab,aH cJ,az ag,aN (by rw[e,aY a,aY b];rfl)];rfl)
  (λo i x v g l m=>by
   obtain rfl:=TR (aF m);by_cases a:nL x=true
   .grind
   .rw[aJ a];omega)
  (λo _=>by
   unfold kY;rw[aq];rfl)
  (λ_ _ _ _ _ h=>by cases h) [] (bX _)
 have run:∀r i o,∃j,va (λi o x=>aa (aA<|if nL x=true then o++[x] else o)) (λi o=>(((),(i:Int),()),o,())) r i o=aa (((),j,()),o++r.filter nL,()):=by
  intro r;induction r with
  | nil=>intro i o;exact⟨i,by simp[va]⟩
  | cons x r n =>
    intro i o;unfold va;by_cases e:nL x=true
    .simp only;obtain⟨j,h⟩:=n (i+1) (o++[x])
     grind
    .simp_all
 obtain⟨j,p⟩:=run _ 0 [];have d:Loop (kY (parts s,())) (((),0,()),([]),())=aa (((),j,()),names s,()):=by
  have:=key.trans p;exact this
 have w:=xC s;have q:=GN s;rw[d,ab];dsimp only;rw[Cn _ ag ag,ab];have t:ae (ak (nt<|br s []) (ae (idx s 0) λu=>aa (aG (u8 u) 47))<|some false)=λ(f:Bool->Option (bg×Int×aj))=>f (decide<|s.head?=aa 47):=by
  funext f;cases s with
  | nil=>rfl
  | cons b r =>
    rw[aY aS,aI,ai,show idx _ 0=aa b from rfl,ab,ZP,ab];simp_all
 rw[t];dsimp only;rw[Qq _ ag,Jk];unfold lE nM;by_cases a:s.head?=aa 47
 .simp[a,ak,nt,ae]
 .cases y:(names s).all tR with
  | false=>simp[ ak,nt,ae]
  | true =>
    by_cases b:(names s).length<=8
    .by_cases c:(aP<|names s).length<=96<;>simp[a,b,c,ak,nt,ae]
    .simp[ b,ak,nt,ae]
end Go.Ge
