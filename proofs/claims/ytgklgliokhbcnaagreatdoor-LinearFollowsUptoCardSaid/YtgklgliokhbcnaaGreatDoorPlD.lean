import Derived.Test.YtgklgliokhbcnaaGreatDoorPlC
set_option linter.unusedSectionVars false
set_option linter.unusedVariables false
set_option linter.unusedSimpArgs false
set_option linter.defProp false
open Option renaming some->aa,none->af
open Sum renaming inl->az,inr->aA
open Go.IntKind (i64)
namespace Go.Ge
variable [Lp]
def Pd(a:List Tx)(b:Int)(i:Nat)(x:Nm):Bool:=decide ((i:Int)≠b)&&x.2.1.any (λs=>decide (s∈a))
def SP(l:List Nm)(a:List Tx)(b:Int):Bool:=l.zipIdx.any λp=>Pd a b p.2 p.1
def pU(l:List Nm)(id:Tx)(a:List Tx):Int:=if eU a≠0 then eU a else if SP l a (GM l id)=true then 8 else 0
def H7{l given own}:SP l given own=true↔∃i x,l[i]?=aa x/\Pd given own i x=true:=by
 unfold SP;rw[TJ];constructor
 .rintro⟨p,a,h⟩;obtain⟨x,i⟩:=p;exact⟨i,x,ahO.1 a,h⟩
 .rintro⟨i,x,b,h⟩;exact⟨(x,i),ahO.2 b,h⟩
def M1{l given own}(h:∀i x,l[i]?=aa x->Pd given own i x=false):SP l given own=false:=by
 rw[<-Bool.not_eq_true,H7];rintro⟨i,x,a,k⟩;rw[h i x a] at k;cases k
def tj l (id:Tx) (given:List Tx) (g:Small l) (p:given.length<=4294967296):hS (l,id,given,())=aa (pU l id given,()):=by
 unfold hS pU;rw[vv given p,ab];by_cases j:eU given=0
 .rw[j,MZ l id g.1,ab];generalize GM l id=own;have inner:∀y,y.2.1.length<=4294967296->(y.2.1.any (λs=>decide (s∈given))=true/\∃(k:Nat) (q:Int×aj),Loop (jE y) ((0,0,()),given,())=aa (1,((k:Int),q),given,())) \/
    (y.2.1.any (λs=>decide (s∈given))=false/\∃q,Loop (jE y) ((0,0,()),given,())=aa (0,q,given,())):=by
   intro y r;rcases eu (f:=jE y) y.2.1 (λi=>((0,i,()),given,())) (λ_ s=>decide (s∈given)) (λi s=>(1,(i,i,()),given,())) _ r (λi s a b c=>by
    unfold jE;rw[al b,ai,ao a,ab,Cv given s p,ab,da,c];by_cases h:s∈given<;>simp[h]) (by unfold jE;rw[aq];rfl) with ⟨i,s,a,m,t,h⟩|⟨n,h⟩
   .exact .inl ⟨TJ.2 ⟨s,bc.2 ⟨i,a⟩,m⟩,i,_,h⟩
   .refine .inr ⟨?_,_,h⟩;rw[List.any_eq_false];intro s a;obtain⟨i,b⟩:=bc.1 a;rw[n i s b];simp
  rcases eu (f:=qE (l,_) (own,())) l (λi=>((0,i,()),given,())) (Pd given own) (λi x=>(1,(8,i,()),given,())) _ g.1 (λi x d b c=>by
   unfold qE;rw[al b,ai,ao d,ab];unfold Pd;by_cases e:i=own
   .rw[au e,aW,ag,c];simp[e]
   .rw[ar e,aE,ai];rcases inner x (g.2 x<|bc.2 ⟨i,d⟩) with ⟨o,k,q,h⟩|⟨o,q,h⟩
    .rw[h,ab,o];dsimp only;rw[gL,ag,bz ah,ai];simp[e]
    .rw[h,ab,o];rw[cO,ai,show ch 0 (-1)=false from rfl,ag,c];simp) (by unfold qE;rw[aq];rfl) with ⟨i,x,d,m,t,h⟩|⟨n,h⟩
  .rw[h,aQ (H7.2 ⟨i,x,d,m⟩)];rfl
  .rw[h,M1 n];rfl
 .rw[ar j,aE,ai,aQ j]
def wQ(l:List Nm)(id:Tx)(a:List Tx)(m:Small l)(r:a.length<=4294967296)(o:∀x∈a,x.length<=4294967296):l6 (l,id,a,())=aa (pU l id a,()):=by
 unfold l6 pU;dsimp only;rw[oI a r o,ab];dsimp only;by_cases p:eU a=0
 .rw[p,au rfl,aW,ag,MY l id m.1,ab,aK aT];generalize GM l id=own;have inner:∀(i:Nat) (x:Nm),l[i]?=aa x->(Pd a own i x=true/\∃q,Loop (jF (l,id,a,()) (own,()) (((0:Int),(i:Int),()),())) (((0:Int),(0:Int),()),())=aa (1,((8:Int),q),())) \/
    (Pd a own i x=false/\∃q,Loop (jF (l,id,a,()) (own,()) (((0:Int),(i:Int),()),())) (((0:Int),(0:Int),()),())=aa (0,((0:Int),q),())):=by
   intro i x b;rcases eu (f:=jF (l,id,a,()) (own,()) (((0:Int),(i:Int),()),())) a (λn=>(((0:Int),n,()),())) (λ_ s=>decide ((i:Int)≠own)&&decide (s∈x.2.1)) (λn s=>(1,((8:Int),(n:Int),()),())) (0,((0:Int),len a,()),()) r (λn s c d j=>by
    unfold jF;dsimp only;rw[al d,ai];by_cases k:(i:Int)=own
    .rw[au k,aW,ag,j];simp[k]
    .rw[ar k,aE,ai,ao b,ab,ao c,ab,O9 _ _ (m.2 x<|bc.2 ⟨i,b⟩),ab,da,j];by_cases h:s∈x.2.1<;>simp[h,k]) (by unfold jF;dsimp only;rw[aq,ag];rfl) with ⟨n,s,c,e,t,h⟩|⟨d,h⟩
   .refine .inl ⟨?_,_,h⟩;simp only[gw,Ap] at e;unfold Pd;simp only[gw,Ap,TJ];exact⟨e.1,s,e.2,bc.2 ⟨n,c⟩⟩
   .refine .inr ⟨?_,_,h⟩;rw[<-Bool.not_eq_true];unfold Pd;simp only[gw,Ap,TJ];rintro⟨g,s,u,v⟩;obtain⟨n,c⟩:=bc.1 v;have:=d n s c;rw[cU g,cU u] at this;cases this
  rcases eu (f:=qG (l,id,a,()) (own,())) l (λi=>(((0:Int),i,()),())) (Pd a own) (λi x=>(1,((8:Int),(i:Int),()),())) (0,((0:Int),len l,()),()) m.1 (λi x b w j=>by
   unfold qG;dsimp only;rw[al w,ai];rcases inner i x b with ⟨g,q,h⟩|⟨g,q,h⟩
   .rw[h,ab,g];rfl
   .rw[h,ab,g,j];rfl) (by unfold qG;dsimp only;rw[aq,ag];rfl) with ⟨i,x,b,e,t,h⟩|⟨d,h⟩
  .rw[h,ab,aQ (H7.2 ⟨i,x,b,e⟩)];rfl
  .rw[h,ab,M1 d];rfl
 .rw[ar p,aE,ai,aQ p]
def xR(l:List Tx)(h:l.length<=4294967296):aX (l,())=aa (l,()):=by
 unfold aX;rw[dh h];rfl
def Ko(x y:List Tx)(k:x.length<=4294967296):eD (x,y,())=aa (decide<|x=y,()):=by
 unfold eD;rw[MT];by_cases d:x.length=y.length
 .rw[cU d];rcases eu (f:=jY (x,y,())) x (λi=>((false,i,()),())) (λi a=>decide (y[i]?≠aa a)) (λi a=>(1,(false,i,()),())) _ k (λi a g l c=>by
   unfold jY;have b:i<y.length:=ah;rw[al l,ai,al b,ai,ao g,ab,ao (fH b),ab,aex,da,c,fH b];by_cases h:a=y[i]
   .simp[bt,h]
   .have m:¬y[i]=a:=λe=>h e.symm;simp[bt,h,m]) (by unfold jY;rw[aq];rfl) with ⟨i,a,g,j,o,h⟩|⟨n,h⟩
  .rw[h];have:x≠y:=λe=>by subst e;rw[g] at j;simp at j
   rw[cd this];rfl
  .rw[h];have:x=y:=by
    apply Lg;intro i;cases xz:x[i]? with
    | none =>
      have:=ahV.1 xz;exact(ahV.2 ah).symm
    | some a =>
      have:=n i a xz;simp at this;exact this.symm
   rw[cU this];rfl
 .rw[cd d,aE,ai];have:x≠y:=λe=>d (by rw[e]);rw[cd this]
def pK{α}{n:Nat}{l:List α}{c:Int}(a:c=n):ak (aL ((min n l.length:Nat):Int)<|len l) (aL ((min n l.length:Nat):Int) c) false=false:=by
 subst a;by_cases h:l.length<=n
 .rw[Nat.min_eq_right h,aq,ag]
 .rw[xh ah,aC (tr _)];cases aL n _<;>rfl
def dZ{α}{l:List α}{n:Nat}{c:Int}(a:c=n):ch (len l) c=decide (l.length<=n):=by subst a;exact pJ n l
def eF{α}{l:List α}{n:Nat}{c:Int}(a:c=n):aL c (len l)=decide (n<l.length):=by subst a;exact yP n l
def pL(l:List Tx):Prop:=l.length<=8/\∀x∈l,x.length<=100
def SQ(l:List Tx):∃b,pn (l,())=aa (b,())/\(b=true->pL l):=by
 unfold pn;rcases rA (f:=kG (l,())) l 8 (λi=>((false,i,()),())) (λ_ x=>decide (100<x.length)) (λi x=>(1,(false,i,()),())) (λn=>_) ah (λi x d a g j=>by
  unfold kG;dsimp only;rw[al a,ai,aH ah,ai,ao d,ab,eF (c:=100) rfl,da,j];by_cases h:100<x.length<;>simp[h]) (by unfold kG;rw[pK (c:=8) rfl,ag]) with ⟨i,x,a,d,o,_,h⟩|⟨k,h⟩
 .rw[h];exact⟨false,rfl,λh=>by cases h⟩
 .rw[h];refine⟨_,rfl,λe=>?_⟩;dsimp only at e;rw[dZ (n:=8) (c:=8) rfl] at e;have m:=fb e;refine⟨m,λx d=>?_⟩;obtain⟨i,a⟩:=bc.1 d;have:=k i x (by have:=av a;omega) a;simpa using this
def pL.small{l}(h:pL l):l.length<=4294967296:=by have:=h.1;omega
abbrev Item:=Tx×Tx×Tx×aj
abbrev cD:=Tx×Tx×List Tx×Tx×Int×Int×Bool×aj
abbrev lD:=Tx×List Tx×Tx×Tx×List Item×aj
abbrev AX:=Tx×List Tx×Tx×Tx×Tx×List Item×aj
abbrev Qt:=Int×List cD×List lD×List AX×aj
def Qu(l:List Tx):∃b,lN (l,())=aa (b,())/\(b=true->pL l):=by
 unfold lN;rcases rA (f:=sJ (l,())) l 8 (λi=>((false,i,()),())) (λ_ x=>decide (100<x.length)) (λi x=>(1,(false,i,()),())) (λn=>_) ah (λi x a d g j=>by
  unfold sJ;rw[al d,ai,aH (show(i:Int)<8 by omega),ai,ao a,ab,eF (c:=100) rfl,da,j];by_cases h:100<x.length<;>simp[h]) (by unfold sJ;rw[pK (c:=8) rfl,ag]) with ⟨i,x,d,a,k,_,h⟩|⟨m,h⟩
 .rw[h];exact⟨false,rfl,λh=>by cases h⟩
 .rw[h];refine⟨_,rfl,λe=>?_⟩;rw[dZ (c:=8) rfl] at e;refine⟨(fb e),λx a=>?_⟩;obtain⟨i,d⟩:=bc.1 a
  grind
def abg(l:List Item):∃b,ep (l,())=aa (b,()):=by
 unfold ep;rcases rA (f:=eA (l,())) l 8 (λi=>((false,i,()),())) (λ_ x=>decide (100<x.1.length)||decide (200<x.2.2.1.length)) (λi x=>(1,(false,i,()),())) (λn=>_) ah (λi x a d e g=>by
  unfold eA;rw[al d,aH (show(i:Int)<8 by omega),ao a,ab,eF (c:=100) rfl,ab,eF (c:=200) rfl,g];by_cases h:100<x.1.length
  .simp[h,ak,nt,ae]
  .by_cases j:200<x.2.2.1.length<;>simp[h,j,ak,nt,ae]) (by unfold eA;rw[pK (c:=8) rfl,ag]) with ⟨i,x,d,a,k,_,h⟩|⟨m,h⟩
 .rw[h];exact⟨false,rfl⟩
 .rw[h];exact⟨_,rfl⟩
structure SR (b:Qt):Prop where
 ll:b.2.1.length<=60
 ln:∀x∈b.2.1,pL x.2.2.1
 il:b.2.2.1.length<=60
 rZ:∀x∈b.2.2.1,pL x.2.1
 bl:b.2.2.2.1.length<=60
 bn:∀x∈b.2.2.2.1,pL x.2.1
def aeD(b:Qt):∃c,rL (b,())=aa (c,())/\(c=true->SR b/\b.2.1.length<=40/\b.2.2.1.length<=40/\b.2.2.2.1.length<=40):=by
 obtain⟨a,g⟩:∃a,∀l,lN (l,())=aa (a l,())/\(a l=true->pL l):=⟨λl=>Classical.choose _,λl=>Rm (Qu l)⟩;obtain⟨e,j⟩:∃a,∀l,ep (l,())=aa (a l,()):=⟨λl=>Classical.choose _,λl=>Rm (abg l)⟩;obtain⟨n,p,r,v,u⟩:=b;unfold rL;rcases rA (f:=iM ((n,p,_),())) p 40 (λi=>((false,i,()),())) (λ_ x=>!a x.2.2.1) _ (λn=>_) ah (λi x d k s t=>by
  unfold iM;rw[al k,aH (show(i:Int)<40 by omega),ai,ao d,ab,(g _).1,ab,t];cases a x.2.2.1<;>rfl) (by unfold iM;rw[pK (c:=40) rfl,ag]) with ⟨i,x,k,d,y,_,h⟩|⟨A,h⟩
 .rw[h];exact⟨false,rfl,λh=>by cases h⟩
 rw[h,ab];rcases rA (f:=iN ((n,p,r,_),())) r 40 (λi=>((false,i,()),())) (λ_ x=>!a x.2.1||decide (200<x.2.2.2.1.length)||!e x.2.2.2.2.1) _ (λn=>_) ah (λi x d k s t=>by
  unfold iN;rw[al k,aH (show(i:Int)<40 by omega),ai,ao d,ab,(g _).1,ab,ab,ab,eF (n:=200) (c:=200) rfl,j,ab,t];cases a x.2.1 with
  | false=>rfl
  | true =>
    by_cases m:200<x.2.2.2.1.length
    .simp[m,ak,nt,ae]
    .cases B:e x.2.2.2.2.1<;>simp[m,ak,nt,ae]) (by unfold iN;rw[pK (c:=40) rfl,ag]) with ⟨i,x,k,d,y,_,h⟩|⟨C,h⟩
 .rw[h];exact⟨false,rfl,λh=>by cases h⟩
 rw[h,ab];rcases rA (f:=iO ((n,p,r,v,u),())) v 40 (λi=>((false,i,()),())) (λ_ x=>!a x.2.1||decide (200<x.2.2.2.2.1.length)||!e x.2.2.2.2.2.1) _ (λn=>_) ah (λi x d k s t=>by
  unfold iO;rw[al k,aH (show(i:Int)<40 by omega),ao d,ab,(g _).1,ab,ab,ab,eF (c:=200) rfl,j,t];cases a x.2.1 with
  | false=>rfl
  | true =>
    by_cases m:200<x.2.2.2.2.1.length
    .simp[m,ak,nt,ae]
    .cases B:e x.2.2.2.2.2.1<;>simp[m,ak,nt,ae]) (by unfold iO;rw[pK (c:=40) rfl,ag]) with ⟨i,x,k,d,y,_,h⟩|⟨D,h⟩
 .rw[h];exact⟨false,rfl,λh=>by cases h⟩
 rw[h];refine⟨_,rfl,λo=>?_⟩;rw[dZ (c:=40) rfl,dZ (c:=40) rfl,dZ (c:=40) rfl] at o;have w:p.length<=40:=by
  by_cases q:p.length<=40
  .exact q
  .rw[cd q] at o;cases o
 have m:r.length<=40:=by
  by_cases q:r.length<=40
  .exact q
  .rw[cU w,cd q] at o;cases o
 have z:v.length<=40:=by
  by_cases q:v.length<=40
  .exact q
  .rw[cU w,cU m,cd q] at o;cases o
 refine⟨⟨fi w aD,λx d=>?_,fi m aD,λx d=>?_,fi z aD,λx d=>?_⟩,w,m,z⟩
 .dsimp only at d;obtain⟨i,k⟩:=bc.1 d
  grind
 .dsimp only at d;obtain⟨i,k⟩:=bc.1 d
  grind
 .dsimp only at d;obtain⟨i,k⟩:=bc.1 d
  grind
def ofL(x:cD):List Nm:=if x.2.2.2.2.2.2.1=true then [(x.1,x.2.2.1,())] else []
def ofI(x:lD):List Nm:=[(x.1,x.2.1,())]
def ofB(x:AX):List Nm:=[(x.1,x.2.1,())]
def ofV(a:Int)(b:Qt):List Nm:=if a=1 then b.2.2.2.1.flatMap ofB else if a=2 then b.2.2.1.flatMap ofI else if a=3 then b.2.1.flatMap ofL else []
def lO{b c:Type}{g:b->List c}(d:∀x,(g x).length<=1)(l:List b):(l.flatMap g).length<=l.length:=by
 induction l with
 | nil=>simp
 | cons a r e=>rw[ac9,iC,iD];have:=d a;omega
def eY{a b:Type}{g:a->List b}(c:∀x,(g x).length<=1)(l:List a) i:((l.take i).flatMap g).length<=l.length:=by
 have:=lO c (l.take i)
 grind
def KZ x:(ofL x).length<=1:=by unfold ofL;split<;>simp
def GO x:(ofI x).length<=1:=by simp[ofI]
def K0 x:(ofB x).length<=1:=by simp[ofB]
def xa{α}{s:List α}{x:α}(h:s.length<=1000):fits (plus (len s)<|len [x])=true:=aJ cT
def wR kind b (a:SR b):rm (kind,b,())=aa (ofV kind b,()):=by
 unfold rm ofV;by_cases g:kind=1
 .rw[aQ g,au g,ai];have:=hJ (f:=uI (kind,b,())) b.2.2.2.1 (λs i=>((i,()),(),s,())) ofB _ (by have:=a.bl;omega) (λi x c d e=>by
   unfold uI;dsimp only;have k:=eY K0 b.2.2.2.1 i;rw[al d,ao c,ab,xR _ (a.bn x<|bc.2 ⟨i,c⟩).small,ab,xa (by have:=a.bl;omega),e];rfl) (by unfold uI;rw[aq];rfl)
  rw[this,ab,ab]
 .rw[aK g,ar g,ag];by_cases h:kind=2
  .rw[aQ h,au h,ai];have:=hJ (f:=uJ (kind,b,())) b.2.2.1 (λs i=>((i,()),(),s,())) ofI _ (by have:=a.il;omega) (λi x c d e=>by
    unfold uJ;dsimp only;have k:=eY GO b.2.2.1 i;rw[al d,ao c,ab,xR _ (a.rZ x<|bc.2 ⟨i,c⟩).small,ab,xa (by have:=a.il;omega),e];rfl) (by unfold uJ;rw[aq];rfl)
   rw[this,ab,ab,ab]
  .rw[aK h,ar h,ag];by_cases j:kind=3
   .rw[aQ j,au j,ai];have:=hJ (f:=uK (kind,b,())) b.2.1 (λs i=>((i,()),(),s,())) ofL _ (by have:=a.ll;omega) (λi x c d e=>by
     unfold uK;dsimp only;have k:=eY KZ b.2.1 i;rw[al d,ao c,ab,xR _ (a.ln x<|bc.2 ⟨i,c⟩).small,ab,xa (by have:=a.ll;omega),e];unfold ofL;cases x.2.2.2.2.2.2.1 with
     | false=>simp[ak,ae,cq]
     | true=>rfl) (by unfold uK;rw[aq];rfl)
    rw[this,ab,ab,ab,ab]
   .rw[aK j,ar j];rfl
def xS(a:Int)(b:Qt)(c:SR b):rn (a,b,())=aa (ofV a b,()):=by
 unfold rn ofV;dsimp only;by_cases h:a=1
 .rw[aQ h,au h,ai];have:=hJ (f:=uM (a,b,())) b.2.2.2.1 (λs i=>(((),i,()),s,())) ofB (((),len b.2.2.2.1,()),b.2.2.2.1.flatMap ofB,()) (by have:=c.bl;omega) (λi x d e g=>by
   unfold uM;dsimp only;have l:=eY K0 b.2.2.2.1 i;rw[al e,ai,ao d,ab,ab,xa (by have:=c.bl;omega),ai,g];rfl) (by unfold uM;dsimp only;rw[aq,ag];rfl)
  rw[this,ab,ab]
 .rw[aK h,ar h,ag];by_cases j:a=2
  .rw[aQ j,au j,ai];have:=hJ (f:=uN (a,b,())) b.2.2.1 (λs i=>(((),i,()),s,())) ofI (((),len b.2.2.1,()),b.2.2.1.flatMap ofI,()) (by have:=c.il;omega) (λi x d e g=>by
    unfold uN;dsimp only;have l:=eY GO b.2.2.1 i;rw[al e,ai,ao d,ab,ab,xa (by have:=c.il;omega),ai,g];rfl) (by unfold uN;dsimp only;rw[aq,ag];rfl)
   rw[this,ab,ab,ab]
  .rw[aK j,ar j,ag];by_cases k:a=3
   .rw[aQ k,au k,ai];have:=hJ (f:=uO (a,b,())) b.2.1 (λs i=>(((),i,()),s,())) ofL (((),len b.2.1,()),b.2.1.flatMap ofL,()) (by have:=c.ll;omega) (λi x d e g=>by
     unfold uO;dsimp only;have l:=eY KZ b.2.1 i;rw[al e,ai,ao d,ab,ab,ab,xa (by have:=c.ll;omega),ai,g];unfold ofL;cases x.2.2.2.2.2.2.1 with
     | false=>simp[ak,ae,cq]
     | true=>rfl) (by unfold uO;dsimp only;rw[aq,ag];rfl)
    rw[this,ab,ab,ab,ab]
   .rw[aK k,ar k,ag];rfl
def Du kind b (c:SR b):Small (ofV kind b):=by
 unfold ofV;split
 .refine⟨by have:=lO K0 b.2.2.2.1;have:=c.bl;omega,λx a=>?_⟩;rw[Rr] at a;obtain⟨y,d,a⟩:=a;simp only[ofB,DR] at a;subst a;exact(c.bn y d).small
 .split
  .refine⟨by have:=lO GO b.2.2.1;have:=c.il;omega,λx a=>?_⟩;rw[Rr] at a;obtain⟨y,d,a⟩:=a;simp only[ofI,DR] at a;subst a;exact(c.rZ y d).small
  .split
   .refine⟨by have:=lO KZ b.2.1;have:=c.ll;omega,λx a=>?_⟩;rw[Rr] at a;obtain⟨y,d,a⟩:=a;unfold ofL at a;split at a
    .simp at a;subst a;exact(c.ln y d).small
    .cases a
   .exact⟨aT,λx a=>by cases a⟩
def E6(n x:Int):Int:=Ao .u32 (jt .u32 x n) (nY .u32 x<|32-n)
def qp{n m}(h:gM .u64 (kz .u64<|cA .i64 0 n) 31=m)(a:aL m 0=false)(b:cA .u64 32 m=n)(c:aL n 0=false)(d:32-n=m) x:cm (x,n,())=aa (E6 n x,()):=by
 unfold cm ko E6;rw[h,a,ag,b,c,ag,ab,d,X2]
def AY{n}(a:aL n 0=false)(b:cA .i64 32 n=32-n)(c:aL (32-n) 0=false) x:cr (x,n,())=aa (E6 n x,()):=by
 unfold cr E6;rw[a,ag,b,c,ag]
def r7 x:cm (x,7,())=aa (E6 7 x,()):=qp (m:=25) aD aD aD aD aD x
def r18 x:cm (x,18,())=aa (E6 18 x,()):=qp (m:=14) aD aD aD aD aD x
def r17 x:cm (x,17,())=aa (E6 17 x,()):=qp (m:=15) aD aD aD aD aD x
def r19 x:cm (x,19,())=aa (E6 19 x,()):=qp (m:=13) aD aD aD aD aD x
def r6 x:cm (x,6,())=aa (E6 6 x,()):=qp (m:=26) aD aD aD aD aD x
def r11 x:cm (x,11,())=aa (E6 11 x,()):=qp (m:=21) aD aD aD aD aD x
def r25 x:cm (x,25,())=aa (E6 25 x,()):=qp (m:=7) aD aD aD aD aD x
def r2 x:cm (x,2,())=aa (E6 2 x,()):=qp (m:=30) aD aD aD aD aD x
def r13 x:cm (x,13,())=aa (E6 13 x,()):=qp (m:=19) aD aD aD aD aD x
def r22 x:cm (x,22,())=aa (E6 22 x,()):=qp (m:=10) aD aD aD aD aD x
def t7 x:cr (x,7,())=aa (E6 7 x,()):=AY aD aD aD x
def t18 x:cr (x,18,())=aa (E6 18 x,()):=AY aD aD aD x
def t17 x:cr (x,17,())=aa (E6 17 x,()):=AY aD aD aD x
def t19 x:cr (x,19,())=aa (E6 19 x,()):=AY aD aD aD x
def t11 x:cr (x,11,())=aa (E6 11 x,()):=AY aD aD aD x
def t2 x:cr (x,2,())=aa (E6 2 x,()):=AY aD aD aD x
def t13 x:cr (x,13,())=aa (E6 13 x,()):=AY aD aD aD x
def word(b:List Int)(t:Nat):Int :=
 Ao .u32 (Ao .u32 (Ao .u32 (nY .u32 (kz .u32<|b.getD (4*t) 0) 24)<|nY .u32 (kz .u32<|b.getD (4*t+1) 0) 16)<|nY .u32 (kz .u32<|b.getD (4*t+2) 0) 8) (kz .u32<|b.getD (4*t+3) 0)
def gv(n:Nat):List Int:=List.replicate n 0
def Cw(b:List Int):Nat->List Int
 | 0=>gv 64
 | t+1=>(Cw b t).set t (word b t)
def vw b t:(Cw b t).length=64:=by
 induction t with
 | zero=>rfl
 | succ t a=>simp[Cw,a]
def abh b:∀t j,t<=j->j<64->(Cw b t).getD j 0=0:=by
 intro t;induction t with
 | zero =>
   intro j _ d;show(List.replicate 64 _).getD j 0=0
   grind
 | succ t a =>
   intro j e c;have:=a j ah c;simp only[Cw] at this⊢
   grind
def akL(p:List Int)(t:Nat):Int :=
 aw .u32 (aw .u32 (aw .u32 (gy .u32 (gy .u32 (E6 17<|p.getD (t-2) 0)<|E6 19<|p.getD (t-2) 0)<|jt .u32 (p.getD (t-2) 0) 10)<|p.getD (t-7) 0)
  (gy .u32 (gy .u32 (E6 7<|p.getD (t-15) 0)<|E6 18<|p.getD (t-15) 0)<|jt .u32 (p.getD (t-15) 0) 3)) (p.getD (t-16) 0)
def Kp(l:List Int):Nat->List Int
 | 0=>l
 | k+1=>(Kp l k).set (16+k) (akL (Kp l k)<|16+k)
def E7 l k:(Kp l k).length=l.length:=by
 induction k with
 | zero=>rfl
 | succ k a=>simp[Kp,a]
def AZ(b:List Int):List Int:=Kp (Cw b 16) 48
def GP b:(AZ b).length=64:=by unfold AZ;rw[E7,vw]
def four{t:Nat}(a:t<64):ky .i64 4 t=((4*t:Nat):Int):=by rw[Ct ah ah];omega
def Vt b (l:b.length=64) (t:Nat) (m:t<16) w (d:w.length=64) (n:w.getD t 0=0) u v y :
  Loop (jU (b,u) ((t,v),y)) ((0,()),w,())=aa ((4,()),w.set t<|word b t,()):=by
 let a:=λj=>match j with
  | 0=>0
  | 1=>Ao .u32 (nY .u32 0 8) (kz .u32<|b.getD (4*t) 0)
  | 2=>Ao .u32 (nY .u32 (Ao .u32 (nY .u32 0 8)<|kz .u32<|b.getD (4*t) 0) 8) (kz .u32<|b.getD (4*t+1) 0)
  | 3=>Ao .u32 (nY .u32 (Ao .u32 (nY .u32 (Ao .u32 (nY .u32 0 8)<|kz .u32<|b.getD (4*t) 0) 8)<|kz .u32<|b.getD (4*t+1) 0) 8) (kz .u32<|b.getD (4*t+2) 0)
  | _=>word b t
 have c:∀j,j<4->a (j+1)=Ao .u32 (nY .u32 (a j) 8) (kz .u32<|b.getD (4*t+j) 0):=by
  intro j e;rcases(by omega:j=0\/j=1\/j=2\/j=3) with rfl|rfl|rfl|rfl
  .rfl
  .rfl
  .rfl
  .exact(agZ _ _ _ _).symm
 have h:w=w.set t 0:=by
  apply Lg
  grind
 have:=cV (f:=jU (b,u) ((t,v),y)) 4 (λj=>((j,()),w.set t<|a j,())) (λj e=>by
  unfold jU;dsimp only;rw[four ah,fA ah ah];have g:minus (((4*t:Nat):Int)+4) ((4*t:Nat):Int)=4:=by unfold minus;omega
  rw[ aH ah,ai,aF ah ah,ai,aF ah ah];have o:(w.set t<|a j).length=64:=by simp[d]
  have i:(w.set t<|a j).getD t 0=a j:=by simp[ d,(by omega:t<64)]
  rw[nB b 0 (k:=4*t+j) (by unfold plus;omega) ah,ab,ai,fB _ 0 ah,i,ab,aC aD,ag,ai,ab,ab,ab,j9,aB ah,Cu,List.set_set,c j e])
  (by
   unfold jU;rw[four ah,fA ah ah];have g:minus (((4*t:Nat):Int)+4) ((4*t:Nat):Int)=4:=by unfold minus;omega
   rw[g];rfl)
 grind
def ZM:([0,0,0,0,0,0,0,0,0,0,0,0,0,0,0,0,0,0,0,0,0,0,0,0,0,0,0,0,0,0,0,0,0,0,0,0,0,0,0,0,0,0,0,0,0,0,0,0,0,0,0,0,0,0,0,0,0,0,0,0,0,0,0,0]:List Int)=gv 64:=rfl
def Vu b (a:b.length=64) u:Loop (nE (b,u)) ((0,()),gv 64,())=aa ((16,()),Cw b 16,()):=by
 refine cV 16 (λt=>(((t:Int),()),Cw b t,())) (λt c=>?_) ?_
 .unfold nE;dsimp only;rw[aH ah,four ah,fA ah ah,aO ah ah ah,Vt b a t c _ (vw b t) (abh b t t (bV _) ah),aB ah];rfl
 .unfold nE;dsimp only;rfl
def abj l (a:l.length=64):Loop nF ((16,()),l,())=aa ((64,()),Kp l 48,()):=by
 refine cV 48 (λk=>((((16+k:Nat):Int),()),Kp l k,())) (λk b=>?_) ?_
 .have hlen:(Kp l k).length=64:=by rw[E7,a]
  unfold nF;dsimp only;rw[aH ah,df ah ah,df ah ah,df ah ah,df ah ah,
   aF ah ah,ai,nB _ 0 (k:=16+k-2) ah ah,ab,aF ah ah,ai,nB _ 0 (k:=16+k-15) ah ah,ab,
   r7,ab,r18,ab,aC aD,ag,r17,ab,r19,ab,aF ah ah,ai,nB _ 0 (k:=16+k-7) ah ah,ab,
   aF ah ah,ai,nB _ 0 (k:=16+k-16) ah ah,aF ah ah,fB _ 0 ah,aB ah]
  rfl
 .unfold nF;dsimp only;rfl
def SS b (a:b.length=64) u:sv (b,u)=aa (AZ b,()):=by
 unfold sv;rw[ZM,Vu b a,ab];rw[abj _<|vw b 16,ab];dsimp only[AZ]
def aeF s {i} (h:i<s.length) x (hx:s[i]?=aa x):u8 x=(ax s).getD i 0:=by
 simp[ax,hx,u8]
def abk h s (o:s.length=64) u:Loop (kU (h,s,u)) ((0,()),gv 64,())=aa (((16:Int),()),Cw (ax s) 16,()):=by
 have key:∀b,b=ax s->Loop (kU (h,s,u)) ((0,()),gv 64,())=aa ((16,()),Cw b 16,()):=by
  intro b a;refine cV 16 (λt=>(((t:Int),()),Cw b t,())) (λt p=>?_) ?_
  .have at_:∀(i:Int) (j:Nat),i=j->j<64->∃x,idx s i=aa x/\u8 x=b.getD j 0:=by
    intro i j e q;subst e;refine⟨s[j],?_,by rw[a];exact aeF s ah _ (fH ah)⟩;rw[su,fH]
   unfold kU;dsimp only;rw[aH ah,four ah,fA ah ah,fA ah ah,fA ah ah];obtain⟨r,c,d⟩:=at_ _ (4*t) rfl ah;obtain⟨v,f,g⟩:=at_ (((4*t:Nat):Int)+1) (4*t+1) ah ah;obtain⟨w,k,l⟩:=at_ (((4*t:Nat):Int)+2) (4*t+2) ah ah;obtain⟨y,m,n⟩:=at_ (((4*t:Nat):Int)+3) (4*t+3) ah ah;rw[c,ab,aC aD,ag,f,ab,aC aD,ag,k,ab,m,ab,aF ah ah,
    fB _ 0 (by rw[vw];omega),aB ah,d,g,l,n]
   rfl
  .unfold kU;dsimp only;rfl
 grind
def ag3 l (a:l.length=64):Loop oX ((16,()),l,())=aa ((64,()),Kp l 48,()):=by
 refine cV 48 (λk=>((((16+k:Nat):Int),()),Kp l k,())) (λk b=>?_) ?_
 .have hlen:(Kp l k).length=64:=by rw[E7,a]
  unfold oX;dsimp only;rw[aH ah,df ah ah,df ah ah,df ah ah,df ah ah,
   aF ah ah,ai,nB _ 0 (k:=16+k-2) ah ah,ab,aF ah ah,ai,nB _ 0 (k:=16+k-15) ah ah,ab,
   t17,ab,t19,ab,aC aD,ag,aF ah ah,ai,nB _ 0 (k:=16+k-7) ah ah,ab,t7,ab,t18,ab,
   aF ah ah,ai,nB _ 0 (k:=16+k-16) ah ah,aF ah ah,fB _ 0 ah,aB ah]
  rfl
 .unfold oX;dsimp only;rfl
abbrev W8:=Int×Int×Int×Int×Int×Int×Int×Int
def rnd(k w:Int):W8->W8
 | (a,b,c,d,e,f,g,h) =>
   let one:=aw .u32 (aw .u32 (aw .u32 (aw .u32 h<|gy .u32 (gy .u32 (E6 6 e)<|E6 11 e)<|E6 25 e)<|gy .u32 g<|gM .u32 e<|gy .u32 f g) k) w
   let two:=aw .u32 (gy .u32 (gy .u32 (E6 2 a)<|E6 13 a)<|E6 22 a) (Ao .u32 (gM .u32 a b)<|gM .u32 c<|Ao .u32 a b)
   (aw .u32 one two,a,b,c,aw .u32 d one,e,f,g)
def Vv(K w:List Int)(s:W8):Nat->W8
 | 0=>s
 | t+1=>rnd (K.getD t 0) (w.getD t 0) (Vv K w s t)
def H8:List Int:=[1116352408,1899447441,3049323471,3921009573,961987163,1508970993,2453635748,2870763221,3624381080,310598401,607225278,1426881987,1925078388,2162078206,2614888103,3248222580,3835390401,4022224774,264347078,604807628,770255983,1249150122,1555081692,1996064986,2554220882,2821834349,2952996808,3210313671,3336571891,3584528711,113926993,338241895,666307205,773529912,1294757372,1396182291,1695183700,1986661051,2177026350,2456956037,2730485921,2820302411,3259730800,3345764771,3516065817,3600352804,4094571909,275423344,430227734,506948616,659060556,883997877,958139571,1322822218,1537002063,1747873779,1955562222,2024104815,2227730452,2361852424,2428436474,2756734187,3204031479,3329325298]
def abl:Ck ()=aa (H8,()):=rfl
def X7:xI ()=aa (H8,()):=rfl
def xT(s:W8)(t:Int):Int×Int×Int×Int×Int×Int×Int×Int×Int×aj:=(s.1,s.2.1,s.2.2.1,s.2.2.2.1,s.2.2.2.2.1,s.2.2.2.2.2.1,s.2.2.2.2.2.2.1,s.2.2.2.2.2.2.2,t,())
def oJ(s:W8):List Int:=[s.1,s.2.1,s.2.2.1,s.2.2.2.1,s.2.2.2.2.1,s.2.2.2.2.2.1,s.2.2.2.2.2.2.1,s.2.2.2.2.2.2.2]
def X8 w (a:w.length=64) s u v:Loop (kB (H8,u) (w,v)) (xT s 0,())=aa (xT (Vv H8 w s 64) 64,()):=by
 refine cV 64 (λt=>(xT (Vv H8 w s t) t,())) (λt b=>?_) ?_
 .show kB _ _ _=aa _
  unfold kB xT;dsimp only;rw[aH ah,r6,r11,r25,aF ah ah,fB H8 0 (by show t<64;omega),fB w 0 ah,
   r2,r13,r22,aB ah]
  rfl
 .unfold xT;rfl
def X9(w:List Int)(n:w.length=64)(s:W8) q u v:Loop (kV (q,w,u) (H8,v)) ((0,()),oJ s,())=aa (((64:Int),()),oJ<|Vv H8 w s 64,()):=by
 refine cV 64 (λt=>(((t:Int),()),oJ<|Vv H8 w s t,())) (λt i=>?_) ?_
 .show kV _ _ _=aa (.inl ((((t+1:Nat):Int),()),oJ<|rnd _ _ _,()))
  generalize Vv H8 w s t=q;obtain⟨a,b,c,d,e,f,g,h⟩:=q;have j:idx (oJ (a,b,c,d,e,f,g,h)) 0=aa a:=rfl;have k:idx (oJ (a,b,c,d,e,f,g,h)) 1=aa b:=rfl;have l:idx (oJ (a,b,c,d,e,f,g,h)) 2=aa c:=rfl;have o:idx (oJ (a,b,c,d,e,f,g,h)) 3=aa d:=rfl;have p:idx (oJ (a,b,c,d,e,f,g,h)) 4=aa e:=rfl;have r:idx (oJ (a,b,c,d,e,f,g,h)) 5=aa f:=rfl;have x:idx (oJ (a,b,c,d,e,f,g,h)) 6=aa g:=rfl;have y:idx (oJ (a,b,c,d,e,f,g,h)) 7=aa h:=rfl;have w0:within 0 8=true:=aD;have w1:within 1 8=true:=aD;have w2:within 2 8=true:=aD;have m:within 3 8=true:=aD;have wt:within t 64=true:=aF ah ah;unfold kV;simp only[aH<|show(t:Int)<64 by omega,ai,w0,w1,w2,m,wt,j,k,l,ab,t11,t2,t13,fB H8 0 i,fB w 0 (show t<w.length by omega),aB (show t<4611686018427387904 by omega),
   <-akI,<-aiX]
  rfl
 .unfold kV;rfl
def of8(l:List Int):W8:=(l.getD 0 0,l.getD 1 0,l.getD 2 0,l.getD 3 0,l.getD 4 0,l.getD 5 0,l.getD 6 0,l.getD 7 0)
def abm l (i:l.length=8):oJ (of8 l)=l:=by
 match l,i with
 | [a,b,c,d,e,f,g,h],_=>rfl
def A0(l m:List Int):Nat->List Int
 | 0=>l
 | i+1=>(A0 l m i).set i (aw .u32 (l.getD i 0)<|m.getD i 0)
def Cx l m i:(A0 l m i).length=l.length:=by
 induction i with
 | zero=>rfl
 | succ i a=>simp[A0,a]
def ZN l m:∀i j,i<=j->(A0 l m i).getD j 0=l.getD j 0:=by
 intro i;induction i with
 | zero=>intro j _;rfl
 | succ i a =>
   intro j h;have:=a j ah;simp only[A0] at this⊢
   grind
def comp(h b:List Int):List Int:=A0 h (oJ<|Vv H8 (AZ b) (of8 h) 64) 8
def Vw h b:(comp h b).length=h.length:=Cx _ _ _
def abn l m (i:l.length=8) (j:m.length=8):A0 l m 8=A0 m l 8:=by
 match l,i,m,j with
 | [a,b,c,d,e,f,g,h],_,[k,n,o,p,q,r,s,t],_ =>
   simp only[A0,List.set,List.getD_cons_succ];simp only[Vk]
def abo h (c:h.length=8) s (f:s.length=64) u:ux (h,s,u)=aa (comp h<|ax s,()):=by
 unfold ux;rw[ZM,abk h s f,ab];rw[ag3 _<|vw _ _,ab,X7,ab];have b:(AZ<|ax s).length=64:=GP _;have d:=X9 _ b (of8 h) (64,()) () ();rw[<-((abm h c).symm)] at d;rw[show Kp _ 48=AZ _ from rfl,d,ab];generalize e:oJ _=m;have a:m.length=8:=by rw[<-e];rfl
 have:Loop (oY (h,s,u)) ((0,()),m,())=aa ((8,()),A0 m h 8,()):=by
  refine cV 8 (λi=>(((i:Int),()),A0 m h i,())) (λi g=>?_) ?_
  .have j:(A0 m h i).length=8:=by rw[Cx,a]
   unfold oY;simp only[aH<|show(i:Int)<8 by omega,aF (show(0:Int)<=i by omega) (show _<8 by omega),fB _ 0 (show i<(A0 m h i).length by omega),fB h 0 (show i<h.length by omega),aB (show i<4611686018427387904 by omega)];rw[ZN m h i i<|bV _];rfl
  .unfold oY;rfl
 rw[this,ab];rw[abn m h a c];unfold comp;rw[e]
def H0:List Int:=[1779033703,3144134277,1013904242,2773480762,1359893119,2600822924,528734635,1541459225]
def abp:vq ()=aa (H0,()):=rfl
def Pe:zf ()=aa (H0,()):=rfl
def A1(a:bb):Nat->List Int
 | 0=>H0
 | k+1=>comp (A1 a k) (ax<|(a.drop<|64*k).take 64)
def A2 all k:(A1 all k).length=8:=by
 induction k with
 | zero=>rfl
 | succ k a=>simp only[A1];rw[Vw,a]
def ZO all more:∀k,64*k<=all.length->A1 (all++more) k=A1 all k:=by
 intro k;induction k with
 | zero=>intro _;rfl
 | succ k a =>
   simp only[A1]
   grind
abbrev Vx:=(Bool×List Int×aj)×List Int×Int×aj
def Inv(c:Vx)(a:bb):Prop :=
 ∃b,c=((decide<|64<=a.length,(if 64<=a.length then A1 a (a.length / 64) else gv 8),()),b,(a.length:Int),())/\b.length=64/\b.take (a.length % 64)=ax (a.drop<|64*(a.length / 64))
def aeG:Vx:=((false,gv 8,()),gv 64,0,())
def amA:Inv aeG []:=⟨gv 64,rfl,rfl,rfl⟩
def El a b:ax (a++b)=ax a++ax b:=by simp[ax]
def M3 a n:(ax a).take n=ax (a.take n):=by simp[ax]
def ka a:(ax a).length=a.length:=by simp[ax]
def vx(a b:Nat):gd a b=((a % b:Nat):Int):=(Int.natCast_emod a b).symm
def aeH q (st:Vx) (a:st.1.2.1.length=8):Loop (gZ (xT q 64,())) ((0,()),st,())=aa ((8,()),((st.1.1,A0 st.1.2.1 (oJ q) 8,st.1.2.2),st.2),()):=by
 obtain⟨⟨b,h,u⟩,c⟩:=st;refine cV (f:=gZ _) 8 (λi=>((i,()),((b,A0 h (oJ q) i,u),c),())) (λi g=>?_) ?_
 .have j:(A0 h (oJ q) i).length=8:=by rw[Cx,a]
  have d:([(xT q 64).1,(xT q 64).2.1,(xT q 64).2.2.1,(xT q 64).2.2.2.1,(xT q 64).2.2.2.2.1,(xT q 64).2.2.2.2.2.1,(xT q 64).2.2.2.2.2.2.1,(xT q 64).2.2.2.2.2.2.2.1])=oJ q:=rfl;unfold gZ;rw[d];have e:(oJ q).length=8:=rfl;simp only[aH<|show(i:Int)<8 by omega,aF (show(0:Int)<=i by omega) (show _<8 by omega),fB (A0 h (oJ q) i) 0 (show i<(A0 h _ i).length by omega),fB _ 0 (show i<(oJ q).length by omega),ab,aB (show i<4611686018427387904 by omega)];rw[ZN h _ i i<|bV _];rfl
 .unfold gZ;rfl
def aeI(part a:bb)(M:Vx)(O:part≠[])(P:Inv M a)(hb:a.length+part.length<1152921504606846976) :
  ∃p,fG ((part,()),M,())=aa (.inl ((part.drop<|64-a.length % 64,()),p,()))/\Inv p (a++part.take (64-a.length % 64)):=by
 obtain⟨d,rfl,hw,Q⟩:=P;generalize R:a.length=N at *;have S:N % 64<64:=BW _ aD;have B:gd (N:Int) 64=((N % 64:Nat):Int):=vx N 64;have em:mw (ax part) (minus (64:Int) ((N % 64:Nat):Int))=ax (part.take<|64-N % 64):=by
  unfold mw minus;rw[show((64:Int)-((N % 64:Nat):Int)).toNat=64-N % 64 by omega,M3]
 generalize j:(part.take<|64-N % 64).length=k;have T:k=min (64-N % 64) part.length:=by rw[<-j,dk]
 have U:0<k:=by
  have:0<part.length:=by cases part with|nil=>exact absurd rfl O|cons=>simp
  omega
 have q:len (ax<|part.take<|64-N % 64)=(k:Int):=by unfold len;rw[ka,j]
 have s:aw .i64 ((N % 64:Nat):Int) (k:Int)=((N % 64+k:Nat):Int):=by rw[fA ah ah];omega
 have l:aw .i64 (N:Int) (k:Int)=((N+k:Nat):Int):=by rw[fA ah ah];omega
 have t:inside ((N % 64:Nat):Int) 64 64=true:=aO ah ah ah;have u:inside (k:Int) (len part) (len part)=true:=aO ah dR ah;have v:sub part (k:Int) (minus (len part) (k:Int))=part.drop k:=by
  unfold sub minus len;rw[vb,JK (by rw[rj];omega)]
 have w:part.drop k=part.drop (64-N % 64):=by
  rcases Nat.le_total (64-N % 64) part.length with h|h
  .rw[show k=64-N % 64 by omega]
  .rw[Fy ah,Fy h]
 have m:over d ((N % 64:Nat):Int) (ax<|part.take<|64-N % 64)=ax (a.drop (64*(N / 64))++part.take (64-N % 64))++d.drop (N % 64+k):=by
  unfold over;rw[vb,Q,ka,j,El]
 have C:nt (bt part [])=true:=by
  unfold bt nt;cases part with
  | nil=>exact absurd rfl O
  | cons x r=>rfl
 have e:(a++part.take (64-N % 64)).length=N+k:=by rw[iC,R,j]
 have V:64*(N / 64)+N % 64=N:=TX N 64;have b:(a.drop<|64*(N / 64)).length=N % 64:=by rw[rj];omega
 have g:(ax (a.drop (64*(N / 64))++part.take (64-N % 64))++d.drop (N % 64+k)).length=64:=by
  rw[iC,ka,iC,b,j,rj];omega
 unfold fG;dsimp only;simp only[C,ai,ar (show(64:Int)≠0 by decide),ag,B,t,em,q,u,s,l,v,m];by_cases D:N % 64+k=64
 ·
  have E:d.drop (N % 64+k)=[]:=by rw[Fy ah]
  simp only[au<|show((N % 64+k:Nat):Int)=64 by omega,ai,E,tK] at g⊢;generalize z:ax (a.drop (64*(N / 64))++part.take (64-N % 64))=blk at *;have A:(N+k) / 64=N / 64+1:=ah;have F:(N+k) % 64=0:=ah;have n:((a++part.take (64-N % 64)).drop<|64*(N / 64)).take 64=a.drop (64*(N / 64))++part.take (64-N % 64):=by
   rw[aaB ah,JK (by rw[iC,b,j];omega)]
  have G:∃H:Bool,H=true/\(ae (ak (nt<|decide<|64<=N) (ae (vq ()) λI:List Int×aj=>aa ((),((true,I.1,()),blk,((N+k:Nat):Int),()),()))<|some ((),((decide<|64<=N,(if 64<=N then A1 a (N / 64) else gv 8),()),blk,((N+k:Nat):Int),()),())) λy:aj×Vx×aj=>aa y)=aa ((),((true,A1 a (N / 64),()),blk,((N+k:Nat):Int),()),()):=by
   refine⟨true,rfl,?_⟩;by_cases c:64<=N
   .simp only[c,Zh,yq];rfl
   .have:N / 64=0:=ah;simp only[c,decide_false,if_false,this,abp];rfl
  obtain⟨_,_,G⟩:=G;have J:(ak (nt<|decide<|64<=N) (ae (vq ()) λI:List Int×aj=>aa ((),((true,I.1,()),blk,((N+k:Nat):Int),()),())) (aa ((),((decide<|64<=N,(if 64<=N then A1 a (N / 64) else gv 8),()),blk,((N+k:Nat):Int),()),())):Option (aj×Vx×aj))=aa ((),((true,A1 a (N / 64),()),blk,((N+k:Nat):Int),()),()):=by
   have:∀o:Option (aj×Vx×aj),(ae o λy=>aa y)=o:=by intro o;cases o<;>rfl
   exact(this _).symm.trans G
  rw[J,ab,abl,ab,SS blk g,ab];dsimp only;have K:=A2 a (N / 64);have W:=nB (A1 a<|N / 64) 0 (i:=0) (k:=0) rfl ah;have X:=nB (A1 a<|N / 64) 0 (i:=1) (k:=1) rfl ah;have Y:=nB (A1 a<|N / 64) 0 (i:=2) (k:=2) rfl ah;have Z:=nB (A1 a<|N / 64) 0 (i:=3) (k:=3) rfl ah;have i4:=nB (A1 a<|N / 64) 0 (i:=4) (k:=4) rfl ah;have i5:=nB (A1 a<|N / 64) 0 (i:=5) (k:=5) rfl ah;have i6:=nB (A1 a<|N / 64) 0 (i:=6) (k:=6) rfl ah;have i7:=nB (A1 a<|N / 64) 0 (i:=7) (k:=7) rfl ah;have w0:within 0 8=true:=aD;have w1:within 1 8=true:=aD;have w2:within 2 8=true:=aD;have w3:within 3 8=true:=aD;have w4:within 4 8=true:=aD;have w5:within 5 8=true:=aD;have w6:within 6 8=true:=aD;have w7:within 7 8=true:=aD;simp only[w0,w1,w2,w3,w4,w5,w6,w7,ai,W,X,Y,Z,i4,i5,i6,i7,ab];have hr:=X8 (AZ blk) (GP blk) (of8<|A1 a<|N / 64) () ();rw[show((A1 a _).getD 0 0,(A1 a _).getD 1 0,(A1 a _).getD 2 0,(A1 a _).getD 3 0,(A1 a _).getD 4 0,(A1 a _).getD 5 0,(A1 a _).getD 6 0,(A1 a _).getD 7 0,0,())=xT (of8<|A1 a _) 0 from rfl,hr,ab];rw[aeH _ ((true,A1 a _,()),blk,_,()) K,ab,ab,j9];refine⟨_,by rw[w],?_⟩;refine⟨blk,?_,g,?_⟩
  .rw[e];have c:64<=N+k:=ah;simp only[c,Zh,yq];have L:A1 (a++part.take (64-N % 64)) ((N+k) / 64)=A0 (A1 a<|N / 64) (oJ<|Vv H8 (AZ blk) (of8<|A1 a<|N / 64) 64) 8:=by
    rw[A];simp only[A1];rw[ZO a _ _ ah,n,z];rfl
   rw[L]
  .rw[e,F,Fy ah];rfl
 .have hnf:N % 64+k<64:=ah;simp only[ar<|show((N % 64+k:Nat):Int)≠64 by omega,ag,ab,j9];refine⟨_,by rw[w],?_⟩;have A:(N+k) / 64=N / 64:=ah;refine⟨_,?_,g,?_⟩
  .rw[e,A];by_cases c:64<=N
   .have f:64<=N+k:=ah;simp only[c,f];rw[ZO a _ _ ah]
   .have f:¬64<=N+k:=ah;simp only[c,f,if_false]
  .rw[e,A,acV (by rw[ka,iC,b,j];omega),JK (by rw[ka,iC];omega),aaB ah]
def aeJ:∀n a all c,a.length<=n->Inv c all->all.length+a.length<1152921504606846976 ->
  ∃b,Loop fG ((a,()),c,())=aa (([],()),b,())/\Inv b (all++a):=by
 intro n;induction n with
 | zero =>
   intro a all c h e f;rw[aN];have:fG (([],()),c,())=aa (.inr (([],()),c,())):=by
    unfold fG;rw[show nt _=false from rfl,ag,mP]
   grind
 | succ n i =>
   intro a all c h e f;by_cases j:a=[]
   .grind
   .obtain⟨d,k,l⟩:=aeI a all c j e f;obtain⟨b,m,g⟩:=i (a.drop<|64-all.length % 64) _ d (by rw[rj];omega) l (by rw[iC,dk,rj];omega);refine⟨b,?_,by rw[xg,Fz] at g;exact g⟩;rw[aN,k];exact m
def K1 part all st (b:Inv st all) (c:all.length+part.length<1152921504606846976):∃a,fW ((part,()),st,())=aa ((),a,())/\Inv a (all++part):=by
 obtain⟨a,d,e⟩:=aeJ part.length part all st (bV _) b c;refine⟨a,?_,e⟩;unfold fW;rw[d,ab]
def zs(n:Nat):Nat:=(119-n % 64) % 64
def jf(n k:Nat):Int:=kz .u8 (jt .u64 (ky .u64 (kz .u64 (n:Int)) 8) ((8*k:Nat):Int))
def Pg(n:Nat):List Int:=[jf n 7,jf n 6,jf n 5,jf n 4,jf n 3,jf n 2,jf n 1,jf n 0]
def pad(s:bb):bb:=s++[128]++List.replicate (zs s.length) 0++bq (Pg s.length)
def E8 s:(pad s).length=s.length+1+zs s.length+8:=by simp[pad,bq,Pg];omega
def ZP s:(pad s).length % 64=0:=by rw[E8];unfold zs;omega
def mQ s:bq (ax s)=s:=by
 unfold bq ax;rw[List.map_map]
 conv=>rhs;rw[<-List.map_id s]
 apply Y7;simp_all
def zm a b:bq (a++b)=bq a++bq b:=by simp[bq]
def Vy s (b:s.length<=1048576):Loop kT (((),()),ax s++[128],())=aa (((),()),ax s++[128]++gv (zs s.length),()):=by
 have c:zs s.length<64:=BW _ aD;have:=cV (f:=kT) (zs s.length) (λj=>(((),()),ax s++[128]++gv j,())) (λj a=>by
  unfold kT;have el:len (ax s++[128]++gv j)=((s.length+1+j:Nat):Int):=by unfold len;simp[ax,gv];omega
  rw[ar aD,ag,el,show((64:Int))=((64:Nat):Int) from rfl,vx,ar (by unfold zs at a;omega),show nt false=true from rfl,ai,dS (by simp only[plus,len,Rn];omega),ai,j9]
  congr 4
  show ax s++[128]++gv j++[0]=_
  rw[xg,show gv j++[0]=gv (j+1) from by simp[gv,List.replicate_succ']])
  (by
   unfold kT;have el:len (ax s++[128]++gv (zs s.length))=((s.length+1+zs s.length:Nat):Int):=by unfold len;simp[ax,gv];omega
   rw[ar aD,ag,el,show(64)=((64:Nat):Int) from rfl,vx,au (by unfold zs;omega),show nt true=false from rfl,ag,mP])
 have d:ax s++[128]++gv 0=ax s++[128]:=by simp[gv]
 grind
def abq s b (g:s.length<=1048576) (h:b.length<=2097152) u:Loop (eV (s,u)) (((),7,()),b,())=aa (((),-1,()),b++Pg s.length,()):=by
 have step:∀(k:Nat) c,k<=7->c.length<=2097160->eV (s,u) (((),k,()),c,())=aa (.inl (((),k-1,()),c++[jf s.length k],())):=by
  intro k c a d;unfold eV;dsimp only;have f:ky .i64 8 k=((8*k:Nat):Int):=by rw[Ct ah ah];omega
  rw[ f,dS (by simp only[plus,len,Rn];omega),df ah ah];rfl
 have e:∀c,eV (s,u) (((),(-1),()),c,())=aa (.inr (((),-1,()),c,())):=by
  intro c;unfold eV;dsimp only;rw[cG aD,ag,mP]
 have L:∀(k:Nat) c,k<=7->c.length<=2097160->Loop (eV (s,u)) (((),(k:Int),()),c,())=Loop (eV (s,u)) (((),k-1,()),c++[jf s.length k],()):=by
  intro k c a d;rw[aN,step k c a d];rfl
 refine(L 7 b ah ah).trans ((L 6 _ ah cT).trans<|(L 5 _ ah cT).trans<|(L 4 _ ah cT).trans<|(L 3 _ ah cT).trans<|(L 2 _ ah cT).trans<|(L 1 _ ah cT).trans<|(L 0 _ ah cT).trans ?_);have:b++[jf s.length 7]++[jf s.length 6]++[jf s.length 5]++[jf s.length 4]++[jf s.length 3]++[jf s.length 2]++[jf s.length 1]++[jf s.length 0]=b++Pg s.length:=by simp[Pg]
 rw[this];rw[aN];rfl
def abr s (a:s.length<=1048576):uw (s,())=aa (pad s,()):=by
 have b:zs s.length<64:=BW _ aD;unfold uw;dsimp only;rw[dS dR,dS (by simp only[plus,len,Rn,ka];omega),show app _ _=ax s++[128] from rfl,Vy s a,ab];rw[abq s _ a<|by simp[ka,gv];omega,ab];rw[zm,zm,zm,mQ];have:bq (gv<|zs s.length)=List.replicate (zs s.length) 0:=by unfold bq gv;rw[List.map_replicate];rfl
 rw[this];rfl
def Ya t (c:t.length % 64=0) (d:t.length<=2097152) u:Loop (om (t,u)) ((0,()),H0,())=aa (((t.length:Int),()),A1 t<|t.length / 64,()):=by
 have:=cV (f:=om (t,u)) (t.length / 64) (λj=>((((64*j:Nat):Int),()),A1 t j,())) (λj e=>by
  unfold om;dsimp only;rw[fA ah ah,bz dR,aO ah ah dR];have b:sub t ((64*j:Nat):Int) (minus (((64*j:Nat):Int)+64) ((64*j:Nat):Int))=(t.drop<|64*j).take 64:=by
   unfold sub minus
   grind
  rw[b,abo _ (A2 t j) _ (by rw[dk,rj];omega)];rfl)
  (by
   unfold om;dsimp only;have a:64*(t.length / 64)=t.length:=ah;rw[a,fA ah ah,cG dR,ag,mP])
 exact this
def amB(h:List Int)(i:Nat):Int:=kz .u8 (jt .u32 (h.getD (i / 4) 0) ((24-8*(i % 4):Nat):Int))
def Vz(h:List Int):Nat->List Int
 | 0=>gv 32
 | i+1=>(Vz h i).set i (amB h i)
def Cy h i:(Vz h i).length=32:=by
 induction i with
 | zero=>rfl
 | succ i a=>simp[Vz,a]
def ZQ:([0,0,0,0,0,0,0,0,0,0,0,0,0,0,0,0,0,0,0,0,0,0,0,0,0,0,0,0,0,0,0,0]:List Int)=gv 32:=rfl
def aeK{a:Nat}(h:a<4611686018427387904):Ho .i64 a 4=((a / 4:Nat):Int):=by
 unfold Ho;have:=wP (a:=((a / 4):Int)) ah ah;unfold kz at this
 grind
def VA{h o:List Int}(a:h.length=8)(b:o.length=32)(i:Nat)(c:i<32):Ho .i64 i 4=((i / 4:Nat):Int)/\cA .i64 24 (ky .i64 8<|gd i 4)=((24-8*(i % 4):Nat):Int):=by
 refine⟨aeK ah,?_⟩;rw[show 4=((4:Nat):Int) from rfl,vx,Ct ah ah,df ah ah];omega
def ag4 h (a:h.length=8) q u:Loop (sw (q,h,u)) ((0,()),gv 32,())=aa ((32,()),Vz h 32,()):=by
 refine cV 32 (λi=>(((i:Int),()),Vz h i,())) (λi b=>?_) ?_
 .have c:=Cy h i;obtain⟨d,e⟩:=VA a c i b;unfold sw;dsimp only;rw[aH ah,d,aF ah ah,ai,fB h 0 ah,e,aF ah ah,
   fB _ 0 ah,aB ah]
  rfl
 .unfold sw;dsimp only;rfl
def ag5 h w (f:h.length=8) g n (a b c d e:aj) r:Loop (kD (r,((g,h,a),w,n,b),c)) ((0,()),gv 32,())=aa ((32,()),Vz h 32,()):=by
 refine cV 32 (λi=>(((i:Int),()),Vz h i,())) (λi j=>?_) ?_
 .have k:=Cy h i;obtain⟨l,m⟩:=VA f k i j;unfold kD;dsimp only;rw[aH ah,l,aF ah ah,ai,fB h 0 ah,m,aF ah ah,
   fB _ 0 ah,aB ah]
  rfl
 .unfold kD;dsimp only;rfl
def sha(s:bb):List Int:=Vz (A1 (pad s)<|(pad s).length / 64) 32
def ud s:(sha s).length=32:=Cy _ _
def Yb s (a:s.length<=1048576):yC (s,())=aa (sha s,()):=by
 have b:zs s.length<64:=BW _ aD;unfold yC;rw[Pe,ab];rw[abr s a,ab,Ya _ (ZP s) (by rw[E8];omega),ab,ZQ,ag4 _ (A2 _ _),ab];dsimp only[sha]
def abt s (o:s.length<=1152921504606840000) st (c:Inv st (s++[128])):∃a,Loop ew ((),st,())=aa ((),a,())/\Inv a (s++[128]++List.replicate (zs s.length) 0):=by
 have p:zs s.length<64:=BW _ aD;have key:∀m j st,j+m=zs s.length->Inv st (s++[128]++List.replicate j 0)->∃a,Loop ew ((),st,())=aa ((),a,())/\Inv a (s++[128]++List.replicate (zs s.length) 0):=by
  intro m;induction m with
  | zero =>
    intro j st f c;obtain rfl:j=zs s.length:=ah;refine⟨st,?_,c⟩;obtain⟨b,rfl,h,i⟩:=c;rw[aN];have:ew ((),((decide<|64<=(s++[128]++List.replicate (zs s.length) 0).length,(if 64<=(s++[128]++List.replicate (zs s.length) 0).length then A1 (s++[128]++List.replicate (zs s.length) 0) ((s++[128]++List.replicate (zs s.length) 0).length / 64) else gv 8),()),b,((s++[128]++List.replicate (zs s.length) 0).length:Int),()),())=aa (.inr ((),((decide<|64<=(s++[128]++List.replicate (zs s.length) 0).length,(if 64<=(s++[128]++List.replicate (zs s.length) 0).length then A1 (s++[128]++List.replicate (zs s.length) 0) ((s++[128]++List.replicate (zs s.length) 0).length / 64) else gv 8),()),b,((s++[128]++List.replicate (zs s.length) 0).length:Int),()),())):=by
     have k:(s++[128]++List.replicate (zs s.length) 0).length=s.length+1+zs s.length:=cT;unfold ew;rw[ar aD,ag,k,show(64)=((64:Nat):Int) from rfl,vx,au (by unfold zs;omega),show nt true=false from rfl,ag,mP]
    grind
  | succ m l =>
    intro j st f c;obtain⟨d,n,g⟩:=K1 [0] _ st c cT;obtain⟨a,q,r⟩:=l (j+1) d ah (by
     rw[xg,show List.replicate j (0:UInt8)++[0]=List.replicate _ 0 from by rw[List.replicate_succ']] at g;exact g)
    rw[aN];have e:st.2.2.1=((s.length+1+j:Nat):Int):=by
     obtain⟨b,rfl,h,i⟩:=c
     grind
    have:ew ((),st,())=aa (.inl ((),d,())):=by
     unfold ew;rw[ar aD,ag,e,show(64)=((64:Nat):Int) from rfl,vx,ar (by unfold zs at f;omega),show nt false=true from rfl,ai,n,ab,j9]
    grind
 exact key (zs s.length) 0 st ah (by simpa using c)
def aeL(n:Nat)(i:n<=1152921504606840000)(a:Vx)(b:a.2.2.1=n) u v:Loop (kC (u,a,v)) ((0,()),gv 8,())=aa ((8,()),Pg n,()):=by
 obtain⟨d,e,m,q⟩:=a;have step:∀(k:Nat) c,k<8->c.length=8->kC (u,(d,e,n,q),v) ((k,()),c,())=aa (.inl ((((k+1):Int),()),c.set (7-k)<|jf n k,())):=by
  intro k c f j;unfold kC;dsimp only;have g:ky .i64 8 k=((8*k:Nat):Int):=by rw[Ct ah ah];omega
  have h:cA .i64 7 k=((7-k:Nat):Int):=by rw[df ah ah];omega
  rw[aH ah,g,h,aF ah ah,fB c 0 ah,aB ah];rfl
 have:=cV 8 (λk=>(((k:Int),()),(match k with
  | 0=>gv 8
  | 1=>[0,0,0,0,0,0,0,jf n 0]
  | 2=>[0,0,0,0,0,0,jf n 1,jf n 0]
  | 3=>[0,0,0,0,0,jf n 2,jf n 1,jf n 0]
  | 4=>[0,0,0,0,jf n 3,jf n 2,jf n 1,jf n 0]
  | 5=>[0,0,0,jf n 4,jf n 3,jf n 2,jf n 1,jf n 0]
  | 6=>[0,0,jf n 5,jf n 4,jf n 3,jf n 2,jf n 1,jf n 0]
  | 7=>[0,jf n 6,jf n 5,jf n 4,jf n 3,jf n 2,jf n 1,jf n 0]
  | _=>Pg n),())) (λk f=>by
    rcases(by omega:k=0\/k=1\/k=2\/k=3\/k=4\/k=5\/k=6\/k=7) with rfl|rfl|rfl|rfl|rfl|rfl|rfl|rfl<;>exact(step _ _ ah rfl).trans rfl)
  (by
   rfl)
 grind
def ag7 s (o:s.length<=1048576) st (h:Inv st s) u v:oW (u,st,v)=aa ((sha s,()),st,()):=by
 have p:zs s.length<64:=BW _ aD;have b:st.2.2.1=s.length:=by obtain⟨a,rfl,_⟩:=h;rfl
 obtain⟨c,i,j⟩:=K1 [128] s st h cT;obtain⟨d,k,l⟩:=abt s ah c j;obtain⟨e,m,n⟩:=K1 (bq<|Pg s.length) _ d l (by simp[bq,Pg];omega);unfold oW;rw[ZQ,show bq _=[128] from rfl,i,ab];rw[k,ab];rw[show([0,0,0,0,0,0,0,0])=gv 8 from rfl,aeL s.length ah st b,ab,aO aD aD aD,ai];rw[show sub _ 0 _=Pg s.length from rfl,m,ab];have f:Inv e (pad s):=n;obtain⟨a,rfl,q,r⟩:=f;have g:64<=(pad s).length:=by have:=ZP s;rw[E8] at this⊢;omega
 simp only[g,yq];rw[ag5 _ _ (A2 _ _) _ _ () () () () () (),ab];dsimp only[sha]
def Yc s (b:s.length<=1048576):Dm (s,())=aa (sha s,()):=by
 obtain⟨a,c,d⟩:=K1 s [] aeG amA cT;unfold Dm;rw[show((false,([0,0,0,0,0,0,0,0]),()),([0,0,0,0,0,0,0,0,0,0,0,0,0,0,0,0,0,0,0,0,0,0,0,0,0,0,0,0,0,0,0,0,0,0,0,0,0,0,0,0,0,0,0,0,0,0,0,0,0,0,0,0,0,0,0,0,0,0,0,0,0,0,0,0]),_,())=aeG from rfl,c,ab];rw[ag7 s b a<|by simpa using d,ab]
def Ph:bb:=[48,49,50,51,52,53,54,55,56,57,97,98,99,100,101,102]
def hx(n:Nat):UInt8:=Ph.getD n 0
def vy:bb->bb
 | []=>[]
 | b::r=>hx (b.toNat / 16)::hx (b.toNat % 16)::vy r
def kb l:(vy l).length=2*l.length:=by
 induction l with
 | nil=>rfl
 | cons b r a=>simp only[vy,iD];omega
def aeM a b:vy (a++b)=vy a++vy b:=by
 induction a with
 | nil=>rfl
 | cons x r c=>simp only[Lj,vy,c]
def ag8:∀n:Fin 256,idx Ph (jt .u8 (n.val:Int) 4)=aa (hx<|n.val / 16):=by decide +kernel
def ag9:∀n:Fin 256,idx Ph (gM .u8 (n.val:Int) 15)=aa (hx<|n.val % 16):=by decide +kernel
def ai0 b:idx Ph (jt .u8 (u8 b) 4)=aa (hx<|b.toNat / 16):=ag8 ⟨b.toNat,b.toNat_lt⟩
def ai1 b:idx Ph (gM .u8 (u8 b) 15)=aa (hx<|b.toNat % 16):=ag9 ⟨b.toNat,b.toNat_lt⟩
def zZ s {k:Nat} h:idx (ax s) k=aa (u8 s[k]):=by
 rw[su];simp[ax,u8,h]
def K2(s:bb){k:Nat} h:idx s k=aa s[k]:=by
 rw[su];simp
def lE s:len (ax s)=(s.length:Int):=by simp[len,ax]
def SU(s:bb){k} h:s.take (k+1)=s.take k++[s[k]]:=by
 rw[yn,fH h];rfl
def ZR(s:bb){k} h:ax (vy<|s.take<|k+1)=(ax (vy<|s.take k)++[u8<|hx<|s[k].toNat / 16])++[u8<|hx<|s[k].toNat % 16]:=by
 rw[SU s h,aeM,El,xg];rfl
def aeN(s:bb)(a:s.length<=1048576){k}(h:k<s.length)(x y:Int) :
  fits (plus (len<|ax<|vy<|s.take k)<|len [x])=true/\fits (plus (len<|ax (vy<|s.take k)++[x])<|len [y])=true:=by
 constructor
 .apply dS;rw[lE,kb];simp only[dk,plus,len,iD,p6];omega
 .apply dS;have:(ax (vy<|s.take k)++[x]).length=2*min k s.length+1:=by
   rw[iC,ka,kb,dk];rfl
  simp only[plus,len,iD,p6];omega
def SV s (b:s.length<=1048576):lV (s,())=aa (vy s,()):=by
 unfold lV;rw[dS<|by simp only[len];omega,ai];have key:Loop (mz (s,())) ((0,()),((),(),()),[],())=aa (((s.length:Int),()),((),(),()),ax<|vy s,()):=by
  have:=cV (f:=mz (s,())) s.length (λk=>((k,()),((),(),()),ax<|vy _,())) (λk a=>by
   unfold mz;dsimp only;obtain⟨c,d⟩:=aeN s b a _ _;rw[lE,aH ah,ai,aF ah ah,ai,zZ s a,ab,aC aD,ag];rw[show([48,49,50,51,52,53,54,55,56,57,97,98,99,100,101,102])=Ph from rfl,ai0,ab,c,ai,ai1,ab];unfold app;rw[d,ai,j9,aB ah,ZR s a]) (by
   unfold mz;dsimp only;rw[lE,aC ah,ag,mP,zw])
  exact this
 rw[key,ab];rw[mQ]
def amC:∀n:Fin 16,qb ((n.val:Int),())=aa (u8<|hx n.val,()):=by decide +kernel
def ZS{n:Nat}(h:n<16):qb (n,())=aa (u8<|hx n,()):=amC ⟨n,h⟩
def aeO:∀n:Fin 256,Ho .i64 (kz .i64 (n.val:Int)) 16=((n.val / 16:Nat):Int):=by decide +kernel
def aeP:∀n:Fin 256,gd (kz .i64 (n.val:Int)) 16=((n.val % 16:Nat):Int):=by decide +kernel
def ai2 b:Ho .i64 (kz .i64<|u8 b) 16=((b.toNat / 16:Nat):Int):=aeO ⟨b.toNat,b.toNat_lt⟩
def ai3 b:gd (kz .i64<|u8 b) 16=((b.toNat % 16:Nat):Int):=aeP ⟨b.toNat,b.toNat_lt⟩
def M4 s (b:s.length<=1048576):vr (s,())=aa (vy s,()):=by
 unfold vr;have key:Loop (oq (s,())) (((),0,()),[],())=aa (((),(s.length:Int),()),ax<|vy s,()):=by
  have:=cV (f:=oq (s,())) s.length (λk=>(((),k,()),ax _,())) (λk a=>by
   unfold oq;dsimp only;obtain⟨c,d⟩:=aeN s b a _ _;have e:=s[k].toNat_lt;rw[show len s=s.length from rfl,aH ah,ai,K2 s a,ab,ar aD,ag,ai2,ZS ah,ab];dsimp only;rw[c,ai,ab,ag,ai3,ZS ah,ab];unfold app;rw[d,ai,j9,aB ah,ZR s a]) (by
   unfold oq;dsimp only;rw[show len s=s.length from rfl,aC ah,ag,mP,zw])
  exact this
 rw[key,ab];rw[mQ]
def hv(c:UInt8):Int:=Lib.indexByte Ph c
def aif:∀n:Fin 16,hv (hx n.val)=(n.val:Int):=by decide +kernel
def aeQ{a b}(h:u8 a=u8 b):a=b:=by
 have:a.toNat=b.toNat:=by unfold u8 at h;omega
 exact TY.1 this
def H9:bb->Option bb
 | []=>aa []
 | [_]=>af
 | a::b::r=>if hv a<0\/hv b<0 then af else(H9 r).map (UInt8.ofNat (16*(hv a).toNat+(hv b).toNat)::·)
def aeR(l:bb) k (h:k<=l.length):sub l k (minus (len l) k)=l.drop k:=by
 unfold sub minus len;rw[vb,JK (by rw[rj];omega)]
def z6{a b:Nat}(h:a+b<4611686018427387904):aw .i64 a b=((a+b:Nat):Int):=by
 rw[fA ah ah];omega
def Ia:∀l,H9 (vy l)=aa l:=by
 intro l;induction l with
 | nil=>rfl
 | cons b r a =>
   have c:=b.toNat_lt;simp only[vy,H9,(aif ⟨b.toNat / 16,ah⟩),(aif ⟨b.toNat % 16,ah⟩),a];rw[aK ah];rw[vb,vb,show 16*_+b.toNat % 16=b.toNat by omega];simp
def amD:bb:=[115,104,97,50,53,54,58]
def SW(s:bb):bb:=amD++vy (bq<|sha s)
def Qv{α}(l:List α) n (h:l.length=n):sub l 0 (minus n 0)=l:=by
 unfold sub minus;rw[show((0:Int).toNat)=0 from rfl,DU,JK ah]
def aeS s (a:s.length<=1048576):oo (s,())=aa (SW s,()):=by
 unfold oo;rw[Yc s a,ab];rw[show sub _ 0 (minus 32 0)=sha s from Qv _ 32 (ud s),SV _ (by simp[bq,ud]),ab];dsimp only;rw[dS<|by simp only[plus,len,kb,bq,y4,ud,iD,p6];omega];rfl
def Qw s (a:s.length<=1048576):tS (s,())=aa (SW s,()):=by
 unfold tS;rw[Yb s a,ab];rw[show sub _ 0 (minus 32 0)=sha s from Qv _ 32 (ud s),M4 _ (by simp[bq,ud]),ab];dsimp only;rw[dS<|by simp only[plus,len,kb,bq,y4,ud,iD,p6];omega];rfl
def VB(l:bb)(k:Nat):sub l 0 (minus k 0)=l.take k:=by
 unfold sub minus;rw[show((0:Int).toNat)=0 from rfl,DU,adt,vb]
set_option maxRecDepth 100000
def dm(p:UInt8->Bool)(s:bb):bb:=(s.reverse.dropWhile p).reverse
def xU{p} s {x} (h:p x=true):dm p (s++[x])=dm p s:=by
 simp[dm,h]
def zn{p} s {x} (h:p x=false):dm p (s++[x])=s++[x]:=by
 simp[dm,h]
def Qx{p}:∀z s,(∀x∈z,p x=true)->dm p (s++z)=dm p s:=by
 intro z;induction z with
 | nil=>intro s _;rw[tK]
 | cons x r a =>
   intro s h;rw[show s++x::r=(s++[x])++r by simp,a _ (λy b=>h y (v8 _ b)),xU s (h x<|ri ..)]
def aeT{p s}(h:∀x,s.getLast?=aa x->p x=false):dm p s=s:=by
 rcases Y5 s with rfl|⟨r,x,rfl⟩
 .rfl
 .have:=h x aT;rw[ac3];exact zn r this
def VC(r:bb) x (a:r.length<=1048576):cA .i64 (len<|r++[x]) 1=(r.length:Int)/\idx (r++[x]) (r.length:Int)=aa x:=by
 constructor
 .have:len (r++[x])=((r.length+1):Int):=by simp[len]
  rw[ df ah ah];omega
 .rw[su];simp
def Pj c:∀n s,s.length<=n->s.length<=1048576->∀q,Loop (fl (q,c,())) ((s,()),())=aa ((dm (λx=>aG (u8 x) c) s,()),()):=by
 intro n;induction n with
 | zero =>
   intro s h _ q;obtain rfl:s=[]:=yZ.1 ah;rw[aN];rfl
 | succ n f =>
   intro s h a q;rcases Y5 s with rfl|⟨r,x,rfl⟩
   .grind
   .rw[ac3] at h a⊢;rw[iC] at h a;obtain⟨b,d⟩:=VC r x ah;rw[aN];have e:fl (q,c,()) ((r++[x],()),())=if aG (u8 x) c=true then aa (.inl ((r,()),())) else aa (.inr ((r++[x],()),())):=by
     unfold fl;rw[aH<|by simp only[len,iC,iD];omega,ai,b,d,ab,ab];cases hx:aG _ c with
     | true =>
       rw[ai,aO ah ah (by simp only[len,iC];omega),ai,j9,show sub _ 0 _=r from by rw[VB];simp,aQ rfl]
     | false=>rw[ag,mP,aK aT]
    rw[e];cases hx:aG _ c with
    | true =>
      rw[ xU r hx]
      grind
    | false =>
      rw[ zn r hx];rfl
def yR s c (a:s.length<=1048576):eW (s,c,())=aa (dm (λx=>aG (u8 x) c) s,()):=by
 unfold eW;rw[Pj c s.length s (bV _) a s,ab]
def db(x:UInt8):Bool:=aG (u8 x) 0
def z7 x:db x=true↔x=0:=by
 unfold db aG;rw[TU];constructor
 .intro h;exact aeQ h
 .rintro rfl;rfl
def Pk s (a:s.length<=1048576):ez (s,[0],())=aa (dm db s,()):=by
 unfold ez;by_cases h:s=[]
 .subst h;rfl
 .rw[show bt s []=false from cd h,aE,ai,show aG _ 1=true from rfl,ai,show idx ([0]:bb) 0=aa 0 from rfl,ab,ab,ab,
   yR s _ a]
  rfl
def xV:List Bool:=((List.replicate 256 false).set 0 true).set 32 true
def BN(x:UInt8):Bool:=xV.getD x.toNat false
def SX:xV.length=256:=by simp only[xV,adg,acZ]
def ai4:∀n:Fin 256,xV.getD n.val false=(decide (n.val=0)||decide (n.val=32)):=by decide +kernel
def VD x:BN x=true↔x=0\/x=32:=by
 unfold BN;rw[ai4 ⟨x.toNat,x.toNat_lt⟩];simp;constructor
 .rintro(h|h)
  .exact .inl (TY.1 h)
  .exact .inr (TY.1 h)
 .rintro(rfl|rfl)
  .grind
  .grind
def SY x:cJ ((u8 x,()),xV,())=aa ((BN x,()),xV,()):=by
 unfold cJ;have hx:=x.toNat_lt;have e:u8 x=x.toNat:=rfl;dsimp only;rw[e,aF ah ah,fB xV false (by show _<xV.length;rw[SX];omega)];rfl
def VE:eh ([0,32],())=aa (xV,true,()):=by
 have key:Loop (et ([0,32],())) ((false,0,()),List.replicate 256 false,())=aa (0,(false,2,()),xV,()):=by
  rw[aN];show Loop _ _=_
  rw[aN];show Loop _ _=_
  rw[aN];rfl
 exact(congrArg (ae · _) key).trans rfl
def VF:∀n s,s.length<=n->s.length<=1048576->Loop cK ((s,()),xV,())=aa ((dm BN s,()),xV,()):=by
 intro n;induction n with
 | zero =>
   intro s h _;obtain rfl:s=[]:=yZ.1 ah;rw[aN];rfl
 | succ n e =>
   intro s h a;rcases Y5 s with rfl|⟨r,x,rfl⟩
   .grind
   .rw[ac3] at h a⊢;rw[iC] at h a;obtain⟨b,c⟩:=VC r x ah;rw[aN];have d:cK ((r++[x],()),xV,())=if BN x=true then aa (.inl ((r,()),xV,())) else aa (.inr ((r++[x],()),xV,())):=by
     unfold cK;rw[aH<|by simp only[len,iC,iD];omega,ai,b,c,ab,SY,ab];cases hx:BN x with
     | true =>
       rw[aW,ag,aO ah ah (by simp only[len,iC];omega),ai,j9,show sub _ 0 _=r from by rw[VB];simp,aQ rfl]
     | false=>rw[aE,ai,mP,aK aT]
    rw[d];cases hx:BN x with
    | true =>
      rw[ xU r hx]
      grind
    | false =>
      rw[ zn r hx];rfl
def GQ s (a:s.length<=1048576):ez (s,[0,32],())=aa (dm BN s,()):=by
 unfold ez;by_cases h:s=[]
 .subst h;rfl
 .rw[show bt s []=false from cd h,aE,ai,show bt [0,32] []=false from rfl,ag,show aG _ 1=false from rfl,ag,ab,VE,ab];unfold dM;rw[VF s.length s (bV _) a];rfl
def Pl c:∀n s,s.length<=n->∀q,Loop (fO (q,c,())) ((s,()),())=aa ((s.dropWhile<|λx=>aG (u8 x) c,()),()):=by
 intro n;induction n with
 | zero =>
   intro s h q;obtain rfl:s=[]:=yZ.1 ah;rw[aN];rfl
 | succ n a =>
   intro s h q;cases s with
   | nil=>rw[aN];rfl
   | cons x r =>
     rw[aN];have b:fO (q,c,()) ((x::r,()),())=if aG (u8 x) c=true then aa (.inl ((r,()),())) else aa (.inr ((x::r,()),())):=by
      unfold fO;rw[aH<|by simp only[len,iD];omega,ai,show idx _ 0=aa x from rfl,ab,ab];cases hx:aG _ c with
      | true =>
        rw[ai,aO aD (by simp only[len,iD];omega) (tr _),ai,j9,show sub _ 1 _=r from aeR _ 1 aT,aQ rfl]
      | false=>rw[ag,mP,aK aT]
     rw[ TS]
     grind
def Ib s c:hM (s,c,())=aa (s.dropWhile<|λx=>aG (u8 x) c,()):=by
 unfold hM;rw[Pl c s.length s (bV _) s,ab]
def Ic{p}{l:bb}{x}(h:x∈l.takeWhile p):p x=true:=wa.1 List.all_takeWhile x h
def VG s (a:s.length<=1048576):iJ (s,[0],())=aa ((dm db s).dropWhile db,()):=by
 unfold iJ;by_cases h:s=[]
 .subst h;rfl
 .rw[show bt s []=false from cd h,aE,ai,show aG _ 1=true from rfl,ai,show idx ([0]:bb) 0=aa 0 from rfl,ab,ab,ab,
   yR s _ a,ab,ab,Ib]
  rfl
def A3 s:(dm db s).dropWhile db=[]↔∀x∈s,x=0:=by
 constructor
 .intro h;have e:∀x∈dm db s,db x=true:=by
   intro x a;have:=BJ (p:=db) (l:=dm db s);rw[h,tK] at this;rw[<-this] at a;exact Ic a
  have b:dm db s=[]:=by
   rcases Y5 _ with b|⟨r,x,b⟩
   .exact b
   .exfalso;have a:=e x (by rw[b];simp);unfold dm at b;have c:(s.reverse.dropWhile db)=x::r.reverse:=by
     grind
    have:=List.head?_dropWhile_not db s.reverse
    grind
  intro x a;have c:s.reverse.dropWhile db=[]:=by
   have:=congrArg List.reverse b;simpa [dm] using this
  have:=BJ (p:=db) (l:=s.reverse);rw[c,tK] at this;have d:=List.mem_reverse.2 a;rw[<-this] at d;exact(z7 x).1 (Ic d)
 .intro h;have:dm db s=[]:=by
   have:=Qx s [] (λx a=>(z7 x).2 (h x a));exact this
  simp_all
def M5 b (c:b.length<=1048576):uy (b,())=aa (decide (b.length=512/\∀x∈b,x=0),()):=by
 unfold uy;by_cases h:b.length=512
 .rw[au<|by simp only[len];omega,ai,VG b c,ab,ab];unfold bt;by_cases a:∀x∈b,x=0
  .rw[cU<|(A3 b).2 a,cU ⟨h,a⟩]
  .rw[cd<|λe=>a ((A3 b).1 e),cd λe=>a e.2]
 .rw[ar<|by simp only[len];omega,ag,ab,cd λe=>h e.1]
end Go.Ge
namespace Go.Ge
variable [Lp]
def aih:∀d:Fin 8,kz .i64 (cA .u8 ((48+d.val:Nat):Int) 48)=(d.val:Int):=by decide +kernel
def amE{v d:Nat}(a:d<8)(g:8*v+d<9223372036854775808):Ao .i64 (nY .i64 v 3) (kz .i64<|cA .u8 ((48+d:Nat):Int) 48)=((8*v+d:Nat):Int):=by
 rw[aih ⟨d,a⟩];have b:nY .i64 v 3=((8*v:Nat):Int):=by
  unfold nY;rw[show min _ IntKind.i64.bits=3 from rfl,show v*2 ^ 3=((8*v):Int) by omega];exact wP ah ah
 rw[b];unfold Ao;have e:(BitVec.ofInt IntKind.i64.bits ((8*v:Nat):Int) ||| BitVec.ofInt IntKind.i64.bits (d:Int)).toNat=8*v+d:=by
  rw[BitVec.toNat_or];have c:(BitVec.ofInt IntKind.i64.bits ((8*v:Nat):Int)).toNat=2 ^ 3*v:=by
   rw[ac7,show(IntKind.i64.bits)=64 from rfl];omega
  have f:(BitVec.ofInt IntKind.i64.bits d).toNat=d:=by
   rw[ac7,show(IntKind.i64.bits)=64 from rfl];omega
  rw[c,f,<-Nat.two_pow_add_eq_or_of_lt a]
 rw[e];exact wP ah ah
def z8(s:bb):Prop:=∀x∈s,x≠0
instance (s:bb):Decidable (z8 s):=inferInstanceAs (Decidable (∀x∈s,x≠0))
def Ie:∀s,decide (Lib.indexByte s 0<0)=decide (z8 s):=by
 intro s;induction s with
 | nil=>rfl
 | cons b r a =>
   unfold Lib.indexByte;by_cases d:b=0
   .subst d;rw[aQ<|by rfl,cd aD,cd λh=>h 0 (ri ..) rfl]
   .rw[aK<|by simpa using d];by_cases c:z8 r
    .rw[cU c] at a;have e:=fb a;have g:=(Bs 0 r).1;have f:Lib.indexByte r 0=-1:=ah;rw[f,cU aD,cU];intro x hx;rcases fh.1 hx with rfl|hx
     .exact d
     .exact c x hx
    .rw[cd c] at a;have e:=xf a;rw[aK cT,cd ah,cd];intro h;exact c λx hx=>h x (v8 _ hx)
def GR s:dv (s,0,())=aa (Lib.indexByte s 0,()):=rfl
def GS s (a:s.length<=1048576):kp (s,())=aa (dm db s,decide<|z8<|dm db s,()):=by
 unfold kp;rw[Pk s a,ab];rw[GR,ab];unfold aL;rw[Ie]
abbrev Hd:=bb×Int×Int×Int×Int×Int×Int×bb×aj
def clr(s:bb)(a:Int):Prop:=s≠[]/\(s.length:Int)<=a/\z8 s
instance (s:bb) (a:Int):Decidable (clr s a):=inferInstanceAs (Decidable<|_/\_/\_)
def SZ(n b:Int):Prop:=0<=n/\n<b
instance (n b:Int):Decidable (SZ n b):=inferInstanceAs (Decidable<|_/\_)
def kindOk(h:Hd):Prop:=(h.2.1=1/\h.2.2.2.2.2.2.2.1=[])\/(h.2.1=2/\h.2.2.2.2.2.2.2.1=[]/\h.2.2.2.2.2.1=0)\/(h.2.1=3/\clr h.2.2.2.2.2.2.2.1 100/\h.2.2.2.2.2.1=0)
instance (h:Hd):Decidable (kindOk h):=inferInstanceAs (Decidable<|_\/_\/_)
def Pm(h:Hd)(a:Int):Prop:=SZ h.2.2.1 2097152/\SZ h.2.2.2.1 2097152/\SZ h.2.2.2.2.1 2097152/\SZ h.2.2.2.2.2.1 8589934592/\SZ h.2.2.2.2.2.2.1 8589934592/\clr h.1 a/\kindOk h
instance (h:Hd) (a:Int):Decidable (Pm h a):=inferInstanceAs (Decidable<|_/\_/\_/\_/\_/\_/\_)
def E9 n b:lL (n,b,())=aa (decide<|SZ n b,()):=by
 unfold lL;by_cases h:0<=n
 .rw[bz h,ai];unfold aL SZ;simp[h]
 .rw[cG ah,ag,cd λe=>h e.1]
def Qy s m:ot (s,m,())=aa (decide<|clr s m,()):=by
 unfold ot;by_cases h:s=[]
 .subst h;rw[show bt [] []=true from rfl,aW,ag,ag,ab,cd λe=>e.1 rfl]
 .rw[show bt s []=false from cd h,aE,ai];by_cases a:s.length<=m
  .rw[bz<|by exact a,ai,GR,ab,ab];unfold aL;rw[Ie];unfold clr;simp[h,a]
  .rw[cG<|by simp only[len];omega,ag,ab,cd λe=>a e.2.1]
def VH(h:Hd) m:rJ (h,m,())=aa (decide<|Pm h m,()):=by
 unfold rJ;by_cases d:SZ h.2.2.1 2097152
 case neg=>rw[E9,ab,cd d,ag,ab,ag,ab,ag,ab,ag,ab,aE,aW,ag,ab,ai,cd λe=>d e.1]
 rw[E9,ab,cU d,ai,E9,ab,ab];by_cases f:SZ h.2.2.2.1 2097152
 case neg=>rw[cd f,ag,ab,ag,ab,ag,ab,aE,aW,ag,ab,ai,cd λe=>f e.2.1]
 rw[cU f,ai,E9,ab,ab];by_cases g:SZ h.2.2.2.2.1 2097152
 case neg=>rw[cd g,ag,ab,ag,ab,aE,aW,ag,ab,ai,cd λe=>g e.2.2.1]
 rw[cU g,ai,E9,ab,ab];by_cases i:SZ h.2.2.2.2.2.1 8589934592
 case neg=>rw[cd i,ag,ab,aE,aW,ag,ab,ai,cd λe=>i e.2.2.2.1]
 rw[cU i,ai,E9,ab,ab];by_cases j:SZ h.2.2.2.2.2.2.1 8589934592
 case neg=>rw[cd j,aE,aW,ag,ab,ai,cd λe=>j e.2.2.2.2.1]
 rw[cU j,aW,aE,ai,Qy,ab,ab];by_cases k:clr h.1 m
 case neg=>rw[cd k,aE,ai,cd λe=>k e.2.2.2.2.2.1]
 rw[cU k,aW,ag];rw[(gm.2 ⟨λe=>e.2.2.2.2.2.2,λe=>⟨d,f,g,i,j,k,e⟩⟩)];by_cases l:h.2.1=1
 .rw[l,oj,ai];unfold bt;rw[show decide _=decide (kindOk h) from gm.2 (by unfold kindOk;simp[l])]
 .rw[ar l,ag];by_cases b:h.2.1=2
  .rw[b,oj,ai];unfold bt aG;by_cases a:h.2.2.2.2.2.2.2.1=[]
   .rw[cU a,ai,show decide (h.2.2.2.2.2.1=0)=decide (kindOk h) from gm.2 (by unfold kindOk;simp[b,a])]
   .rw[cd a,ag,show decide (kindOk h)=false from cd (by unfold kindOk;simp[b,a])]
  .rw[ar b,ag];by_cases c:h.2.1=3
   .rw[c,oj,ai,Qy,ab];unfold aG;by_cases a:clr h.2.2.2.2.2.2.2.1 100
    .rw[cU a,ai,show decide _=decide (kindOk h) from gm.2 (by unfold kindOk;simp[c,a])]
    .rw[cd a,ag,show decide _=false from cd (by unfold kindOk;simp[c,a])]
   .rw[ar c,ag,show decide _=false from cd (by unfold kindOk;simp[l,b,c])]
def cE:bb->List bb
 | []=>[[]]
 | b::r=>if b=47 then []::cE r else match cE r with
   | h::t=>(b::h)::t
   | []=>[[b]]
def pM s:cE s≠[]:=by
 cases s with
 | nil=>simp[cE]
 | cons b r =>
   unfold cE
   grind
def ke{b}(h:b≠47){r x t}(e:cE r=x::t):cE (b::r)=(b::x)::t:=by
 rw[cE,aK h,e]
def parts(p:bb):List bb:=if p=[] then [] else cE p
def VI{b}(h:b≠47):∀k r x t,Lib.splitK [47] 0 k r=x::t->Lib.splitK [47] 0 k (b::r)=(b::x)::t:=by
 intro k r x t e;cases k with
 | zero=>simp[Lib.splitK] at e⊢;exact⟨by rw[e.1],e.2⟩
 | succ k =>
   have a:Lib.index (b::r) [47]=if Lib.index r [47]==-1 then -1 else Lib.index r [47]+1:=by
    rw[Lib.index]
    grind
   have d:=Lib.index_ge r [47];unfold Lib.splitK at e⊢;rw[a];by_cases c:(Lib.index r [47]==-1)=true
   .grind
   .rw[aK c] at e⊢;have f:Lib.index r [47]≠-1:=λq=>c (by rw[q];rfl);have g:¬((Lib.index r [47]+1==-1)=true):=λq=>by have:=beq_iff_eq.1 q;omega
    obtain⟨j,i⟩:∃j:Nat,Lib.index r [47]=j:=⟨(Lib.index r [47]).toNat,ah⟩;simp_all
def S0 k r:Lib.splitK [47] 0 (k+1) (47::r)=[]::Lib.splitK [47] 0 k r:=by
 have a:Lib.index (47::r) [47]=0:=by rw[Lib.index];simp
 rw[Lib.splitK,a];simp
def abu:∀s k,s.count 47<=k->Lib.splitK [47] 0 k s=cE s:=by
 intro s;induction s with
 | nil =>
   intro k _;cases k with
   | zero=>rfl
   | succ k=>simp[Lib.splitK,cE,Lib.index]
 | cons b r e =>
   intro k a;by_cases h:b=47
   .subst h;obtain⟨c,rfl⟩:∃c,k=c+1:=⟨k-1,by rw[List.count_cons_self] at a;omega⟩;rw[S0,e c (by rw[List.count_cons_self] at a;omega),cE,aQ rfl]
   .have:=e k (by rwa [List.count_cons_of_ne h] at a);cases d:cE r with
    | nil=>exact absurd d (pM r)
    | cons x t =>
      rw[d] at this;rw[VI h k r x t this,ke h d]
def aeV s:Lib.split s [47]=cE s:=abu s _ (by rw[Lib.count_one];apply bV)
def ZT c:aG (u8 c) 47=decide (c=47):=Ek (n:=47)
def akM c:aG (u8 c) 0=decide (c=0):=Ek (n:=0)
def rR p (a:p.length<=1048576):ff (p,())=aa (parts p,()):=by
 unfold ff parts;by_cases h:p=[]
 .rw[cc h,ai,aQ h]
 .rw[aY h,ag,aK h];have:vK (p,[47],())=aa (cE p,()):=by
   show(Dk p [47]).map _=_
   unfold Dk;simp only;rw[aQ ah,aeV];rfl
  rw[this,ab]
def ig p (w:p.length<=1048576):ed (p,())=aa (parts p,()):=by
 unfold ed parts;by_cases h:p=[]
 .rw[cc h,ai,aQ h]
 .rw[aY h,ag,aK h];have key:=qo (f:=kX (p,())) p (λs i=>(((),s.1,i,()),s.2,()))
   (λi s x=>aa (.inl<|if x=47 then([],s.2++[s.1]) else(s.1++[x],s.2))) (λi s=>(((),s.1,i,()),s.2,())) (λi s=>s.1.length<=i/\s.2.length<=i)
   (λs i x l v q=>by
    unfold kX;dsimp only;rw[al v,ai,ao l,ab,ZT];by_cases b:x=47
    .rw[cU b,ai,aJ cT,aB ah];simp only[aQ b];rfl
    .rw[cd b,ag,aB ah,je ah ah,sub_one l,aJ cT];simp only[aK b];rfl)
   (λs i x y l q c=>by
    obtain rfl:=T4 (aI c);by_cases b:x=47
    .grind
    .simp only[aK b,iC,iD,p6];omega)
   (λs q=>by
    unfold kX;rw[aq];rfl)
   (λs i x _ _ h=>by cases h) ([],[]) ⟨bV _,bV _⟩
  have run:∀r i a o,∃e d j,vu (λi s x=>aa (.inl<|if x=47 then([],s.2++[s.1]) else(s.1++[x],s.2))) (λi s=>(((),s.1,(i:Int),()),s.2,())) r i (a,o)=aa (((),e,j,()),d,()) /\
    d++[e]=o++(match cE r with|h::t=>(a++h)::t|[]=>[a])/\d.length<=o.length+r.length:=by
   intro r;induction r with
   | nil=>intro i a o;exact⟨a,o,_,rfl,by simp[cE],aT⟩
   | cons x r u =>
     intro i a o;by_cases b:x=47
     .obtain⟨e,d,j,m,g,n⟩:=u (i+1) [] (o++[a]);refine⟨e,d,j,?_,?_,?_⟩
      .unfold vu
       grind
      .rw[g,cE,aQ b];cases c:cE r with
       | nil=>exact absurd c (pM r)
       | cons h t=>simp
      .grind
     .obtain⟨e,d,j,m,g,n⟩:=u (i+1) (a++[x]) o;refine⟨e,d,j,?_,?_,?_⟩
      .unfold vu
       grind
      .rw[g];cases c:cE r with
       | nil=>exact absurd c (pM r)
       | cons h t=>rw[ke b c];simp
      .grind
  obtain⟨e,d,j,m,g,n⟩:=run p 0 [] [];have k:Loop (kX _) (((),([]),0,()),_)=aa _:=key.trans m;rw[k,ab];simp at n;rw[aJ cT,ai,gU,g];cases c:cE p with
  | nil=>exact absurd c (pM p)
  | cons h t=>simp
def aR:List bb->bb
 | []=>[]
 | [x]=>x
 | x::y::r=>x++47::aR (y::r)
def aeW l:Lib.join l [47]=aR l:=by
 induction l with
 | nil=>rfl
 | cons x r a =>
   cases r with
   | nil=>simp[Lib.join_one,aR]
   | cons y r =>
     rw[aR,<-a,Lib.join_cons,Lib.join_cons];simp[Lib.joinTail]
def wS s:aR (cE s)=s:=by
 induction s with
 | nil=>rfl
 | cons b r a =>
   by_cases h:b=47
   .subst h;rw[cE,aQ rfl];cases c:cE r with
    | nil=>exact absurd c (pM r)
    | cons x t=>rw[aR,<-c,a];rfl
   .cases c:cE r with
    | nil=>exact absurd c (pM r)
    | cons x t =>
      rw[ke h c];rw[c] at a;cases t with
      | nil=>rw[aR] at a⊢;rw[a]
      | cons y t=>rw[aR] at a⊢;rw[Lj,a]
def dO p:aR (parts p)=p:=by
 unfold parts;by_cases h:p=[]
 .rw[ h];rfl
 .rw[aK h,wS]
def Fa x (hx:47∉x) r:cE (x++47::r)=x::cE r:=by
 induction x with
 | nil=>rw[Lk,cE,aQ rfl]
 | cons b x a =>
   simp at hx;exact ke (λe=>hx.1 e.symm) (a hx.2)
def pN x (hx:47∉x):cE x=[x]:=by
 induction x with
 | nil=>rfl
 | cons b x a =>
   simp at hx;exact ke (λe=>hx.1 e.symm) (a hx.2)
def GU l (a:l≠[]) (h:∀x∈l,47∉x):cE (aR l)=l:=by
 induction l with
 | nil=>exact absurd rfl a
 | cons x r b =>
   cases r with
   | nil=>exact pN x (h x<|ri ..)
   | cons y r =>
     rw[aR,Fa x (h x<|ri ..),b aT λz c=>h z (v8 _ c)]
def Yd s:∀x∈cE s,47∉x/\x.length<=s.length:=by
 induction s with
 | nil=>intro x a;simp[cE] at a;subst a;simp
 | cons b r d =>
   intro x a;by_cases h:b=47
   .rw[cE] at a
    grind
   .cases c:cE r with
    | nil=>exact absurd c (pM r)
    | cons y t =>
      rw[ke h c] at a
      grind
def Em s:(cE s).length<=s.length+1:=by
 induction s with
 | nil=>simp[cE]
 | cons b r c =>
   by_cases h:b=47
   .rw[cE,aQ h];simp;omega
   .cases a:cE r with
    | nil=>exact absurd a (pM r)
    | cons y t=>rw[ke h a];rw[a] at c;simp at c⊢;omega
def Qz p:∀x∈parts p,47∉x/\x.length<=p.length:=by
 unfold parts;by_cases h:p=[]
 .grind
 .rw[aK h];exact Yd p
def fC p:(parts p).length<=p.length+1:=by
 unfold parts;by_cases h:p=[]
 .grind
 .rw[aK h];exact Em p
def kf l (h:∀x∈l,47∉x/\x≠[]):parts (aR l)=l:=by
 unfold parts;cases l with
 | nil=>rfl
 | cons x r =>
   have a:aR (x::r)≠[]:=by
    have:=(h x<|ri ..).2;cases r with
    | nil=>exact this
    | cons y r=>rw[aR];simp
   rw[aK a,GU _ aT λz b=>(h z b).1]
def Cz l (p:l.length<=1048576) (hx:(aR l).length<=1048576):pa (l,())=aa (aR l,()):=by
 unfold pa;have pre:∀a b,a≠[]->b≠[]->aR (a++b)=aR a++47::aR b:=by
  intro a;induction a with
  | nil=>intro b h;exact absurd rfl h
  | cons x r o =>
    intro b _ c;cases r with
    | nil =>
      cases b with
      | nil=>exact absurd rfl c
      | cons y b=>rfl
    | cons y r =>
      have:=o b aT c;rw[Lj,Lj,aR,aR,<-Lj,this];simp
 have mono:∀i,(aR<|l.take i).length<=(aR l).length:=by
  intro i;by_cases k:l.take i=[]
  .rw[k];simp[aR]
  .by_cases c:l.drop i=[]
   .rw[show l.take i=l from by have:=Fz i l;rw[c,tK] at this;exact this];apply bV
   .have:=pre _ _ k c;simp_all
 have step:∀i x,l[i]?=aa x->aR (l.take<|i+1)=(if 0<i then aR (l.take i)++[47] else aR (l.take i))++x:=by
  intro i x hx;have e:l.take (i+1)=l.take i++[x]:=by rw[yn,hx];rfl
  rw[e];cases i with
  | zero=>rfl
  | succ i =>
    rw[ pre _ _ (by have:=av hx;intro q;have:=congrArg List.length q;rw[dk] at this;simp only[p6] at this;omega) aT];simp[aR]
 have key:=cV (f:=qw (l,())) l.length (λi=>((aR<|l.take i,i,()),())) (λi m=>by
  obtain⟨x,d⟩:∃x,l[i]?=aa x:=⟨_,fH m⟩;have g:=step i x d;have c:=mono (i+1);rw[g] at c;unfold qw;dsimp only;rw[al m,ai];by_cases n:0<i
  .rw[aQ n] at g c;rw[iC,iC] at c;rw[aH ah,ai,aJ ah,ai,ab,ao d,ab];rw[aJ<|by simp only[gU,iC];omega,aB ah,g];rfl
  .rw[aK n] at g c;rw[iC] at c;rw[aC ah,ag,ab,ao d,ab];dsimp only;rw[aJ ah,aB ah,g];rfl) (by
  unfold qw;rw[aq,zw];rfl)
 have j:Loop _ ((([]),(0:Int),()),())=aa _:=key;rw[j,ab]
def ue(s:bb):Bool:=decide (s≠[46]/\s≠[46,46]/\1<=s.length/\s.length<=32/\0∉s)
def En s:decide (Lib.indexByte s 0<0)=decide (0∉s):=by
 rw[Ie];by_cases h:z8 s
 .rw[cU h,cU];intro a;exact h 0 a rfl
 .rw[cd h,cd];intro a;exact h λx b e=>a (e▸b)
def Ye s:sy (s,())=aa (ue s,()):=by
 unfold sy;have one:∀i:Nat,i<2->nG (s,()) ((false,i,()),())=if bt s (if i=0 then [46] else [46,46])=true then aa (.inr (1,(false,i,()),())) else aa (.inl ((false,((i+1:Nat):Int),()),())):=by
  intro i h;unfold nG;dsimp only;rw[aH ah,ai,su];rcases(by omega:i=0\/i=1) with rfl|rfl
  .rw[show([[46],[46,46]]:List bb)[0]?=aa [46] from rfl,ab,da];rfl
  .rw[show([[46],[46,46]]:List bb)[1]?=aa [46,46] from rfl,ab,da];rfl
 by_cases c:s=[46]
 .rw[aN,show((false,(0:Int),()),())=((false,((0:Nat):Int),()),()) from rfl,one 0 ah];subst c;rfl
 .rw[aN,show((false,0,()),())=((false,((0:Nat):Int),()),()) from rfl,one 0 ah,aK (by rw[aQ rfl,aY c];simp)];by_cases d:s=[46,46]
  .simp only[Option.bind];rw[aN,one 1 ah];subst d;rfl
  .simp only[Option.bind];rw[aN,one 1 ah,aK (by rw[aK ah,aY d];simp)];simp only[Option.bind];rw[aN];have e:nG (s,()) ((false,((1+1:Nat):Int),()),())=aa _:=rfl;rw[e];simp;rw[ab];rw[cO];have el:ch 1 (len s)=decide (1<=s.length):=by unfold len;apply gm.2;omega
   have f:ch _ 32=decide _:=pJ 32 s;rw[el,f];have g:dv (s,0,())=aa (Lib.indexByte s 0,()):=rfl;rw[g,ab];rw[show aL _ 0=decide _ from En s];unfold ue;by_cases a:1<=s.length
   .by_cases b:s.length<=32
    .simp[a,b,ak,ae,c,d]
    .simp[ b,ak,ae]
   .simp[a,ak,ae]
def Pn s (t:s.length<=1048576):sA (s,())=aa (ue s&&decide (47∉s),()):=by
 unfold sA;have key:=qo (f:=nH (s,())) s (λ_ i=>((false,i,()),()))
  (λi _ x=>aa (if x=0\/x=47 then .inr _ else .inl ())) (λi _=>(0,(false,i,()),())) (λ_ _=>True)
  (λu i x l m _=>by
   unfold nH;rw[al m,ao l,ab,akM];by_cases j:x=0
   .rw[cU j,aQ (.inl j)];rfl
   .rw[cd j,ab,ZT];by_cases b:x=47
    .rw[cU b,aQ (.inr b)];rfl
    .rw[cd b,aK (by simp[j,b]),aB ah];rfl)
  (λ_ _ _ _ _ _ _=>trivial)
  (λu _=>by
   unfold nH;rw[aq,ag])
  (λ_ _ _ _ _ h=>by cases h) () trivial
 have run:∀(r:bb) i,∃q,vu (λi _ x=>aa (if x=0\/x=47 then aA (1,(false,(i:Int),()),()) else az ())) (λi _=>(0,(false,i,()),())) r i ()=aa q /\
   q.1=(if 0∉r/\47∉r then 0 else 1)/\q.2.1.1=false:=by
  intro r;induction r with
  | nil=>intro i;exact⟨_,rfl,aT,rfl⟩
  | cons x r n =>
    intro i;unfold vu;by_cases h:x=0\/x=47
    .simp
     grind
    .simp;obtain⟨q,b,k,o⟩:=n (i+1)
     grind
 obtain⟨q,b,k,o⟩:=run s 0;have g:Loop _ ((false,(0:Int),()),())=aa q:=key.trans b;rw[g,ab];have el:ch 1 (len s)=decide (1<=s.length):=by unfold len;apply gm.2;omega
 have p:ch _ 32=decide _:=pJ 32 s;rw[el,p,k];unfold ue;by_cases a:0∉s/\47∉s
 .rw[aQ a,cO];by_cases c:1<=s.length
  .by_cases d:s.length<=32
   .by_cases e:s=[46]
    .simp[e,ak,bt,nt]
    .by_cases f:s=[46,46]
     .simp[f,ak,bt,nt]
     .simp[a,c,d,ak,bt,nt]
   .simp[d,ak]
  .simp[c,ak]
 .rw[aK a,gL,ag]
  grind
def QA p (j:p.length<=1048576):xK (p,())=aa ((parts p).all ue&&decide ((parts p).length<=8)&&decide (p.length<=96),()):=by
 unfold xK;rw[ig p j,ab];have e:=Qz p;have k:=fC p;generalize parts p=l at e k;have key:=qo (f:=uz (l,())) l (λ_ i=>((false,i,()),()))
  (λi _ x=>aa (if ue x=false then .inr _ else .inl ())) (λi _=>(0,(false,i,()),())) (λ_ _=>True)
  (λu i x g m _=>by
   unfold uz;have c:=e x (eG g);rw[al m,ao g,ab,Pn x ah,ab];rw[cU c.1,adp];cases h:ue x with
   | true=>rw[ aB ah];rfl
   | false=>rfl)
  (λ_ _ _ _ _ _ _=>trivial)
  (λu _=>by
   unfold uz;rw[aq,ag])
  (λ_ _ _ _ _ h=>by cases h) () trivial
 have run:∀r i,∃q,vu (λi _ x=>aa (if ue x=false then aA (1,(false,(i:Int),()),()) else az ())) (λi _=>(0,(false,i,()),())) r i ()=aa q /\
   q.1=(if r.all ue=true then 0 else 1)/\q.2.1.1=false:=by
  intro r;induction r with
  | nil=>intro i;exact⟨_,rfl,rfl,rfl⟩
  | cons x r v =>
    intro i;unfold vu;cases h:ue x with
    | false=>exact⟨_,rfl,by simp[h],rfl⟩
    | true =>
      simp_all
 obtain⟨q,n,o,s⟩:=run l 0;have b:Loop _ ((false,(0:Int),()),())=aa q:=key.trans n;rw[b,ab,o,s];have t:ch _ 8=decide _:=pJ 8 l;have d:ch _ 96=decide _:=pJ 96 p;rw[t,d];cases h:l.all ue with
 | true =>
   rw[aQ rfl,cO];by_cases a:l.length<=8<;>simp[ ak]
 | false=>rw[aK aT,gL,ag];simp
def nU(x:bb):Bool:=decide (x≠[]/\x≠[46])
def names(s:bb):List bb:=(parts s).filter nU
def nV(s:bb):Bool:=(names s).all ue&&decide (s.head?≠aa 47)&&decide ((names s).length<=8)&&decide ((aR<|names s).length<=96)
def lF(s:bb):bb×Int:=if nV s then(aR<|names s,0) else([],2)
def xc s:∀x∈names s,47∉x/\x≠[]/\x.length<=s.length:=by
 intro x a;obtain⟨b,c⟩:=zx.1 a;obtain⟨d,e⟩:=Qz s x b;simp only[nU] at c
 grind
def GV s:(names s).length<=s.length+1:=fi (TP _ _) (fC s)
def Jo s:parts (aR<|names s)=names s:=kf _ λx a=>⟨(xc s x a).1,(xc s x a).2.1⟩
def xW s:(aR<|names s).length<=s.length:=by
 have gen:∀l,(aR<|l.filter nU).length<=(aR l).length:=by
  intro l;induction l with
  | nil=>simp
  | cons x r a =>
    by_cases b:nU x=true
    .rw[ah0 b];cases c:r.filter nU with
     | nil =>
       cases r with
       | nil=>apply bV
       | cons y r=>simp only[aR,iC,iD];omega
     | cons y q =>
       rw[c] at a;cases r with
       | nil=>simp at c
       | cons z r=>simp only[aR,iC,iD] at a⊢;omega
    .rw[List.filter_cons_of_neg b];cases r with
     | nil=>simp[aR]
     | cons z r=>rw[aR];simp;omega
 have:=gen (parts s);rw[dO] at this;exact this
def VJ s:cB (s,[47],())=aa (decide<|s.head?=aa 47,()):=by
 unfold cB cu;cases s with
 | nil=>rfl
 | cons b r =>
   have a:inside 0 (len [(47:UInt8)]) (len (b::r))=true:=aO aD aD (by simp only[len,iD,p6];omega);rw[(bz<|by simp only[len,iD,p6];omega),ai,a,ai,Qq,ab,ab];simp[bt]
def QB s (A:s.length<=4096):qc (s,())=aa ((lF s).1,(lF s).2,()):=by
 unfold qc;rw[rR s ah,ab];have B:=fC s;have key:=qo (f:=oZ (parts s,())) (parts s) (λo i=>((([]),0,(),(i:Int),()),o,()))
  (λi o x=>aa (if nU x=false then .inl o else if ue x=false then .inr _ else .inl (o++[x]))) (λi o=>(0,(([]),0,(),(i:Int),()),o,())) (λi o=>o.length<=i)
  (λo i x l t u=>by
   unfold oZ;rw[al t,ai,ao l,ab];have e:nU x=(nt (bt x [])&&nt (bt x [46])):=by simp[nU,bt,nt]
   by_cases a:x=[]
   .rw[cc a,aW,ag,ai,ab];rw[ aB ah,aQ (by rw[e,cc a];rfl)];rfl
   .by_cases b:x=[46]
    .rw[aY a,aE,ai,cc b,ai,ab];rw[ aB ah,aQ (by rw[e,cc b];simp[nt])];rfl
    .rw[aY a,aE,ai,aY b,ag,Ye,ab];have g:nU x=true:=by rw[e,aY a,aY b];rfl
     cases h:ue x with
     | false =>
       rw[aE,ai,ab];rw[ aK (by rw[g];simp)];rfl
     | true =>
       rw[aW,ag,aJ cT];rw[ aB ah,aK (by rw[g];simp)];rfl)
  (λo i x C l u j=>by
   have j:=aI j;by_cases a:nU x=false
   .grind
   .rw[aK a] at j;by_cases b:ue x=false
    .grind
    .rw[aK b] at j;obtain rfl:=T4 j;simp;omega)
  (λo _=>by
   unfold oZ;rw[aq,ag])
  (λ_ _ _ _ _ h=>by cases h) [] (bV _)
 have run:∀r i o,∃q,vu (λi o x=>aa (if nU x=false then az o else if ue x=false then aA (1,(([]:bb),(2:Int),(),(i:Int),()),o,()) else az (o++[x]))) (λi o=>(0,(([]),0,(),i,()),o,())) r i o=aa q /\
   (if(r.filter nU).all ue=true then q.1=0/\q.2.2.1=o++r.filter nU else q.1=1/\q.2.1.1=[]/\q.2.1.2.1=2):=by
  intro r;induction r with
  | nil=>intro i o;exact⟨_,rfl,aT⟩
  | cons x r v =>
    intro i o;unfold vu;cases e:nU x with
    | false =>
      simp_all
    | true =>
      rw[ah0 e];cases l:ue x with
      | false=>exact⟨_,rfl,by simp[l]⟩
      | true =>
        obtain⟨q,n,d⟩:=v (i+1) (o++[x])
        grind
 obtain⟨q,n,d⟩:=run _ 0 [];have k:Loop _ ((([]),(0:Int),(),(0:Int),()),_)=aa q:=key.trans n;rw[k,ab];rw[show(parts s).filter nU=names s from rfl,Lk] at d;have D:=xW s;have w:=GV s;unfold lF nV;cases p:(names s).all ue with
 | false =>
   rw[p] at d;rw[d.1,d.2.1,d.2.2];rfl
 | true =>
   rw[p] at d;rw[d.1,cO,d.2];have y:kS (names s,[47],())=aa (aR<|names s,()):=by
    show(EZ (names s) [47]).map _=_
    unfold EZ;rw[aeW,aQ ⟨ah,ah⟩];rfl
   rw[y,ab,VJ,ab];have z:aL 8 (len<|names s)=!decide ((names s).length<=8):=by
    by_cases h:(names s).length<=8
    .rw[aC<|by simp only[len];omega];simp[h]
    .rw[aH<|by simp only[len];omega];simp[h]
   have m:aL 96 (len<|aR<|names s)=!decide ((aR<|names s).length<=96):=by
    by_cases h:(aR<|names s).length<=96
    .rw[aC<|by simp only[len];omega];simp[h]
    .rw[aH<|by simp only[len];omega];simp[h]
   rw[z,m];by_cases a:s.head?=aa 47
   .simp[a,ak,nt]
   .by_cases b:(names s).length<=8
    .by_cases c:(aR<|names s).length<=96<;>simp[a,b,c,ak,nt]
    .simp[ b,ak,nt]
def S1 s (v:s.length<=4096):uA (s,())=aa ((lF s).1,(lF s).2,()):=by
 unfold uA;rw[ig s ah,ab];have w:=fC s;have key:=qo (f:=kY (parts s,())) (parts s) (λo i=>(((),i,()),o,()))
  (λi o x=>aa (.inl<|if nU x=true then o++[x] else o)) (λi o=>(((),(i:Int),()),o,())) (λi o=>o.length<=i)
  (λo i x g k l=>by
   unfold kY;rw[al k,ai,ao g,ab,ab];have e:nU x=(nt (bt x [])&&nt (bt x [46])):=by simp[nU,bt,nt]
   by_cases a:x=[]
   .rw[cc a,aB ah,aK (by rw[e,cc a];simp[nt])];rfl
   .by_cases b:x=[46]
    .rw[aY a,aE,ai,cc b,aB ah,aK (by rw[e,cc b];simp[nt])];rfl
    .rw[aY a,aE,ai,aY b,ab,ab,aJ cT,aB ah,aQ (by rw[e,aY a,aY b];rfl)];rfl)
  (λo i x y g l m=>by
   obtain rfl:=T4 (aI m);by_cases a:nU x=true
   .grind
   .rw[aK a];omega)
  (λo _=>by
   unfold kY;rw[aq];rfl)
  (λ_ _ _ _ _ h=>by cases h) [] (bV _)
 have run:∀r i o,∃j,vu (λi o x=>aa (az<|if nU x=true then o++[x] else o)) (λi o=>(((),(i:Int),()),o,())) r i o=aa (((),j,()),o++r.filter nU,()):=by
  intro r;induction r with
  | nil=>intro i o;exact⟨i,by simp[vu]⟩
  | cons x r n =>
    intro i o;unfold vu;by_cases e:nU x=true
    .simp only;obtain⟨j,h⟩:=n (i+1) (o++[x])
     grind
    .simp_all
 obtain⟨j,p⟩:=run _ 0 [];have d:Loop (kY (parts s,())) (((),0,()),([]),())=aa (((),j,()),names s,()):=by
  have:=key.trans p;exact this
 have z:=xW s;have q:=GV s;rw[d,ab];dsimp only;rw[Cz _ ah ah,ab];have t:ae (ak (nt<|bt s []) (ae (idx s 0) λu=>aa (aG (u8 u) 47))<|some false)=λ(f:Bool->Option (bb×Int×aj))=>f (decide<|s.head?=aa 47):=by
  funext f;cases s with
  | nil=>rfl
  | cons b r =>
    rw[aY aT,aE,ai,show idx _ 0=aa b from rfl,ab,ZT,ab];simp_all
 rw[t];dsimp only;rw[QA _ ah,Jo];unfold lF nV;by_cases a:s.head?=aa 47
 .simp[a,ak,nt,ae]
 .cases A:(names s).all ue with
  | false=>simp[ ak,nt,ae]
  | true =>
    by_cases b:(names s).length<=8
    .by_cases c:(aR<|names s).length<=96<;>simp[a,b,c,ak,nt,ae]
    .simp[ b,ak,nt,ae]
end Go.Ge
