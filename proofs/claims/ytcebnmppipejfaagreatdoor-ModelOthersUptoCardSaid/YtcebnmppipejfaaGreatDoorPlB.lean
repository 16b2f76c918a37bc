import Derived.Test.YtcebnmppipejfaaGreatDoorPlA
set_option linter.unusedSectionVars false
set_option linter.unusedVariables false
set_option linter.unusedSimpArgs false
set_option linter.defProp false
open Option renaming some->ab,none->ah
open Go.IntKind (i64)
namespace Go.Ge
variable [Lp]
open Go.Lib
def X7(l:List Tx):(vB l).Pairwise (λa b=>a<=b):=by
 have:=List.pairwise_mergeSort (le:=λx y=>decide (x<=y)) (λa b c h k=>by simp at h k⊢;exact List.le_trans h k) (λa b=>by simp;exact List.le_total a b) l;unfold vB
 grind
def Vh(l:List Tx):(vB l).Nodup↔l.Nodup:=(List.mergeSort_perm l _).nodup_iff
def Vi{m:List Tx}{j} a:keeps m.toArray j=decide (j=0\/m[j]≠m[j-1]'ai):=by
 unfold keeps
 grind
def Ss(m:List Tx)(q:m.Pairwise λa b=>a<=b):(compact m).length<m.length↔¬m.Nodup:=by
 unfold compact compactUpTo;rw[ux];have:((List.range m.length).filter<|keeps m.toArray).length<m.length↔∃x,x∈List.range m.length/\¬keeps m.toArray x=true:=by
  have:=List.length_filter_lt_length_iff_exists (p:=keeps m.toArray) (l:=List.range m.length)
  grind
 rw[this];constructor
 .rintro⟨j,c,g⟩ f;have e:=Ll.1 c;rw[Vi e] at g;simp at g;have r:=Dr.1 f (j-1) j ai e ai
  grind
 .intro f;by_cases h:∃i j,∃(d:i<j) (c:j<m.length),m[i]'ai=m[j]
  .obtain⟨i,j,d,c,k⟩:=h;refine⟨j,Ll.2 c,?_⟩;rw[Vi c];have le:=λa b n o=>Dr.1 q a b ai o n;have n:m[j-1]'ai<=m[j]:=le _ j ai c;have o:m[j]<=m[j-1]'ai:=by
    grind
   grind
  .exfalso;apply f;refine Dr.2 λi j s c d k=>h ⟨i,j,d,c,k⟩
def r8(l:List Tx):Bool:=l.all iv&&decide l.Nodup&&decide (l.length<=4)
def jd(l:List Tx):Int:=if r8 l=true then 0 else 1
def rh(l:List Tx)(b:l.length<=4294967296):fD (l,())=ab (jd l,()):=by
 unfold fD;have d:nt (ba 4<|len l)=decide (l.length<=4):=by
  unfold nt ba len
  grind
 have e:ba (len<|compact<|vB l) (len l)=!decide l.Nodup:=by
  have h:=Ss _ (X7 l);rw[Qt,Vh] at h;unfold ba len
  grind
 have g:en l ()=ab (vB l):=by
  unfold en;rw[cN b];rfl
 rw[cN b,g];rcases iK (f:=oY (l,())) l (λi=>((0,i,()),())) (λ_ x=>!iv x) (λi x=>(1,(i,i,()),())) _ b (λi x a c j=>by
  unfold oY;rw[aq c,ae,au a,aa,Gm,aa,Z1,ew,j];by_cases h:iv x=true<;>simp[h]) (by unfold oY;rw[aw];rfl) with ⟨i,x,a,m,n,h⟩|⟨o,h⟩
 .rw[h];have:l.all iv=false:=by
   grind
  have k:jd l=1:=by unfold jd r8;rw[this];rfl
  rw[k];show ao (ao _ _ true) _ _=_
  cases nt _<;>rfl
 .rw[h];have:l.all iv=true:=by
   rw[vL];intro x a;obtain⟨i,c⟩:=bz.1 a
   grind
  show ao (ao _ _ true) _ _=_
  rw[d,e];unfold jd r8;rw[this];cases decide l.Nodup<;>cases decide (l.length<=4)<;>rfl
def Ai(l:List Tx)(D:l.length<=4294967296)(E:∀x∈l,x.length<=4294967296):ng (l,())=ab (r8 l,()):=by
 unfold ng;have inner:∀r (i:Nat) x,l[i]?=ab x->(∃j y,j<i/\l[j]?=ab y/\y=x/\∃q,Loop (iN (l,()) ((r,(i:Int),()),())) ((r,(0:Int),()),())=ab (1,(false,q),()))\/((∀j y,j<i->l[j]?=ab y->y≠x)/\∃q,Loop (iN (l,()) ((r,(i:Int),()),())) ((r,0,()),())=ab (0,(r,q),())):=by
  intro r i x a;have hi:=aF a;have g:min i l.length=i:=ai;rcases rS (f:=iN (l,()) ((r,i,()),())) l i (λj=>((r,j,()),())) (λ_ y=>decide (y=x)) (λj y=>(1,(false,j,()),())) _ ai (λj y m p b s=>by
   unfold iN;rw[aO<|show(j:Int)<i by omega,ae,au m,aa,au a,aa,ew,s];by_cases h:y=x<;>simp[bH,h]) (by
   unfold iN;rw[g,aJ (sF _),af]) with ⟨j,y,b,m,e,_,h⟩|⟨B,h⟩
  .grind
  .grind
 let bad:=λi x=>!iv x||(l.take i).contains x
 have c:∀i x,l[i]?=ab x->((l.take i).contains x=true↔∃j y,j<i/\l[j]?=ab y/\y=x):=by
  intro i x a;simp only[List.contains_eq_mem,uv];rw[bz];constructor
  .grind
  .rintro⟨j,y,b,m,rfl⟩;exact⟨j,by rw[jP,aX b];exact m⟩
 rcases iK (f:=oZ (l,())) l (λi=>((false,i,()),())) bad (λi x=>(1,(false,i,()),())) _ D (λi x a hi s=>by
  unfold oZ;rw[aq hi,au a,aa,Bb x (E x<|bz.2 ⟨i,a⟩),aa];cases C:iv x with
  | false=>simp[bad,C,nt,ao]
  | true =>
    rcases inner false i x a with ⟨j,y,n,o,t,q,h⟩|⟨B,q,h⟩
    .have d:=(c i x a).2 ⟨j,y,n,o,t⟩;rw[h];show ab _=_
     grind
    .have d:(l.take i).contains x=false:=by
      grind
     rw[h,s];simp only[bad,C,d];rfl) (by unfold oZ;rw[aw];rfl) with ⟨i,x,a,e,p,h⟩|⟨B,h⟩
 .rw[h];have:r8 l=false:=by
   unfold r8;simp only[bad,Fs] at e;rcases e with e|e
   .grind
   .have:¬l.Nodup:=λu=>by
     obtain⟨j,y,n,o,t⟩:=(c i x a).1 e;obtain⟨v,k⟩:=hR.1 a;obtain⟨w,z⟩:=hR.1 o;exact Dr.1 u j i w v n (by rw[z,k,t])
    grind
  rw[this];rfl
 .rw[h];have n:l.all iv=true:=by
   rw[vL];intro x A;obtain⟨i,hi⟩:=bz.1 A
   grind
  have o:l.Nodup:=by
   refine Dr.2 λj i p hi b F=>?_;have G:=(c i l[i]<|ik hi).2 ⟨j,l[j],b,ik p,F⟩
   grind
  show ab _=_
  unfold r8;have:cu (len l) 4=decide (l.length<=4):=by unfold len;apply gX.2;omega
  grind
end Go.Ge
namespace Go.Ge
variable [Lp]
def aeP(a:List Tx)(b:Int)(i:Nat)(x:Nm):Bool:=decide ((i:Int)≠b)&&x.2.1.any (λs=>decide (s∈a))
def Su(l:List Nm)(a:List Tx)(b:Int):Bool:=l.zipIdx.any λp=>aeP a b p.2 p.1
def mH(l:List Nm)(id:Tx)(a:List Tx):Int:=if jd a≠0 then jd a else if Su l a (MH l id)=true then 8 else 0
def Qz{l given own}:Su l given own=true↔∃i x,l[i]?=ab x/\aeP given own i x=true:=by
 unfold Su;rw[P6];constructor
 .rintro⟨p,a,h⟩;obtain⟨x,i⟩:=p;exact⟨i,x,ah6.1 a,h⟩
 .rintro⟨i,x,b,h⟩;exact⟨(x,i),ah6.2 b,h⟩
def X8{l given own}(h:∀i x,l[i]?=ab x->aeP given own i x=false):Su l given own=false:=by
 rw[<-Bool.not_eq_true,Qz];rintro⟨i,x,a,k⟩;rw[h i x a] at k;cases k
def oh l (id:Tx) (given:List Tx) (g:Small l) (p:given.length<=4294967296):gu (l,id,given,())=ab (mH l id given,()):=by
 unfold gu mH;rw[rh given p,aa];by_cases j:jd given=0
 .rw[j,MI l id g.1,aa];generalize MH l id=own;have inner:∀y,y.2.1.length<=4294967296->(y.2.1.any (λs=>decide (s∈given))=true/\∃(k:Nat) (q:Int×al),Loop (jJ y) ((0,0,()),given,())=ab (1,((k:Int),q),given,())) \/
    (y.2.1.any (λs=>decide (s∈given))=false/\∃q,Loop (jJ y) ((0,0,()),given,())=ab (0,q,given,())):=by
   intro y r;rcases iK (f:=jJ y) y.2.1 (λi=>((0,i,()),given,())) (λ_ s=>decide (s∈given)) (λi s=>(1,(i,i,()),given,())) _ r (λi s a b c=>by
    unfold jJ;rw[aq b,ae,au a,aa,wZ given s p,aa,ew,c];by_cases h:s∈given<;>simp[h]) (by unfold jJ;rw[aw];rfl) with ⟨i,s,a,m,t,h⟩|⟨n,h⟩
   .exact .inl ⟨P6.2 ⟨s,bz.2 ⟨i,a⟩,m⟩,i,_,h⟩
   .refine .inr ⟨?_,_,h⟩;rw[List.any_eq_false];intro s a;obtain⟨i,b⟩:=bz.1 a;rw[n i s b];simp
  rcases iK (f:=qs (l,_) (own,())) l (λi=>((0,i,()),given,())) (aeP given own) (λi x=>(1,(8,i,()),given,())) _ g.1 (λi x d b c=>by
   unfold qs;rw[aq b,ae,au d,aa];unfold aeP;by_cases e:i=own
   .rw[aE e,aG,af,c];simp[e]
   .rw[ax e,aA,ae];rcases inner x (g.2 x<|bz.2 ⟨i,d⟩) with ⟨o,k,q,h⟩|⟨o,q,h⟩
    .rw[h,aa,o];dsimp only;rw[fv,af,bO ai,ae];simp[e]
    .rw[h,aa,o];rw[b9,ae,show cu 0 (-1)=false from rfl,af,c];simp) (by unfold qs;rw[aw];rfl) with ⟨i,x,d,m,t,h⟩|⟨n,h⟩
  .rw[h,aX (Qz.2 ⟨i,x,d,m⟩)];rfl
  .rw[h,X8 n];rfl
 .rw[ax j,aA,ae,aX j]
def w8(l:List Tx)(h:l.length<=4294967296):bc (l,())=ab (l,()):=by
 unfold bc;rw[cN h];rfl
def Bc(x y:List Tx)(l:x.length<=4294967296):eW (x,y,())=ab (decide<|x=y,()):=by
 unfold eW;rw[Vc];by_cases g:x.length=y.length
 .rw[dD g];rcases iK (f:=j0 (x,y,())) x (λi=>((false,i,()),())) (λi a=>decide (y[i]?≠ab a)) (λi a=>(1,(false,i,()),())) _ l (λi a j m c=>by
   unfold j0;have b:i<y.length:=ai;rw[aq m,ae,aq b,ae,au j,aa,au (ik b),aa,Z1,ew,c,ik b];by_cases h:a=y[i]
   .simp[bH,h]
   .have n:¬y[i]=a:=λe=>h e.symm;simp[bH,h,n]) (by unfold j0;rw[aw];rfl) with ⟨i,a,j,k,p,h⟩|⟨o,h⟩
  .rw[h];have:x≠y:=λe=>by subst e;rw[j] at k;simp at k
   rw[cL this];rfl
  .rw[h];have:x=y:=by
    apply Ld;intro i;cases d:x[i]? with
    | none =>
      have:=aia.1 d;exact(aia.2 ai).symm
    | some a =>
      have:=o i a d;simp at this;exact this.symm
   rw[dD this];rfl
 .rw[cL g,aA,ae];have:x≠y:=λe=>g (by rw[e]);rw[cL this]
def r9{α}{n:Nat}{l:List α}{c:Int}(a:c=n):ao (ba ((min n l.length:Nat):Int)<|len l) (ba ((min n l.length:Nat):Int) c) false=false:=by
 subst a;by_cases h:l.length<=n
 .rw[Nat.min_eq_right h,aw,af]
 .rw[yx ai,aJ (sF _)];cases ba n _<;>rfl
def gC{α}{l:List α}{n:Nat}{c:Int}(a:c=n):cu (len l) c=decide (l.length<=n):=by subst a;exact Ah n l
def gD{α}{l:List α}{n:Nat}{c:Int}(a:c=n):ba c (len l)=decide (n<l.length):=by subst a;exact Gg n l
def sa(l:List Tx):Prop:=l.length<=8/\∀x∈l,x.length<=100
def Sv(l:List Tx):∃b,oX (l,())=ab (b,())/\(b=true->sa l):=by
 unfold oX;rcases rS (f:=kM (l,())) l 8 (λi=>((false,i,()),())) (λ_ x=>decide (100<x.length)) (λi x=>(1,(false,i,()),())) (λn=>_) ai (λi x d a g j=>by
  unfold kM;dsimp only;rw[aq a,ae,aO ai,ae,au d,aa,gD (c:=100) rfl,ew,j];by_cases h:100<x.length<;>simp[h]) (by unfold kM;rw[r9 (c:=8) rfl,af]) with ⟨i,x,a,d,o,_,h⟩|⟨k,h⟩
 .rw[h];exact⟨false,rfl,λh=>by cases h⟩
 .rw[h];refine⟨_,rfl,λe=>?_⟩;dsimp only at e;rw[gC (n:=8) (c:=8) rfl] at e;have m:=iq e;refine⟨m,λx d=>?_⟩;obtain⟨i,a⟩:=bz.1 d;have:=k i x (by have:=aF a;omega) a;simpa using this
def akF(l:List Nm):Prop:=l.length<=40/\∀x∈l,x.1.length<=100/\sa x.2.1
def sa.small{l}(h:sa l):l.length<=4294967296:=by have:=h.1;omega
def sa.each{l}(h:sa l):∀x∈l,x.length<=4294967296:=λx a=>by have:=h.2 x a;omega
def akF.small{l}(h:akF l):Small l:=⟨by have:=h.1;omega,λx a=>by have:=(h.2 x a).2.1;omega⟩
def id1:Tx:=[48,48,48,48,48,49]
abbrev Item:=Tx×Tx×Tx×al
abbrev aD:=Tx×Tx×List Tx×Tx×Int×Int×Bool×al
abbrev bN:=Tx×List Tx×Tx×Tx×List Item×al
abbrev eP:=Tx×List Tx×Tx×Tx×Tx×List Item×al
abbrev Bd:=Int×List aD×List bN×List eP×al
def HL(l:List Tx):∃b,lS (l,())=ab (b,())/\(b=true->sa l):=by
 unfold lS;rcases rS (f:=r5 (l,())) l 8 (λi=>((false,i,()),())) (λ_ x=>decide (100<x.length)) (λi x=>(1,(false,i,()),())) (λn=>_) ai (λi x a d g j=>by
  unfold r5;rw[aq d,ae,aO (show(i:Int)<8 by omega),ae,au a,aa,gD (c:=100) rfl,ew,j];by_cases h:100<x.length<;>simp[h]) (by unfold r5;rw[r9 (c:=8) rfl,af]) with ⟨i,x,d,a,k,_,h⟩|⟨m,h⟩
 .rw[h];exact⟨false,rfl,λh=>by cases h⟩
 .rw[h];refine⟨_,rfl,λe=>?_⟩;rw[gC (c:=8) rfl] at e;refine⟨(iq e),λx a=>?_⟩;obtain⟨i,d⟩:=bz.1 a
  grind
def abx(l:List Item):∃b,eG (l,())=ab (b,()):=by
 unfold eG;rcases rS (f:=eT (l,())) l 8 (λi=>((false,i,()),())) (λ_ x=>decide (100<x.1.length)||decide (200<x.2.2.1.length)) (λi x=>(1,(false,i,()),())) (λn=>_) ai (λi x a d e g=>by
  unfold eT;rw[aq d,aO (show(i:Int)<8 by omega),au a,aa,gD (c:=100) rfl,aa,gD (c:=200) rfl,g];by_cases h:100<x.1.length
  .simp[h,ao,nt,ag]
  .by_cases j:200<x.2.2.1.length<;>simp[h,j,ao,nt,ag]) (by unfold eT;rw[r9 (c:=8) rfl,af]) with ⟨i,x,d,a,k,_,h⟩|⟨m,h⟩
 .rw[h];exact⟨false,rfl⟩
 .rw[h];exact⟨_,rfl⟩
structure FewB (b:Bd):Prop where
 ll:b.2.1.length<=40
 ln:∀x∈b.2.1,sa x.2.2.1
 il:b.2.2.1.length<=40
 pJ:∀x∈b.2.2.1,sa x.2.1
 bl:b.2.2.2.1.length<=40
 bn:∀x∈b.2.2.2.1,sa x.2.1
def aeQ(b:Bd):∃c,rf (b,())=ab (c,())/\(c=true->FewB b):=by
 obtain⟨a,g⟩:∃a,∀l,lS (l,())=ab (a l,())/\(a l=true->sa l):=⟨λl=>Classical.choose _,λl=>TN (HL l)⟩;obtain⟨e,j⟩:∃a,∀l,eG (l,())=ab (a l,()):=⟨λl=>Classical.choose _,λl=>TN (abx l)⟩;obtain⟨n,p,r,v,u⟩:=b;unfold rf;rcases rS (f:=ja ((n,p,_),())) p 40 (λi=>((false,i,()),())) (λ_ x=>!a x.2.2.1) _ (λn=>_) ai (λi x d k s t=>by
  unfold ja;rw[aq k,aO (show(i:Int)<40 by omega),ae,au d,aa,(g _).1,aa,t];cases a x.2.2.1<;>rfl) (by unfold ja;rw[r9 (c:=40) rfl,af]) with ⟨i,x,k,d,y,_,h⟩|⟨z,h⟩
 .rw[h];exact⟨false,rfl,λh=>by cases h⟩
 rw[h,aa];rcases rS (f:=jb ((n,p,r,_),())) r 40 (λi=>((false,i,()),())) (λ_ x=>!a x.2.1||decide (200<x.2.2.2.1.length)||!e x.2.2.2.2.1) _ (λn=>_) ai (λi x d k s t=>by
  unfold jb;rw[aq k,aO (show(i:Int)<40 by omega),ae,au d,aa,(g _).1,aa,aa,aa,gD (n:=200) (c:=200) rfl,j,aa,t];cases a x.2.1 with
  | false=>rfl
  | true =>
    by_cases m:200<x.2.2.2.1.length
    .simp[m,ao,nt,ag]
    .cases A:e x.2.2.2.2.1<;>simp[m,ao,nt,ag]) (by unfold jb;rw[r9 (c:=40) rfl,af]) with ⟨i,x,k,d,y,_,h⟩|⟨B,h⟩
 .rw[h];exact⟨false,rfl,λh=>by cases h⟩
 rw[h,aa];rcases rS (f:=jc ((n,p,r,v,u),())) v 40 (λi=>((false,i,()),())) (λ_ x=>!a x.2.1||decide (200<x.2.2.2.2.1.length)||!e x.2.2.2.2.2.1) _ (λn=>_) ai (λi x d k s t=>by
  unfold jc;rw[aq k,aO (show(i:Int)<40 by omega),au d,aa,(g _).1,aa,aa,aa,gD (c:=200) rfl,j,t];cases a x.2.1 with
  | false=>rfl
  | true =>
    by_cases m:200<x.2.2.2.2.1.length
    .simp[m,ao,nt,ag]
    .cases A:e x.2.2.2.2.2.1<;>simp[m,ao,nt,ag]) (by unfold jc;rw[r9 (c:=40) rfl,af]) with ⟨i,x,k,d,y,_,h⟩|⟨C,h⟩
 .rw[h];exact⟨false,rfl,λh=>by cases h⟩
 rw[h];refine⟨_,rfl,λo=>?_⟩;rw[gC (c:=40) rfl,gC (c:=40) rfl,gC (c:=40) rfl] at o;have w:p.length<=40:=by
  by_cases q:p.length<=40
  .exact q
  .rw[cL q] at o;cases o
 have m:r.length<=40:=by
  by_cases q:r.length<=40
  .exact q
  .rw[dD w,cL q] at o;cases o
 have D:v.length<=40:=by
  by_cases q:v.length<=40
  .exact q
  .rw[dD w,dD m,cL q] at o;cases o
 refine⟨w,λx d=>?_,m,λx d=>?_,D,λx d=>?_⟩
 .dsimp only at d;obtain⟨i,k⟩:=bz.1 d
  grind
 .dsimp only at d;obtain⟨i,k⟩:=bz.1 d
  grind
 .dsimp only at d;obtain⟨i,k⟩:=bz.1 d
  grind
def ofL(x:aD):List Nm:=if x.2.2.2.2.2.2.1=true then [(x.1,x.2.2.1,())] else []
def ofI(x:bN):List Nm:=[(x.1,x.2.1,())]
def ofB(x:eP):List Nm:=[(x.1,x.2.1,())]
def ofV(a:Int)(b:Bd):List Nm:=if a=1 then b.2.2.2.1.flatMap ofB else if a=2 then b.2.2.1.flatMap ofI else if a=3 then b.2.1.flatMap ofL else []
def lT{b c:Type}{g:b->List c}(d:∀x,(g x).length<=1)(l:List b):(l.flatMap g).length<=l.length:=by
 induction l with
 | nil=>simp
 | cons a r e=>rw[Zv,jB,jC];have:=d a;omega
def pa{a b:Type}{g:a->List b}(c:∀x,(g x).length<=1)(l:List a) i:((l.take i).flatMap g).length<=l.length:=by
 have:=lT c (l.take i)
 grind
def Sw x:(ofL x).length<=1:=by unfold ofL;split<;>simp
def KO x:(ofI x).length<=1:=by simp[ofI]
def Sx x:(ofB x).length<=1:=by simp[ofB]
def HM{α}{s:List α}{x:α}(h:s.length<=1000):fits (plus (len s)<|len [x])=true:=bo jA
def vT kind b (a:FewB b):qN (kind,b,())=ab (ofV kind b,()):=by
 unfold qN ofV;by_cases g:kind=1
 .rw[aX g,aE g,ae];have:=rT (f:=tT (kind,b,())) b.2.2.2.1 (λs i=>((i,()),(),s,())) ofB _ (by have:=a.bl;omega) (λi x c d e=>by
   unfold tT;dsimp only;have k:=pa Sx b.2.2.2.1 i;rw[aq d,au c,aa,w8 _ (a.bn x<|bz.2 ⟨i,c⟩).small,aa,HM (by have:=a.bl;omega),e];rfl) (by unfold tT;rw[aw];rfl)
  rw[this,aa,aa]
 .rw[aR g,ax g,af];by_cases h:kind=2
  .rw[aX h,aE h,ae];have:=rT (f:=tU (kind,b,())) b.2.2.1 (λs i=>((i,()),(),s,())) ofI _ (by have:=a.il;omega) (λi x c d e=>by
    unfold tU;dsimp only;have k:=pa KO b.2.2.1 i;rw[aq d,au c,aa,w8 _ (a.pJ x<|bz.2 ⟨i,c⟩).small,aa,HM (by have:=a.il;omega),e];rfl) (by unfold tU;rw[aw];rfl)
   rw[this,aa,aa,aa]
  .rw[aR h,ax h,af];by_cases j:kind=3
   .rw[aX j,aE j,ae];have:=rT (f:=tV (kind,b,())) b.2.1 (λs i=>((i,()),(),s,())) ofL _ (by have:=a.ll;omega) (λi x c d e=>by
     unfold tV;dsimp only;have k:=pa Sw b.2.1 i;rw[aq d,au c,aa,w8 _ (a.ln x<|bz.2 ⟨i,c⟩).small,aa,HM (by have:=a.ll;omega),e];unfold ofL;cases x.2.2.2.2.2.2.1 with
     | false=>simp[ao,ag,dq]
     | true=>rfl) (by unfold tV;rw[aw];rfl)
    rw[this,aa,aa,aa,aa]
   .rw[aR j,ax j];rfl
def Db kind b (c:FewB b):Small (ofV kind b):=by
 unfold ofV;split
 .refine⟨by have:=lT Sx b.2.2.2.1;have:=c.bl;omega,λx a=>?_⟩;rw[Lh] at a;obtain⟨y,d,a⟩:=a;simp only[ofB,zO] at a;subst a;exact(c.bn y d).small
 .split
  .refine⟨by have:=lT KO b.2.2.1;have:=c.il;omega,λx a=>?_⟩;rw[Lh] at a;obtain⟨y,d,a⟩:=a;simp only[ofI,zO] at a;subst a;exact(c.pJ y d).small
  .split
   .refine⟨by have:=lT Sw b.2.1;have:=c.ll;omega,λx a=>?_⟩;rw[Lh] at a;obtain⟨y,d,a⟩:=a;unfold ofL at a;split at a
    .simp at a;subst a;exact(c.ln y d).small
    .cases a
   .exact⟨bb,λx a=>by cases a⟩
def EO(n x:Int):Int:=zM .u32 (mz .u32 x n) (nR .u32 x<|32-n)
def pZ{n m}(h:jR .u64 (kE .u64<|da .i64 0 n) 31=m)(a:ba m 0=false)(b:da .u64 32 m=n)(c:ba n 0=false)(d:32-n=m) x:cq (x,n,())=ab (EO n x,()):=by
 unfold cq kr EO;rw[h,a,af,b,c,af,aa,d,X2]
def Aj{n}(a:ba n 0=false)(b:da .i64 32 n=32-n)(c:ba (32-n) 0=false) x:cw (x,n,())=ab (EO n x,()):=by
 unfold cw EO;rw[a,af,b,c,af]
def r7 x:cq (x,7,())=ab (EO 7 x,()):=pZ (m:=25) aK aK aK aK aK x
def r18 x:cq (x,18,())=ab (EO 18 x,()):=pZ (m:=14) aK aK aK aK aK x
def r17 x:cq (x,17,())=ab (EO 17 x,()):=pZ (m:=15) aK aK aK aK aK x
def r19 x:cq (x,19,())=ab (EO 19 x,()):=pZ (m:=13) aK aK aK aK aK x
def r6 x:cq (x,6,())=ab (EO 6 x,()):=pZ (m:=26) aK aK aK aK aK x
def r11 x:cq (x,11,())=ab (EO 11 x,()):=pZ (m:=21) aK aK aK aK aK x
def r25 x:cq (x,25,())=ab (EO 25 x,()):=pZ (m:=7) aK aK aK aK aK x
def r2 x:cq (x,2,())=ab (EO 2 x,()):=pZ (m:=30) aK aK aK aK aK x
def r13 x:cq (x,13,())=ab (EO 13 x,()):=pZ (m:=19) aK aK aK aK aK x
def r22 x:cq (x,22,())=ab (EO 22 x,()):=pZ (m:=10) aK aK aK aK aK x
def t7 x:cw (x,7,())=ab (EO 7 x,()):=Aj aK aK aK x
def t18 x:cw (x,18,())=ab (EO 18 x,()):=Aj aK aK aK x
def t17 x:cw (x,17,())=ab (EO 17 x,()):=Aj aK aK aK x
def t19 x:cw (x,19,())=ab (EO 19 x,()):=Aj aK aK aK x
def t11 x:cw (x,11,())=ab (EO 11 x,()):=Aj aK aK aK x
def t2 x:cw (x,2,())=ab (EO 2 x,()):=Aj aK aK aK x
def t13 x:cw (x,13,())=ab (EO 13 x,()):=Aj aK aK aK x
def word(b:List Int)(t:Nat):Int :=
 zM .u32 (zM .u32 (zM .u32 (nR .u32 (kE .u32<|b.getD (4*t) 0) 24)<|nR .u32 (kE .u32<|b.getD (4*t+1) 0) 16)<|nR .u32 (kE .u32<|b.getD (4*t+2) 0) 8) (kE .u32<|b.getD (4*t+3) 0)
def gE(n:Nat):List Int:=List.replicate n 0
def Ca(b:List Int):Nat->List Int
 | 0=>gE 64
 | t+1=>(Ca b t).set t (word b t)
def uO b t:(Ca b t).length=64:=by
 induction t with
 | zero=>rfl
 | succ t a=>simp[Ca,a]
def aby b:∀t j,t<=j->j<64->(Ca b t).getD j 0=0:=by
 intro t;induction t with
 | zero =>
   intro j _ d;show(List.replicate 64 _).getD j 0=0
   grind
 | succ t a =>
   intro j e c;have:=a j ai c;simp only[Ca] at this⊢
   grind
def akG(p:List Int)(t:Nat):Int :=
 aH .u32 (aH .u32 (aH .u32 (gM .u32 (gM .u32 (EO 17<|p.getD (t-2) 0)<|EO 19<|p.getD (t-2) 0)<|mz .u32 (p.getD (t-2) 0) 10)<|p.getD (t-7) 0)
  (gM .u32 (gM .u32 (EO 7<|p.getD (t-15) 0)<|EO 18<|p.getD (t-15) 0)<|mz .u32 (p.getD (t-15) 0) 3)) (p.getD (t-16) 0)
def J9(l:List Int):Nat->List Int
 | 0=>l
 | k+1=>(J9 l k).set (16+k) (akG (J9 l k)<|16+k)
def EP l k:(J9 l k).length=l.length:=by
 induction k with
 | zero=>rfl
 | succ k a=>simp[J9,a]
def Ak(b:List Int):List Int:=J9 (Ca b 16) 48
def Gn b:(Ak b).length=64:=by unfold Ak;rw[EP,uO]
def four{t:Nat}(a:t<64):jD .i64 4 t=((4*t:Nat):Int):=by rw[B7 ai ai];omega
def Vj b (l:b.length=64) (t:Nat) (m:t<16) w (d:w.length=64) (n:w.getD t 0=0) u v y :
  Loop (jW (b,u) ((t,v),y)) ((0,()),w,())=ab ((4,()),w.set t<|word b t,()):=by
 let a:=λj=>match j with
  | 0=>0
  | 1=>zM .u32 (nR .u32 0 8) (kE .u32<|b.getD (4*t) 0)
  | 2=>zM .u32 (nR .u32 (zM .u32 (nR .u32 0 8)<|kE .u32<|b.getD (4*t) 0) 8) (kE .u32<|b.getD (4*t+1) 0)
  | 3=>zM .u32 (nR .u32 (zM .u32 (nR .u32 (zM .u32 (nR .u32 0 8)<|kE .u32<|b.getD (4*t) 0) 8)<|kE .u32<|b.getD (4*t+1) 0) 8) (kE .u32<|b.getD (4*t+2) 0)
  | _=>word b t
 have c:∀j,j<4->a (j+1)=zM .u32 (nR .u32 (a j) 8) (kE .u32<|b.getD (4*t+j) 0):=by
  intro j e;rcases(by omega:j=0\/j=1\/j=2\/j=3) with rfl|rfl|rfl|rfl
  .rfl
  .rfl
  .rfl
  .exact(ag2 _ _ _ _).symm
 have h:w=w.set t 0:=by
  apply Ld
  grind
 have:=dh (f:=jW (b,u) ((t,v),y)) 4 (λj=>((j,()),w.set t<|a j,())) (λj e=>by
  unfold jW;dsimp only;rw[four ai,e8 ai ai];have g:minus (((4*t:Nat):Int)+4) ((4*t:Nat):Int)=4:=by unfold minus;omega
  rw[ aO ai,ae,aM ai ai,ae,aM ai ai];have o:(w.set t<|a j).length=64:=by simp[d]
  have i:(w.set t<|a j).getD t 0=a j:=by simp[ d,(by omega:t<64)]
  rw[nu b 0 (k:=4*t+j) (by unfold plus;omega) ai,aa,ae,fH _ 0 ai,i,aa,aJ aK,af,ae,aa,aa,aa,jV,aL ai,uK,List.set_set,c j e])
  (by
   unfold jW;rw[four ai,e8 ai ai];have g:minus (((4*t:Nat):Int)+4) ((4*t:Nat):Int)=4:=by unfold minus;omega
   rw[g];rfl)
 grind
def Z4:([0,0,0,0,0,0,0,0,0,0,0,0,0,0,0,0,0,0,0,0,0,0,0,0,0,0,0,0,0,0,0,0,0,0,0,0,0,0,0,0,0,0,0,0,0,0,0,0,0,0,0,0,0,0,0,0,0,0,0,0,0,0,0,0]:List Int)=gE 64:=rfl
def Vk b (a:b.length=64) u:Loop (ny (b,u)) ((0,()),gE 64,())=ab ((16,()),Ca b 16,()):=by
 refine dh 16 (λt=>(((t:Int),()),Ca b t,())) (λt c=>?_) ?_
 .unfold ny;dsimp only;rw[aO ai,four ai,e8 ai ai,aV ai ai ai,Vj b a t c _ (uO b t) (aby b t t (cp _) ai),aL ai];rfl
 .unfold ny;dsimp only;rfl
def abz l (a:l.length=64):Loop nz ((16,()),l,())=ab ((64,()),J9 l 48,()):=by
 refine dh 48 (λk=>((((16+k:Nat):Int),()),J9 l k,())) (λk b=>?_) ?_
 .have hlen:(J9 l k).length=64:=by rw[EP,a]
  unfold nz;dsimp only;rw[aO ai,dL ai ai,dL ai ai,dL ai ai,dL ai ai,
   aM ai ai,ae,nu _ 0 (k:=16+k-2) ai ai,aa,aM ai ai,ae,nu _ 0 (k:=16+k-15) ai ai,aa,
   r7,aa,r18,aa,aJ aK,af,r17,aa,r19,aa,aM ai ai,ae,nu _ 0 (k:=16+k-7) ai ai,aa,
   aM ai ai,ae,nu _ 0 (k:=16+k-16) ai ai,aM ai ai,fH _ 0 ai,aL ai]
  rfl
 .unfold nz;dsimp only;rfl
def Sy b (a:b.length=64) u:rU (b,u)=ab (Ak b,()):=by
 unfold rU;rw[Z4,Vk b a,aa];rw[abz _<|uO b 16,aa];dsimp only[Ak]
def aeR s {i} (h:i<s.length) x (hx:s[i]?=ab x):u8 x=(aC s).getD i 0:=by
 simp[aC,hx,u8]
def abA h s (o:s.length=64) u:Loop (lh (h,s,u)) ((0,()),gE 64,())=ab (((16:Int),()),Ca (aC s) 16,()):=by
 have key:∀b,b=aC s->Loop (lh (h,s,u)) ((0,()),gE 64,())=ab ((16,()),Ca b 16,()):=by
  intro b a;refine dh 16 (λt=>(((t:Int),()),Ca b t,())) (λt p=>?_) ?_
  .have at_:∀(i:Int) (j:Nat),i=j->j<64->∃x,idx s i=ab x/\u8 x=b.getD j 0:=by
    intro i j e q;subst e;refine⟨s[j],?_,by rw[a];exact aeR s ai _ (ik ai)⟩;rw[vQ,ik]
   unfold lh;dsimp only;rw[aO ai,four ai,e8 ai ai,e8 ai ai,e8 ai ai];obtain⟨r,c,d⟩:=at_ _ (4*t) rfl ai;obtain⟨v,f,g⟩:=at_ (((4*t:Nat):Int)+1) (4*t+1) ai ai;obtain⟨w,k,l⟩:=at_ (((4*t:Nat):Int)+2) (4*t+2) ai ai;obtain⟨y,m,n⟩:=at_ (((4*t:Nat):Int)+3) (4*t+3) ai ai;rw[c,aa,aJ aK,af,f,aa,aJ aK,af,k,aa,m,aa,aM ai ai,
    fH _ 0 (by rw[uO];omega),aL ai,d,g,l,n]
   rfl
  .unfold lh;dsimp only;rfl
 grind
def ag7 l (a:l.length=64):Loop oQ ((16,()),l,())=ab ((64,()),J9 l 48,()):=by
 refine dh 48 (λk=>((((16+k:Nat):Int),()),J9 l k,())) (λk b=>?_) ?_
 .have hlen:(J9 l k).length=64:=by rw[EP,a]
  unfold oQ;dsimp only;rw[aO ai,dL ai ai,dL ai ai,dL ai ai,dL ai ai,
   aM ai ai,ae,nu _ 0 (k:=16+k-2) ai ai,aa,aM ai ai,ae,nu _ 0 (k:=16+k-15) ai ai,aa,
   t17,aa,t19,aa,aJ aK,af,aM ai ai,ae,nu _ 0 (k:=16+k-7) ai ai,aa,t7,aa,t18,aa,
   aM ai ai,ae,nu _ 0 (k:=16+k-16) ai ai,aM ai ai,fH _ 0 ai,aL ai]
  rfl
 .unfold oQ;dsimp only;rfl
abbrev W8:=Int×Int×Int×Int×Int×Int×Int×Int
def rnd(k w:Int):W8->W8
 | (a,b,c,d,e,f,g,h) =>
   let one:=aH .u32 (aH .u32 (aH .u32 (aH .u32 h<|gM .u32 (gM .u32 (EO 6 e)<|EO 11 e)<|EO 25 e)<|gM .u32 g<|jR .u32 e<|gM .u32 f g) k) w
   let two:=aH .u32 (gM .u32 (gM .u32 (EO 2 a)<|EO 13 a)<|EO 22 a) (zM .u32 (jR .u32 a b)<|jR .u32 c<|zM .u32 a b)
   (aH .u32 one two,a,b,c,aH .u32 d one,e,f,g)
def Vl(K w:List Int)(s:W8):Nat->W8
 | 0=>s
 | t+1=>rnd (K.getD t 0) (w.getD t 0) (Vl K w s t)
def HN:List Int:=[1116352408,1899447441,3049323471,3921009573,961987163,1508970993,2453635748,2870763221,3624381080,310598401,607225278,1426881987,1925078388,2162078206,2614888103,3248222580,3835390401,4022224774,264347078,604807628,770255983,1249150122,1555081692,1996064986,2554220882,2821834349,2952996808,3210313671,3336571891,3584528711,113926993,338241895,666307205,773529912,1294757372,1396182291,1695183700,1986661051,2177026350,2456956037,2730485921,2820302411,3259730800,3345764771,3516065817,3600352804,4094571909,275423344,430227734,506948616,659060556,883997877,958139571,1322822218,1537002063,1747873779,1955562222,2024104815,2227730452,2361852424,2428436474,2756734187,3204031479,3329325298]
def abB:B9 ()=ab (HN,()):=rfl
def X9:wW ()=ab (HN,()):=rfl
def w9(s:W8)(t:Int):Int×Int×Int×Int×Int×Int×Int×Int×Int×al:=(s.1,s.2.1,s.2.2.1,s.2.2.2.1,s.2.2.2.2.1,s.2.2.2.2.2.1,s.2.2.2.2.2.2.1,s.2.2.2.2.2.2.2,t,())
def oi(s:W8):List Int:=[s.1,s.2.1,s.2.2.1,s.2.2.2.1,s.2.2.2.2.1,s.2.2.2.2.2.1,s.2.2.2.2.2.2.1,s.2.2.2.2.2.2.2]
def Ya w (a:w.length=64) s u v:Loop (kI (HN,u) (w,v)) (w9 s 0,())=ab (w9 (Vl HN w s 64) 64,()):=by
 refine dh 64 (λt=>(w9 (Vl HN w s t) t,())) (λt b=>?_) ?_
 .show kI _ _ _=ab _
  unfold kI w9;dsimp only;rw[aO ai,r6,r11,r25,aM ai ai,fH HN 0 (by show t<64;omega),fH w 0 ai,
   r2,r13,r22,aL ai]
  rfl
 .unfold w9;rfl
def Yb(w:List Int)(m:w.length=64)(s:W8) q u v:Loop (lj (q,w,u) (HN,v)) ((0,()),oi s,())=ab (((64:Int),()),oi<|Vl HN w s 64,()):=by
 refine dh 64 (λt=>(((t:Int),()),oi<|Vl HN w s t,())) (λt i=>?_) ?_
 .show lj _ _ _=ab (.inl ((((t+1:Nat):Int),()),oi<|rnd _ _ _,()))
  generalize Vl HN w s t=q;obtain⟨a,b,c,d,e,f,g,h⟩:=q;have j:idx (oi (a,b,c,d,e,f,g,h)) 0=ab a:=rfl;have k:idx (oi (a,b,c,d,e,f,g,h)) 1=ab b:=rfl;have l:idx (oi (a,b,c,d,e,f,g,h)) 2=ab c:=rfl;have n:idx (oi (a,b,c,d,e,f,g,h)) 3=ab d:=rfl;have o:idx (oi (a,b,c,d,e,f,g,h)) 4=ab e:=rfl;have p:idx (oi (a,b,c,d,e,f,g,h)) 5=ab f:=rfl;have r:idx (oi (a,b,c,d,e,f,g,h)) 6=ab g:=rfl;have x:idx (oi (a,b,c,d,e,f,g,h)) 7=ab h:=rfl;have w0:within 0 8=true:=aK;have w1:within 1 8=true:=aK;have w2:within 2 8=true:=aK;have w3:within 3 8=true:=aK;have wt:within t 64=true:=aM ai ai;unfold lj;simp only[aO<|show(t:Int)<64 by omega,ae,w0,w1,w2,w3,wt,j,k,l,aa,t11,t2,t13,fH HN 0 i,fH w 0 (show t<w.length by omega),aL (show t<4611686018427387904 by omega),
   <-akC,<-ai2]
  rfl
 .unfold lj;rfl
def of8(l:List Int):W8:=(l.getD 0 0,l.getD 1 0,l.getD 2 0,l.getD 3 0,l.getD 4 0,l.getD 5 0,l.getD 6 0,l.getD 7 0)
def abC l (i:l.length=8):oi (of8 l)=l:=by
 match l,i with
 | [a,b,c,d,e,f,g,h],_=>rfl
def Al(l m:List Int):Nat->List Int
 | 0=>l
 | i+1=>(Al l m i).set i (aH .u32 (l.getD i 0)<|m.getD i 0)
def Cb l m i:(Al l m i).length=l.length:=by
 induction i with
 | zero=>rfl
 | succ i a=>simp[Al,a]
def Z5 l m:∀i j,i<=j->(Al l m i).getD j 0=l.getD j 0:=by
 intro i;induction i with
 | zero=>intro j _;rfl
 | succ i a =>
   intro j h;have:=a j ai;simp only[Al] at this⊢
   grind
def comp(h b:List Int):List Int:=Al h (oi<|Vl HN (Ak b) (of8 h) 64) 8
def Vm h b:(comp h b).length=h.length:=Cb _ _ _
def abD l m (i:l.length=8) (j:m.length=8):Al l m 8=Al m l 8:=by
 match l,i,m,j with
 | [a,b,c,d,e,f,g,h],_,[k,n,o,p,q,r,s,t],_ =>
   simp only[Al,List.set,List.getD_cons_succ];simp only[Vb]
def abE h (c:h.length=8) s (f:s.length=64) u:tO (h,s,u)=ab (comp h<|aC s,()):=by
 unfold tO;rw[Z4,abA h s f,aa];rw[ag7 _<|uO _ _,aa,X9,aa];have b:(Ak<|aC s).length=64:=Gn _;have d:=Yb _ b (of8 h) (64,()) () ();rw[<-((abC h c).symm)] at d;rw[show J9 _ 48=Ak _ from rfl,d,aa];generalize e:oi _=m;have a:m.length=8:=by rw[<-e];rfl
 have:Loop (oR (h,s,u)) ((0,()),m,())=ab ((8,()),Al m h 8,()):=by
  refine dh 8 (λi=>(((i:Int),()),Al m h i,())) (λi g=>?_) ?_
  .have j:(Al m h i).length=8:=by rw[Cb,a]
   unfold oR;simp only[aO<|show(i:Int)<8 by omega,aM (show(0:Int)<=i by omega) (show _<8 by omega),fH _ 0 (show i<(Al m h i).length by omega),fH h 0 (show i<h.length by omega),aL (show i<4611686018427387904 by omega)];rw[Z5 m h i i<|cp _];rfl
  .unfold oR;rfl
 rw[this,aa];rw[abD m h a c];unfold comp;rw[e]
def H0:List Int:=[1779033703,3144134277,1013904242,2773480762,1359893119,2600822924,528734635,1541459225]
def abF:uM ()=ab (H0,()):=rfl
def O3:yJ ()=ab (H0,()):=rfl
def Am(a:ay):Nat->List Int
 | 0=>H0
 | k+1=>comp (Am a k) (aC<|(a.drop<|64*k).take 64)
def An all k:(Am all k).length=8:=by
 induction k with
 | zero=>rfl
 | succ k a=>simp only[Am];rw[Vm,a]
def Z6 all more:∀k,64*k<=all.length->Am (all++more) k=Am all k:=by
 intro k;induction k with
 | zero=>intro _;rfl
 | succ k a =>
   simp only[Am]
   grind
abbrev O4:=(Bool×List Int×al)×List Int×Int×al
def Inv(c:O4)(a:ay):Prop :=
 ∃b,c=((decide<|64<=a.length,(if 64<=a.length then Am a (a.length / 64) else gE 8),()),b,(a.length:Int),())/\b.length=64/\b.take (a.length % 64)=aC (a.drop<|64*(a.length / 64))
def aeS:O4:=((false,gE 8,()),gE 64,0,())
def amA:Inv aeS []:=⟨gE 64,rfl,rfl,rfl⟩
def tW a b:aC (a++b)=aC a++aC b:=by simp[aC]
def Cc a n:(aC a).take n=aC (a.take n):=by simp[aC]
def gv a:(aC a).length=a.length:=by simp[aC]
def xa(a b:Nat):jQ a b=((a % b:Nat):Int):=(Int.natCast_emod a b).symm
def aeT q (st:O4) (a:st.1.2.1.length=8):Loop (hW (w9 q 64,())) ((0,()),st,())=ab ((8,()),((st.1.1,Al st.1.2.1 (oi q) 8,st.1.2.2),st.2),()):=by
 obtain⟨⟨b,h,u⟩,c⟩:=st;refine dh (f:=hW _) 8 (λi=>((i,()),((b,Al h (oi q) i,u),c),())) (λi g=>?_) ?_
 .have j:(Al h (oi q) i).length=8:=by rw[Cb,a]
  have d:([(w9 q 64).1,(w9 q 64).2.1,(w9 q 64).2.2.1,(w9 q 64).2.2.2.1,(w9 q 64).2.2.2.2.1,(w9 q 64).2.2.2.2.2.1,(w9 q 64).2.2.2.2.2.2.1,(w9 q 64).2.2.2.2.2.2.2.1])=oi q:=rfl;unfold hW;rw[d];have e:(oi q).length=8:=rfl;simp only[aO<|show(i:Int)<8 by omega,aM (show(0:Int)<=i by omega) (show _<8 by omega),fH (Al h (oi q) i) 0 (show i<(Al h _ i).length by omega),fH _ 0 (show i<(oi q).length by omega),aa,aL (show i<4611686018427387904 by omega)];rw[Z5 h _ i i<|cp _];rfl
 .unfold hW;rfl
def aeU(part a:ay)(M:O4)(O:part≠[])(P:Inv M a)(hb:a.length+part.length<1152921504606846976) :
  ∃p,fQ ((part,()),M,())=ab (.inl ((part.drop<|64-a.length % 64,()),p,()))/\Inv p (a++part.take (64-a.length % 64)):=by
 obtain⟨d,rfl,hw,Q⟩:=P;generalize R:a.length=N at *;have S:N % 64<64:=A1 _ aK;have B:jQ (N:Int) 64=((N % 64:Nat):Int):=xa N 64;have em:iW (aC part) (minus (64:Int) ((N % 64:Nat):Int))=aC (part.take<|64-N % 64):=by
  unfold iW minus;rw[show((64:Int)-((N % 64:Nat):Int)).toNat=64-N % 64 by omega,Cc]
 generalize j:(part.take<|64-N % 64).length=k;have T:k=min (64-N % 64) part.length:=by rw[<-j,kC]
 have U:0<k:=by
  have:0<part.length:=by cases part with|nil=>exact absurd rfl O|cons=>simp
  omega
 have q:len (aC<|part.take<|64-N % 64)=(k:Int):=by unfold len;rw[gv,j]
 have s:aH .i64 ((N % 64:Nat):Int) (k:Int)=((N % 64+k:Nat):Int):=by rw[e8 ai ai];omega
 have l:aH .i64 (N:Int) (k:Int)=((N+k:Nat):Int):=by rw[e8 ai ai];omega
 have t:inside ((N % 64:Nat):Int) 64 64=true:=aV ai ai ai;have u:inside (k:Int) (len part) (len part)=true:=aV ai fi ai;have v:sub part (k:Int) (minus (len part) (k:Int))=part.drop k:=by
  unfold sub minus len;rw[qJ,Hi (by rw[pP];omega)]
 have w:part.drop k=part.drop (64-N % 64):=by
  rcases Nat.le_total (64-N % 64) part.length with h|h
  .rw[show k=64-N % 64 by omega]
  .rw[JG ai,JG h]
 have m:over d ((N % 64:Nat):Int) (aC<|part.take<|64-N % 64)=aC (a.drop (64*(N / 64))++part.take (64-N % 64))++d.drop (N % 64+k):=by
  unfold over;rw[qJ,Q,gv,j,tW]
 have C:nt (bH part [])=true:=by
  unfold bH nt;cases part with
  | nil=>exact absurd rfl O
  | cons x r=>rfl
 have e:(a++part.take (64-N % 64)).length=N+k:=by rw[jB,R,j]
 have V:64*(N / 64)+N % 64=N:=TZ N 64;have b:(a.drop<|64*(N / 64)).length=N % 64:=by rw[pP];omega
 have g:(aC (a.drop (64*(N / 64))++part.take (64-N % 64))++d.drop (N % 64+k)).length=64:=by
  rw[jB,gv,jB,b,j,pP];omega
 unfold fQ;dsimp only;simp only[C,ae,ax (show(64:Int)≠0 by decide),af,B,t,em,q,u,s,l,v,m];by_cases D:N % 64+k=64
 ·
  have E:d.drop (N % 64+k)=[]:=by rw[JG ai]
  simp only[aE<|show((N % 64+k:Nat):Int)=64 by omega,ae,E,zQ] at g⊢;generalize z:aC (a.drop (64*(N / 64))++part.take (64-N % 64))=blk at *;have A:(N+k) / 64=N / 64+1:=ai;have F:(N+k) % 64=0:=ai;have n:((a++part.take (64-N % 64)).drop<|64*(N / 64)).take 64=a.drop (64*(N / 64))++part.take (64-N % 64):=by
   rw[Zj ai,Hi (by rw[jB,b,j];omega)]
  have G:∃H:Bool,H=true/\(ag (ao (nt<|decide<|64<=N) (ag (uM ()) λI:List Int×al=>ab ((),((true,I.1,()),blk,((N+k:Nat):Int),()),()))<|some ((),((decide<|64<=N,(if 64<=N then Am a (N / 64) else gE 8),()),blk,((N+k:Nat):Int),()),())) λy:al×O4×al=>ab y)=ab ((),((true,Am a (N / 64),()),blk,((N+k:Nat):Int),()),()):=by
   refine⟨true,rfl,?_⟩;by_cases c:64<=N
   .simp only[c,T6,wJ];rfl
   .have:N / 64=0:=ai;simp only[c,decide_false,if_false,this,abF];rfl
  obtain⟨_,_,G⟩:=G;have J:(ao (nt<|decide<|64<=N) (ag (uM ()) λI:List Int×al=>ab ((),((true,I.1,()),blk,((N+k:Nat):Int),()),())) (ab ((),((decide<|64<=N,(if 64<=N then Am a (N / 64) else gE 8),()),blk,((N+k:Nat):Int),()),())):Option (al×O4×al))=ab ((),((true,Am a (N / 64),()),blk,((N+k:Nat):Int),()),()):=by
   have:∀o:Option (al×O4×al),(ag o λy=>ab y)=o:=by intro o;cases o<;>rfl
   exact(this _).symm.trans G
  rw[J,aa,abB,aa,Sy blk g,aa];dsimp only;have K:=An a (N / 64);have W:=nu (Am a<|N / 64) 0 (i:=0) (k:=0) rfl ai;have X:=nu (Am a<|N / 64) 0 (i:=1) (k:=1) rfl ai;have Y:=nu (Am a<|N / 64) 0 (i:=2) (k:=2) rfl ai;have Z:=nu (Am a<|N / 64) 0 (i:=3) (k:=3) rfl ai;have i4:=nu (Am a<|N / 64) 0 (i:=4) (k:=4) rfl ai;have i5:=nu (Am a<|N / 64) 0 (i:=5) (k:=5) rfl ai;have i6:=nu (Am a<|N / 64) 0 (i:=6) (k:=6) rfl ai;have i7:=nu (Am a<|N / 64) 0 (i:=7) (k:=7) rfl ai;have w0:within 0 8=true:=aK;have w1:within 1 8=true:=aK;have w2:within 2 8=true:=aK;have w3:within 3 8=true:=aK;have w4:within 4 8=true:=aK;have w5:within 5 8=true:=aK;have w6:within 6 8=true:=aK;have w7:within 7 8=true:=aK;simp only[w0,w1,w2,w3,w4,w5,w6,w7,ae,W,X,Y,Z,i4,i5,i6,i7,aa];have hr:=Ya (Ak blk) (Gn blk) (of8<|Am a<|N / 64) () ();rw[show((Am a _).getD 0 0,(Am a _).getD 1 0,(Am a _).getD 2 0,(Am a _).getD 3 0,(Am a _).getD 4 0,(Am a _).getD 5 0,(Am a _).getD 6 0,(Am a _).getD 7 0,0,())=w9 (of8<|Am a _) 0 from rfl,hr,aa];rw[aeT _ ((true,Am a _,()),blk,_,()) K,aa,aa,jV];refine⟨_,by rw[w],?_⟩;refine⟨blk,?_,g,?_⟩
  .rw[e];have c:64<=N+k:=ai;simp only[c,T6,wJ];have L:Am (a++part.take (64-N % 64)) ((N+k) / 64)=Al (Am a<|N / 64) (oi<|Vl HN (Ak blk) (of8<|Am a<|N / 64) 64) 8:=by
    rw[A];simp only[Am];rw[Z6 a _ _ ai,n,z];rfl
   rw[L]
  .rw[e,F,JG ai];rfl
 .have hnf:N % 64+k<64:=ai;simp only[ax<|show((N % 64+k:Nat):Int)≠64 by omega,af,aa,jV];refine⟨_,by rw[w],?_⟩;have A:(N+k) / 64=N / 64:=ai;refine⟨_,?_,g,?_⟩
  .rw[e,A];by_cases c:64<=N
   .have f:64<=N+k:=ai;simp only[c,f];rw[Z6 a _ _ ai]
   .have f:¬64<=N+k:=ai;simp only[c,f,if_false]
  .rw[e,A,ac6 (by rw[gv,jB,b,j];omega),Hi (by rw[gv,jB];omega),Zj ai]
def aeV:∀n a all c,a.length<=n->Inv c all->all.length+a.length<1152921504606846976 ->
  ∃b,Loop fQ ((a,()),c,())=ab (([],()),b,())/\Inv b (all++a):=by
 intro n;induction n with
 | zero =>
   intro a all c h e f;rw[aT];have:fQ (([],()),c,())=ab (.inr (([],()),c,())):=by
    unfold fQ;rw[show nt _=false from rfl,af,mB]
   grind
 | succ n i =>
   intro a all c h e f;by_cases j:a=[]
   .grind
   .obtain⟨d,k,l⟩:=aeU a all c j e f;obtain⟨b,m,g⟩:=i (a.drop<|64-all.length % 64) _ d (by rw[pP];omega) l (by rw[jB,kC,pP];omega);refine⟨b,?_,by rw[uw,BI] at g;exact g⟩;rw[aT,k];exact m
def KP part all st (b:Inv st all) (c:all.length+part.length<1152921504606846976):∃a,gj ((part,()),st,())=ab ((),a,())/\Inv a (all++part):=by
 obtain⟨a,d,e⟩:=aeV part.length part all st (cp _) b c;refine⟨a,?_,e⟩;unfold gj;rw[d,aa]
def zs(n:Nat):Nat:=(119-n % 64) % 64
def je(n k:Nat):Int:=kE .u8 (mz .u64 (jD .u64 (kE .u64 (n:Int)) 8) ((8*k:Nat):Int))
def O5(n:Nat):List Int:=[je n 7,je n 6,je n 5,je n 4,je n 3,je n 2,je n 1,je n 0]
def pad(s:ay):ay:=s++[128]++List.replicate (zs s.length) 0++bu (O5 s.length)
def ER s:(pad s).length=s.length+1+zs s.length+8:=by simp[pad,bu,O5];omega
def Z7 s:(pad s).length % 64=0:=by rw[ER];unfold zs;omega
def mI s:bu (aC s)=s:=by
 unfold bu aC;rw[List.map_map]
 conv=>rhs;rw[<-List.map_id s]
 apply W0;simp_all
def yK a b:bu (a++b)=bu a++bu b:=by simp[bu]
def Vn s (b:s.length<=1048576):Loop lg (((),()),aC s++[128],())=ab (((),()),aC s++[128]++gE (zs s.length),()):=by
 have c:zs s.length<64:=A1 _ aK;have:=dh (f:=lg) (zs s.length) (λj=>(((),()),aC s++[128]++gE j,())) (λj a=>by
  unfold lg;have el:len (aC s++[128]++gE j)=((s.length+1+j:Nat):Int):=by unfold len;simp[aC,gE];omega
  rw[ax aK,af,el,show((64:Int))=((64:Nat):Int) from rfl,xa,ax (by unfold zs at a;omega),show nt false=true from rfl,ae,ec (by simp only[plus,len,Fo];omega),ae,jV]
  congr 4
  show aC s++[128]++gE j++[0]=_
  rw[uw,show gE j++[0]=gE (j+1) from by simp[gE,List.replicate_succ']])
  (by
   unfold lg;have el:len (aC s++[128]++gE (zs s.length))=((s.length+1+zs s.length:Nat):Int):=by unfold len;simp[aC,gE];omega
   rw[ax aK,af,el,show(64)=((64:Nat):Int) from rfl,xa,aE (by unfold zs;omega),show nt true=false from rfl,af,mB])
 have d:aC s++[128]++gE 0=aC s++[128]:=by simp[gE]
 grind
def abG s b (g:s.length<=1048576) (h:b.length<=2097152) u:Loop (fl (s,u)) (((),7,()),b,())=ab (((),-1,()),b++O5 s.length,()):=by
 have step:∀(k:Nat) c,k<=7->c.length<=2097160->fl (s,u) (((),k,()),c,())=ab (.inl (((),k-1,()),c++[je s.length k],())):=by
  intro k c a d;unfold fl;dsimp only;have f:jD .i64 8 k=((8*k:Nat):Int):=by rw[B7 ai ai];omega
  rw[ f,ec (by simp only[plus,len,Fo];omega),dL ai ai];rfl
 have e:∀c,fl (s,u) (((),(-1),()),c,())=ab (.inr (((),-1,()),c,())):=by
  intro c;unfold fl;dsimp only;rw[ea aK,af,mB]
 have L:∀(k:Nat) c,k<=7->c.length<=2097160->Loop (fl (s,u)) (((),(k:Int),()),c,())=Loop (fl (s,u)) (((),k-1,()),c++[je s.length k],()):=by
  intro k c a d;rw[aT,step k c a d];rfl
 refine(L 7 b ai ai).trans ((L 6 _ ai jA).trans<|(L 5 _ ai jA).trans<|(L 4 _ ai jA).trans<|(L 3 _ ai jA).trans<|(L 2 _ ai jA).trans<|(L 1 _ ai jA).trans<|(L 0 _ ai jA).trans ?_);have:b++[je s.length 7]++[je s.length 6]++[je s.length 5]++[je s.length 4]++[je s.length 3]++[je s.length 2]++[je s.length 1]++[je s.length 0]=b++O5 s.length:=by simp[O5]
 rw[this];rw[aT];rfl
def abH s (a:s.length<=1048576):tN (s,())=ab (pad s,()):=by
 have b:zs s.length<64:=A1 _ aK;unfold tN;dsimp only;rw[ec fi,ec (by simp only[plus,len,Fo,gv];omega),show app _ _=aC s++[128] from rfl,Vn s a,aa];rw[abG s _ a<|by simp[gv,gE];omega,aa];rw[yK,yK,yK,mI];have:bu (gE<|zs s.length)=List.replicate (zs s.length) 0:=by unfold bu gE;rw[List.map_replicate];rfl
 rw[this];rfl
def Yc t (c:t.length % 64=0) (d:t.length<=2097152) u:Loop (n8 (t,u)) ((0,()),H0,())=ab (((t.length:Int),()),Am t<|t.length / 64,()):=by
 have:=dh (f:=n8 (t,u)) (t.length / 64) (λj=>((((64*j:Nat):Int),()),Am t j,())) (λj e=>by
  unfold n8;dsimp only;rw[e8 ai ai,bO fi,aV ai ai fi];have b:sub t ((64*j:Nat):Int) (minus (((64*j:Nat):Int)+64) ((64*j:Nat):Int))=(t.drop<|64*j).take 64:=by
   unfold sub minus
   grind
  rw[b,abE _ (An t j) _ (by rw[kC,pP];omega)];rfl)
  (by
   unfold n8;dsimp only;have a:64*(t.length / 64)=t.length:=ai;rw[a,e8 ai ai,ea fi,af,mB])
 exact this
def amB(h:List Int)(i:Nat):Int:=kE .u8 (mz .u32 (h.getD (i / 4) 0) ((24-8*(i % 4):Nat):Int))
def Vo(h:List Int):Nat->List Int
 | 0=>gE 32
 | i+1=>(Vo h i).set i (amB h i)
def Cd h i:(Vo h i).length=32:=by
 induction i with
 | zero=>rfl
 | succ i a=>simp[Vo,a]
def Z8:([0,0,0,0,0,0,0,0,0,0,0,0,0,0,0,0,0,0,0,0,0,0,0,0,0,0,0,0,0,0,0,0]:List Int)=gE 32:=rfl
def aeW{a:Nat}(h:a<4611686018427387904):Lq .i64 a 4=((a / 4:Nat):Int):=by
 unfold Lq;have:=Ag (a:=((a / 4):Int)) ai ai;unfold kE at this
 grind
def Vp{h o:List Int}(a:h.length=8)(b:o.length=32)(i:Nat)(c:i<32):Lq .i64 i 4=((i / 4:Nat):Int)/\da .i64 24 (jD .i64 8<|jQ i 4)=((24-8*(i % 4):Nat):Int):=by
 refine⟨aeW ai,?_⟩;rw[show 4=((4:Nat):Int) from rfl,xa,B7 ai ai,dL ai ai];omega
def ag8 h (a:h.length=8) q u:Loop (rV (q,h,u)) ((0,()),gE 32,())=ab ((32,()),Vo h 32,()):=by
 refine dh 32 (λi=>(((i:Int),()),Vo h i,())) (λi b=>?_) ?_
 .have c:=Cd h i;obtain⟨d,e⟩:=Vp a c i b;unfold rV;dsimp only;rw[aO ai,d,aM ai ai,ae,fH h 0 ai,e,aM ai ai,
   fH _ 0 ai,aL ai]
  rfl
 .unfold rV;dsimp only;rfl
def ag9 h w (f:h.length=8) g n (a b c d e:al) r:Loop (kK (r,((g,h,a),w,n,b),c)) ((0,()),gE 32,())=ab ((32,()),Vo h 32,()):=by
 refine dh 32 (λi=>(((i:Int),()),Vo h i,())) (λi j=>?_) ?_
 .have k:=Cd h i;obtain⟨l,m⟩:=Vp f k i j;unfold kK;dsimp only;rw[aO ai,l,aM ai ai,ae,fH h 0 ai,m,aM ai ai,
   fH _ 0 ai,aL ai]
  rfl
 .unfold kK;dsimp only;rfl
def sha(s:ay):List Int:=Vo (Am (pad s)<|(pad s).length / 64) 32
def qO s:(sha s).length=32:=Cd _ _
def Yd s (a:s.length<=1048576):x5 (s,())=ab (sha s,()):=by
 have b:zs s.length<64:=A1 _ aK;unfold x5;rw[O3,aa];rw[abH s a,aa,Yc _ (Z7 s) (by rw[ER];omega),aa,Z8,ag8 _ (An _ _),aa];dsimp only[sha]
def abI s (o:s.length<=1152921504606840000) st (c:Inv st (s++[128])):∃a,Loop eR ((),st,())=ab ((),a,())/\Inv a (s++[128]++List.replicate (zs s.length) 0):=by
 have p:zs s.length<64:=A1 _ aK;have key:∀m j st,j+m=zs s.length->Inv st (s++[128]++List.replicate j 0)->∃a,Loop eR ((),st,())=ab ((),a,())/\Inv a (s++[128]++List.replicate (zs s.length) 0):=by
  intro m;induction m with
  | zero =>
    intro j st f c;obtain rfl:j=zs s.length:=ai;refine⟨st,?_,c⟩;obtain⟨b,rfl,h,i⟩:=c;rw[aT];have:eR ((),((decide<|64<=(s++[128]++List.replicate (zs s.length) 0).length,(if 64<=(s++[128]++List.replicate (zs s.length) 0).length then Am (s++[128]++List.replicate (zs s.length) 0) ((s++[128]++List.replicate (zs s.length) 0).length / 64) else gE 8),()),b,((s++[128]++List.replicate (zs s.length) 0).length:Int),()),())=ab (.inr ((),((decide<|64<=(s++[128]++List.replicate (zs s.length) 0).length,(if 64<=(s++[128]++List.replicate (zs s.length) 0).length then Am (s++[128]++List.replicate (zs s.length) 0) ((s++[128]++List.replicate (zs s.length) 0).length / 64) else gE 8),()),b,((s++[128]++List.replicate (zs s.length) 0).length:Int),()),())):=by
     have k:(s++[128]++List.replicate (zs s.length) 0).length=s.length+1+zs s.length:=jA;unfold eR;rw[ax aK,af,k,show(64)=((64:Nat):Int) from rfl,xa,aE (by unfold zs;omega),show nt true=false from rfl,af,mB]
    grind
  | succ m l =>
    intro j st f c;obtain⟨d,n,g⟩:=KP [0] _ st c jA;obtain⟨a,q,r⟩:=l (j+1) d ai (by
     rw[uw,show List.replicate j (0:UInt8)++[0]=List.replicate _ 0 from by rw[List.replicate_succ']] at g;exact g)
    rw[aT];have e:st.2.2.1=((s.length+1+j:Nat):Int):=by
     obtain⟨b,rfl,h,i⟩:=c
     grind
    have:eR ((),st,())=ab (.inl ((),d,())):=by
     unfold eR;rw[ax aK,af,e,show(64)=((64:Nat):Int) from rfl,xa,ax (by unfold zs at f;omega),show nt false=true from rfl,ae,n,aa,jV]
    grind
 exact key (zs s.length) 0 st ai (by simpa using c)
def aeX(n:Nat)(i:n<=1152921504606840000)(a:O4)(b:a.2.2.1=n) u v:Loop (kJ (u,a,v)) ((0,()),gE 8,())=ab ((8,()),O5 n,()):=by
 obtain⟨d,e,m,q⟩:=a;have step:∀(k:Nat) c,k<8->c.length=8->kJ (u,(d,e,n,q),v) ((k,()),c,())=ab (.inl ((((k+1):Int),()),c.set (7-k)<|je n k,())):=by
  intro k c f j;unfold kJ;dsimp only;have g:jD .i64 8 k=((8*k:Nat):Int):=by rw[B7 ai ai];omega
  have h:da .i64 7 k=((7-k:Nat):Int):=by rw[dL ai ai];omega
  rw[aO ai,g,h,aM ai ai,fH c 0 ai,aL ai];rfl
 have:=dh 8 (λk=>(((k:Int),()),(match k with
  | 0=>gE 8
  | 1=>[0,0,0,0,0,0,0,je n 0]
  | 2=>[0,0,0,0,0,0,je n 1,je n 0]
  | 3=>[0,0,0,0,0,je n 2,je n 1,je n 0]
  | 4=>[0,0,0,0,je n 3,je n 2,je n 1,je n 0]
  | 5=>[0,0,0,je n 4,je n 3,je n 2,je n 1,je n 0]
  | 6=>[0,0,je n 5,je n 4,je n 3,je n 2,je n 1,je n 0]
  | 7=>[0,je n 6,je n 5,je n 4,je n 3,je n 2,je n 1,je n 0]
  | _=>O5 n),())) (λk f=>by
    rcases(by omega:k=0\/k=1\/k=2\/k=3\/k=4\/k=5\/k=6\/k=7) with rfl|rfl|rfl|rfl|rfl|rfl|rfl|rfl<;>exact(step _ _ ai rfl).trans rfl)
  (by
   rfl)
 grind
def aha s (o:s.length<=1048576) st (h:Inv st s) u v:oP (u,st,v)=ab ((sha s,()),st,()):=by
 have p:zs s.length<64:=A1 _ aK;have b:st.2.2.1=s.length:=by obtain⟨a,rfl,_⟩:=h;rfl
 obtain⟨c,i,j⟩:=KP [128] s st h jA;obtain⟨d,k,l⟩:=abI s ai c j;obtain⟨e,m,n⟩:=KP (bu<|O5 s.length) _ d l (by simp[bu,O5];omega);unfold oP;rw[Z8,show bu _=[128] from rfl,i,aa];rw[k,aa];rw[show([0,0,0,0,0,0,0,0])=gE 8 from rfl,aeX s.length ai st b,aa,aV aK aK aK,ae];rw[show sub _ 0 _=O5 s.length from rfl,m,aa];have f:Inv e (pad s):=n;obtain⟨a,rfl,q,r⟩:=f;have g:64<=(pad s).length:=by have:=Z7 s;rw[ER] at this⊢;omega
 simp only[g,wJ];rw[ag9 _ _ (An _ _) _ _ () () () () () (),aa];dsimp only[sha]
def Ye s (b:s.length<=1048576):Da (s,())=ab (sha s,()):=by
 obtain⟨a,c,d⟩:=KP s [] aeS amA jA;unfold Da;rw[show((false,([0,0,0,0,0,0,0,0]),()),([0,0,0,0,0,0,0,0,0,0,0,0,0,0,0,0,0,0,0,0,0,0,0,0,0,0,0,0,0,0,0,0,0,0,0,0,0,0,0,0,0,0,0,0,0,0,0,0,0,0,0,0,0,0,0,0,0,0,0,0,0,0,0,0]),_,())=aeS from rfl,c,aa];rw[aha s b a<|by simpa using d,aa]
abbrev anJ:=(Bool×ay×Int×al)×O4×O4×al
def Yf:ay:=[48,49,50,51,52,53,54,55,56,57,97,98,99,100,101,102]
def hx(n:Nat):UInt8:=Yf.getD n 0
def uP:ay->ay
 | []=>[]
 | b::r=>hx (b.toNat / 16)::hx (b.toNat % 16)::uP r
def lU l:(uP l).length=2*l.length:=by
 induction l with
 | nil=>rfl
 | cons b r a=>simp only[uP,jC];omega
def aeY a b:uP (a++b)=uP a++uP b:=by
 induction a with
 | nil=>rfl
 | cons x r c=>simp only[JJ,uP,c]
def ahb:∀n:Fin 256,idx Yf (mz .u8 (n.val:Int) 4)=ab (hx<|n.val / 16):=by decide +kernel
def ahc:∀n:Fin 256,idx Yf (jR .u8 (n.val:Int) 15)=ab (hx<|n.val % 16):=by decide +kernel
def ai6 b:idx Yf (mz .u8 (u8 b) 4)=ab (hx<|b.toNat / 16):=ahb ⟨b.toNat,b.toNat_lt⟩
def ai7 b:idx Yf (jR .u8 (u8 b) 15)=ab (hx<|b.toNat % 16):=ahc ⟨b.toNat,b.toNat_lt⟩
def zt s {k:Nat} h:idx (aC s) k=ab (u8 s[k]):=by
 rw[vQ];simp[aC,u8,h]
def Dc(s:ay){k:Nat} h:idx s k=ab s[k]:=by
 rw[vQ];simp
def lu s:len (aC s)=(s.length:Int):=by simp[len,aC]
def Sz(s:ay){k} h:s.take (k+1)=s.take k++[s[k]]:=by
 rw[Er,ik h];rfl
def Z9(s:ay){k} h:aC (uP<|s.take<|k+1)=(aC (uP<|s.take k)++[u8<|hx<|s[k].toNat / 16])++[u8<|hx<|s[k].toNat % 16]:=by
 rw[Sz s h,aeY,tW,uw];rfl
def aeZ(s:ay)(a:s.length<=1048576){k}(h:k<s.length)(x y:Int) :
  fits (plus (len<|aC<|uP<|s.take k)<|len [x])=true/\fits (plus (len<|aC (uP<|s.take k)++[x])<|len [y])=true:=by
 constructor
 .apply ec;rw[lu,lU];simp only[kC,plus,len,jC,nQ];omega
 .apply ec;have:(aC (uP<|s.take k)++[x]).length=2*min k s.length+1:=by
   rw[jB,gv,lU,kC];rfl
  simp only[plus,len,jC,nQ];omega
def SA s (b:s.length<=1048576):l9 (s,())=ab (uP s,()):=by
 unfold l9;rw[ec<|by simp only[len];omega,ae];have key:Loop (mD (s,())) ((0,()),((),(),()),[],())=ab (((s.length:Int),()),((),(),()),aC<|uP s,()):=by
  have:=dh (f:=mD (s,())) s.length (λk=>((k,()),((),(),()),aC<|uP _,())) (λk a=>by
   unfold mD;dsimp only;obtain⟨c,d⟩:=aeZ s b a _ _;rw[lu,aO ai,ae,aM ai ai,ae,zt s a,aa,aJ aK,af];rw[show([48,49,50,51,52,53,54,55,56,57,97,98,99,100,101,102])=Yf from rfl,ai6,aa,c,ae,ai7,aa];unfold app;rw[d,ae,jV,aL ai,Z9 s a]) (by
   unfold mD;dsimp only;rw[lu,aJ ai,af,mB,Es])
  exact this
 rw[key,aa];rw[mI]
def amC:∀n:Fin 16,nc ((n.val:Int),())=ab (u8<|hx n.val,()):=by decide +kernel
def KQ{n:Nat}(h:n<16):nc (n,())=ab (u8<|hx n,()):=amC ⟨n,h⟩
def ae0:∀n:Fin 256,Lq .i64 (kE .i64 (n.val:Int)) 16=((n.val / 16:Nat):Int):=by decide +kernel
def ae1:∀n:Fin 256,jQ (kE .i64 (n.val:Int)) 16=((n.val % 16:Nat):Int):=by decide +kernel
def ai8 b:Lq .i64 (kE .i64<|u8 b) 16=((b.toNat / 16:Nat):Int):=ae0 ⟨b.toNat,b.toNat_lt⟩
def ai9 b:jQ (kE .i64<|u8 b) 16=((b.toNat % 16:Nat):Int):=ae1 ⟨b.toNat,b.toNat_lt⟩
def Yg s (b:s.length<=1048576):x6 (s,())=ab (uP s,()):=by
 unfold x6;have key:Loop (oa (s,())) (((),0,()),[],())=ab (((),(s.length:Int),()),aC<|uP s,()):=by
  have:=dh (f:=oa (s,())) s.length (λk=>(((),k,()),aC _,())) (λk a=>by
   unfold oa;dsimp only;obtain⟨c,d⟩:=aeZ s b a _ _;have e:=s[k].toNat_lt;rw[show len s=s.length from rfl,aO ai,ae,Dc s a,aa,ax aK,af,ai8,KQ ai,aa];dsimp only;rw[c,ae,aa,af,ai9,KQ ai,aa];unfold app;rw[d,ae,jV,aL ai,Z9 s a]) (by
   unfold oa;dsimp only;rw[show len s=s.length from rfl,aJ ai,af,mB,Es])
  exact this
 rw[key,aa];rw[mI]
def hv(c:UInt8):Int:=Lib.indexByte Yf c
def hvT:∀n:Fin 256,(hv (UInt8.ofNat n.val)=-1/\∀j:Fin 16,hx j.val≠UInt8.ofNat n.val)\/∃j:Fin 16,hv (UInt8.ofNat n.val)=(j.val:Int)/\hx j.val=UInt8.ofNat n.val/\∀i:Fin 16,i.val<j.val->hx i.val≠UInt8.ofNat n.val:=by decide +kernel
def MK c:(hv c=-1/\∀j,j<16->hx j≠c)\/∃j:Nat,j<16/\hv c=j/\hx j=c/\∀i,i<j->hx i≠c:=by
 have h:=hvT ⟨c.toNat,c.toNat_lt⟩;simp at h;rcases h with ⟨a,b⟩|⟨j,a,b,e⟩
 .exact .inl ⟨a,λj f=>b ⟨j,f⟩⟩
 .exact .inr ⟨j.val,j.isLt,a,b,λi d=>e ⟨i,Nat.lt_trans d j.isLt⟩ d⟩
def aiu:∀n:Fin 16,hv (hx n.val)=(n.val:Int):=by decide +kernel
def Yh{a b}(h:u8 a=u8 b):a=b:=by
 have:a.toNat=b.toNat:=by unfold u8 at h;omega
 exact T0.1 this
def QA c:pW (u8 c,())=ab (hv c,()):=by
 unfold pW;have step:∀r k,k<16->hx k≠c->fm (u8 c,()) ((r,k,()),())=ab (.inl _):=λr k a b=>by
  unfold fm;dsimp only;rw[aO ai,ae,KQ a,aa,ax (λe=>b (Yh e)),af,aL ai]
 rcases MK c with ⟨d,g⟩|⟨j,h,d,g,i⟩
 .have:=dh 16 _ (λk a=>step 0 k a (g k a)) (by
   unfold fm;dsimp only;rw[aJ aK,af])
  rw[show Loop (fm (u8 c,())) ((0,0,()),())=_ from this,aa];dsimp only;rw[show de 0 0=true from rfl,ae,d]
 .have:=dh (f:=fm _) j _ (λk a=>step 0 k ai (i k a)) (by
   unfold fm;dsimp only;rw[aO ai,ae,KQ h,aa,aE (by rw[g]),ae])
  rw[show Loop (fm _) ((0,0,()),())=_ from this,aa];rw[show de 1 0=false from rfl,af,d]
def oj:ay->Option ay
 | []=>ab []
 | [_]=>ah
 | a::b::r=>if hv a<0\/hv b<0 then ah else(oj r).map (UInt8.ofNat (16*(hv a).toNat+(hv b).toNat)::·)
def akH:∀(i j:Fin 16),kE .u8 (aH .i64 (jD .i64 16 (i.val:Int)) (j.val:Int))=u8 (UInt8.ofNat<|16*i.val+j.val):=by decide +kernel
def Vq(l:ay) k (h:k<=l.length):sub l k (minus (len l) k)=l.drop k:=by
 unfold sub minus len;rw[qJ,Hi (by rw[pP];omega)]
def ans:Option ay->ay×Bool×al
 | some l=>(l,true,())
 | none=>([],false,())
def Yi:∀n s,s.length<=n->s.length % 2=1->oj s=none:=by
 intro n;induction n using Nat.strongRecOn with
 | _ n d =>
   intro s c h
   match s,c,h with
   | [],_,h=>simp at h
   | [_],_,_=>rfl
   | a::b::r,c,h =>
     simp at c h;simp only[oj];split
     .rfl
     .rw[d r.length ai r (cp _) ai];rfl
def xc{a b:Nat}(h:a+b<4611686018427387904):aH .i64 a b=((a+b:Nat):Int):=by
 rw[e8 ai ai];omega
def O6(s:ay)(A:s.length<=1048576):∀n i c,s.length-i<=n->i<=s.length->(s.length-i) % 2=0->c.length<=i ->
  ∃q,Loop (iL (s,())) ((([]:ay),false,(),(i:Int),()),c,())=ab q/\(match oj (s.drop i) with
   | some l=>q.1=0/\q.2.2.1=c++aC l
   | none=>q.1=1/\q.2.1.1=[]/\q.2.1.2.1=false):=by
 intro n;induction n using Nat.strongRecOn with
 | _ n u =>
   intro i c B C D E;rw[aT];by_cases e:i<s.length
   .have p:i+1<s.length:=ai;have hd:s.drop i=s[i]::s[i+1]::s.drop (i+2):=by
     rw[y8 e,y8 p]
    rw[hd];generalize v:s[i]=a;generalize o:s[i+1]=b;have e0:iL (s,()) ((([]),false,(),i,()),c,())=(if hv a<0\/hv b<0 then ab (.inr (1,([],false,(),i,()),c,()))
      else ab (.inl ((([]),false,(),((i+2):Int),()),c++[u8<|UInt8.ofNat<|16*(hv a).toNat+(hv b).toNat],()))):=by
     unfold iL;rw[aL ai,aO (by simp only[len];omega),ae,Dc s e,aa,v,QA,aa,Dc s p,aa,o,QA,aa];by_cases f:hv a<0
     .rw[aO f,aG,af,ae,aX (.inl f)]
     .rw[aJ ai,aA,ae];by_cases g:hv b<0
      .rw[aO g,ae,aX (.inr g)]
      .rw[aJ ai,aR ai];have w:kE .u8 (aH .i64 (jD .i64 16<|hv a)<|hv b)=u8 (UInt8.ofNat<|16*(hv a).toNat+(hv b).toNat):=by
        rcases MK a with ⟨h,_⟩|⟨j,x,h,_⟩
        .omega
        rcases MK b with ⟨r,_⟩|⟨k,y,r,_⟩
        .omega
        rw[h,r];exact akH ⟨j,x⟩ ⟨k,y⟩
       rw[w,ec (by simp only[plus,len,jC,nQ];omega),show aH .i64 i 2=_ from xc (b:=2) ai];rfl
    rw[e0];by_cases d:hv a<0\/hv b<0
    .rw[aX d];refine⟨_,rfl,?_⟩;simp only[oj,aX d];exact⟨trivial,trivial,trivial⟩
    .rw[aR d];obtain⟨q,z,m⟩:=u (s.length-(i+2)) ai _ (c++[u8 _]) (cp _) ai ai jA;refine⟨q,z,?_⟩;simp only[oj,aR d];cases t:oj _ with
     | none=>rw[t] at m;exact m
     | some l =>
       rw[t] at m;refine⟨m.1,?_⟩;rw[m.2,uw];rfl
   .have:i=s.length:=ai;subst this;rw[Lk];refine⟨(0,([],false,(),s.length,()),c,()),?_,rfl,by simp[aC]⟩;unfold iL;rw[aL ai,aJ (by simp only[len];omega)];rfl
def Gp s (c:s.length<=1048576):pX (s,())=ab (ans<|oj s):=by
 unfold pX;rw[ show jQ (len s) 2=_ from xa s.length 2];rcases Nat.mod_two_eq_zero_or_one s.length with h|h
 .rw[h];obtain⟨q,d,a⟩:=O6 s c s.length 0 [] ai ai (by simpa using h) bb;rw[show Loop (iL _) (([],false,(),0,()),_)=ab q from d,aa];rw[zR] at a;cases b:oj s with
  | none =>
    rw[b] at a;rw[a.1,a.2.1,a.2.2];rfl
  | some l =>
    rw[b] at a;rw[a.1,a.2,Bx,mI];rfl
 .rw[h,Yi s.length s (cp _) h];rfl
def QB:∀l,oj (uP l)=ab l:=by
 intro l;induction l with
 | nil=>rfl
 | cons b r a =>
   have c:=b.toNat_lt;simp only[uP,oj,(aiu ⟨b.toNat / 16,ai⟩),(aiu ⟨b.toNat % 16,ai⟩),a];rw[aR ai];rw[qJ,qJ,show 16*_+b.toNat % 16=b.toNat by omega];simp
def Yj:ay:=[115,104,97,50,53,54,58]
def ku(s:ay):ay:=Yj++uP (bu<|sha s)
def Ji s:(ku s).length=71:=by
 unfold ku;rw[jB,lU];simp[bu,qO,Yj]
def QC{α}(l:List α) n (h:l.length=n):sub l 0 (minus n 0)=l:=by
 unfold sub minus;rw[show((0:Int).toNat)=0 from rfl,zR,Hi ai]
def Yk s (a:s.length<=1048576):n9 (s,())=ab (ku s,()):=by
 unfold n9;rw[Ye s a,aa];rw[show sub _ 0 (minus 32 0)=sha s from QC _ 32 (qO s),SA _ (by simp[bu,qO]),aa];dsimp only;rw[ec<|by simp only[plus,len,lU,bu,ux,qO,jC,nQ];omega];rfl
def HO s (a:s.length<=1048576):te (s,())=ab (ku s,()):=by
 unfold te;rw[Yd s a,aa];rw[show sub _ 0 (minus 32 0)=sha s from QC _ 32 (qO s),Yg _ (by simp[bu,qO]),aa];dsimp only;rw[ec<|by simp only[plus,len,lU,bu,ux,qO,jC,nQ];omega];rfl
def ahd(t:ay):Int:=if t.length=71/\t.take 7=Yj/\(oj<|t.drop 7).isSome=true then 0 else 2
def ML(l:ay)(k:Nat):sub l 0 (minus k 0)=l.take k:=by
 unfold sub minus;rw[show((0:Int).toNat)=0 from rfl,zR,Int.sub_zero,qJ]
def Gq t (b:t.length<=1048576):fA (t,())=ab (ahd t,()):=by
 unfold fA ahd;by_cases a:t.length=71
 .rw[aE<|by simp only[len];omega,aG,aA,ae,aV aK aK (by simp only[len];omega),ae,aa,
   show sub t 0 (minus 7 0)=t.take 7 from ML t 7,show([115,104,97,50,53,54,58])=Yj from rfl]
  by_cases h:t.take 7=Yj
  .rw[h,rR,aG,af,aV aK (by simp only[len];omega) (sF _),ae,
    show sub t 7 (minus _ 7)=t.drop 7 from Vq t 7 ai,Gp _ (by rw[pP];omega),aa]
   cases c:oj _ with
   | none =>
     rw[aR bb];show ao (nt false) _ _=_
     rw[aA,ae]
   | some l =>
     show ao (nt true) _ _=_
     rw[aG,af,aX ⟨a,rfl,rfl⟩]
  .rw[show bH _ Yj=false from cL h,aA,ae,aR λe=>h e.2.1]
 .rw[ax<|by simp only[len];omega,aA,aG,af,aa,ae,aR λe=>a e.1]
def abJ s:(ku s).take 7=Yj:=adw rfl
def abK s:(ku s).drop 7=uP (bu<|sha s):=List.drop_left' rfl
def Yl s:ahd (ku s)=0:=by
 have a:(oj<|(ku s).drop 7).isSome=true:=by
  rw[abK,QB];rfl
 exact aX ⟨Ji s,abJ s,a⟩
def amD(n k:Nat):UInt8:=UInt8.ofNat (48+n / 8 ^ k % 8)
def Ym(n:Nat):Nat->ay
 | 0=>[]
 | k+1=>amD n k::Ym n k
set_option maxRecDepth 100000
def cX(p:UInt8->Bool)(s:ay):ay:=(s.reverse.dropWhile p).reverse
def xd{p} s {x} (h:p x=true):cX p (s++[x])=cX p s:=by
 simp[cX,h]
def yL{p} s {x} (h:p x=false):cX p (s++[x])=s++[x]:=by
 simp[cX,h]
def QD{p}:∀z s,(∀x∈z,p x=true)->cX p (s++z)=cX p s:=by
 intro z;induction z with
 | nil=>intro s _;rw[zQ]
 | cons x r a =>
   intro s h;rw[show s++x::r=(s++[x])++r by simp,a _ (λy b=>h y (va _ b)),xd s (h x<|pI ..)]
def ae2{p s}(h:∀x,s.getLast?=ab x->p x=false):cX p s=s:=by
 rcases Zp s with rfl|⟨r,x,rfl⟩
 .rfl
 .have:=h x bb;rw[adj];exact yL r this
def Vr(r:ay) x (a:r.length<=1048576):da .i64 (len<|r++[x]) 1=(r.length:Int)/\idx (r++[x]) (r.length:Int)=ab x:=by
 constructor
 .have:len (r++[x])=((r.length+1):Int):=by simp[len]
  rw[ dL ai ai];omega
 .rw[vQ];simp
def O7 c:∀n s,s.length<=n->s.length<=1048576->∀q,Loop (fK (q,c,())) ((s,()),())=ab ((cX (λx=>aS (u8 x) c) s,()),()):=by
 intro n;induction n with
 | zero =>
   intro s h _ q;obtain rfl:s=[]:=zN.1 ai;rw[aT];rfl
 | succ n e =>
   intro s h a q;rcases Zp s with rfl|⟨r,x,rfl⟩
   .grind
   .rw[adj] at h a⊢;rw[jB] at h a;obtain⟨b,d⟩:=Vr r x ai;rw[aT];have e0:fK (q,c,()) ((r++[x],()),())=if aS (u8 x) c=true then ab (.inl ((r,()),())) else ab (.inr ((r++[x],()),())):=by
     unfold fK;rw[aO<|by simp only[len,jB,jC];omega,ae,b,d,aa,aa];cases hx:aS _ c with
     | true =>
       rw[ae,aV ai ai (by simp only[len,jB];omega),ae,jV,show sub _ 0 _=r from by rw[ML];simp,aX rfl]
     | false=>rw[af,mB,aR bb]
    rw[e0];cases hx:aS _ c with
    | true =>
      rw[ xd r hx]
      grind
    | false =>
      rw[ yL r hx];rfl
def x8 s c (a:s.length<=1048576):fo (s,c,())=ab (cX (λx=>aS (u8 x) c) s,()):=by
 unfold fo;rw[O7 c s.length s (cp _) a s,aa]
def cU(x:UInt8):Bool:=aS (u8 x) 0
def zu x:cU x=true↔x=0:=by
 unfold cU aS;rw[TP];constructor
 .intro h;exact Yh h
 .rintro rfl;rfl
def O8 s (a:s.length<=1048576):eS (s,[0],())=ab (cX cU s,()):=by
 unfold eS;by_cases h:s=[]
 .subst h;rfl
 .rw[show bH s []=false from cL h,aA,ae,show aS _ 1=true from rfl,ae,show idx ([0]:ay) 0=ab 0 from rfl,aa,aa,aa,
   x8 s _ a]
  rfl
def xe:List Bool:=((List.replicate 256 false).set 0 true).set 32 true
def Ao(x:UInt8):Bool:=xe.getD x.toNat false
def SB:xe.length=256:=by simp only[xe,adv,P1]
def aja:∀n:Fin 256,xe.getD n.val false=(decide (n.val=0)||decide (n.val=32)):=by decide +kernel
def Vs x:Ao x=true↔x=0\/x=32:=by
 unfold Ao;rw[aja ⟨x.toNat,x.toNat_lt⟩];simp;constructor
 .rintro(h|h)
  .exact .inl (T0.1 h)
  .exact .inr (T0.1 h)
 .rintro(rfl|rfl)
  .grind
  .grind
def SC x:cI ((u8 x,()),xe,())=ab ((Ao x,()),xe,()):=by
 unfold cI;have hx:=x.toNat_lt;have e:u8 x=x.toNat:=rfl;dsimp only;rw[e,aM ai ai,fH xe false (by show _<xe.length;rw[SB];omega)];rfl
def Vt:eF ([0,32],())=ab (xe,true,()):=by
 have key:Loop (eO ([0,32],())) ((false,0,()),List.replicate 256 false,())=ab (0,(false,2,()),xe,()):=by
  rw[aT];show Loop _ _=_
  rw[aT];show Loop _ _=_
  rw[aT];rfl
 exact(congrArg (ag · _) key).trans rfl
def Vu:∀n s,s.length<=n->s.length<=1048576->Loop cJ ((s,()),xe,())=ab ((cX Ao s,()),xe,()):=by
 intro n;induction n with
 | zero =>
   intro s h _;obtain rfl:s=[]:=zN.1 ai;rw[aT];rfl
 | succ n d =>
   intro s h a;rcases Zp s with rfl|⟨r,x,rfl⟩
   .grind
   .rw[adj] at h a⊢;rw[jB] at h a;obtain⟨b,c⟩:=Vr r x ai;rw[aT];have e0:cJ ((r++[x],()),xe,())=if Ao x=true then ab (.inl ((r,()),xe,())) else ab (.inr ((r++[x],()),xe,())):=by
     unfold cJ;rw[aO<|by simp only[len,jB,jC];omega,ae,b,c,aa,SC,aa];cases hx:Ao x with
     | true =>
       rw[aG,af,aV ai ai (by simp only[len,jB];omega),ae,jV,show sub _ 0 _=r from by rw[ML];simp,aX rfl]
     | false=>rw[aA,ae,mB,aR bb]
    rw[e0];cases hx:Ao x with
    | true =>
      rw[ xd r hx]
      grind
    | false =>
      rw[ yL r hx];rfl
def Gr s (a:s.length<=1048576):eS (s,[0,32],())=ab (cX Ao s,()):=by
 unfold eS;by_cases h:s=[]
 .subst h;rfl
 .rw[show bH s []=false from cL h,aA,ae,show bH [0,32] []=false from rfl,af,show aS _ 1=false from rfl,af,aa,Vt,aa];unfold ed;rw[Vu s.length s (cp _) a];rfl
def O9 c:∀n s,s.length<=n->∀q,Loop (fZ (q,c,())) ((s,()),())=ab ((s.dropWhile<|λx=>aS (u8 x) c,()),()):=by
 intro n;induction n with
 | zero =>
   intro s h q;obtain rfl:s=[]:=zN.1 ai;rw[aT];rfl
 | succ n a =>
   intro s h q;cases s with
   | nil=>rw[aT];rfl
   | cons x r =>
     rw[aT];have e0:fZ (q,c,()) ((x::r,()),())=if aS (u8 x) c=true then ab (.inl ((r,()),())) else ab (.inr ((x::r,()),())):=by
      unfold fZ;rw[aO<|by simp only[len,jC];omega,ae,show idx _ 0=ab x from rfl,aa,aa];cases hx:aS _ c with
      | true =>
        rw[ae,aV aK (by simp only[len,jC];omega) (sF _),ae,jV,show sub _ 1 _=r from Vq _ 1 bb,aX rfl]
      | false=>rw[af,mB,aR bb]
     rw[ Ov]
     grind
def HP s c:iu (s,c,())=ab (s.dropWhile<|λx=>aS (u8 x) c,()):=by
 unfold iu;rw[O9 c s.length s (cp _) s,aa]
def HQ{p}{l:ay}{x}(h:x∈l.takeWhile p):p x=true:=vL.1 List.all_takeWhile x h
def Vv s (a:s.length<=1048576):iY (s,[0],())=ab ((cX cU s).dropWhile cU,()):=by
 unfold iY;by_cases h:s=[]
 .subst h;rfl
 .rw[show bH s []=false from cL h,aA,ae,show aS _ 1=true from rfl,ae,show idx ([0]:ay) 0=ab 0 from rfl,aa,aa,aa,
   x8 s _ a,aa,aa,HP]
  rfl
def xf s:(cX cU s).dropWhile cU=[]↔∀x∈s,x=0:=by
 constructor
 .intro h;have e:∀x∈cX cU s,cU x=true:=by
   intro x a;have:=El (p:=cU) (l:=cX cU s);rw[h,zQ] at this;rw[<-this] at a;exact HQ a
  have b:cX cU s=[]:=by
   rcases Zp _ with b|⟨r,x,b⟩
   .exact b
   .exfalso;have a:=e x (by rw[b];simp);unfold cX at b;have c:(s.reverse.dropWhile cU)=x::r.reverse:=by
     grind
    have:=List.head?_dropWhile_not cU s.reverse
    grind
  intro x a;have c:s.reverse.dropWhile cU=[]:=by
   have:=congrArg List.reverse b;simpa [cX] using this
  have:=El (p:=cU) (l:=s.reverse);rw[c,zQ] at this;have d:=TY.2 a;rw[<-this] at d;exact(zu x).1 (HQ d)
 .intro h;have:cX cU s=[]:=by
   have:=QD s [] (λx a=>(zu x).2 (h x a));exact this
  simp_all
def MM b (c:b.length<=1048576):tP (b,())=ab (decide (b.length=512/\∀x∈b,x=0),()):=by
 unfold tP;by_cases h:b.length=512
 .rw[aE<|by simp only[len];omega,ae,Vv b c,aa,aa];unfold bH;by_cases a:∀x∈b,x=0
  .rw[dD<|(xf b).2 a,dD ⟨h,a⟩]
  .rw[cL<|λe=>a ((xf b).1 e),cL λe=>a e.2]
 .rw[ax<|by simp only[len];omega,af,aa,cL λe=>h e.1]
end Go.Ge
namespace Go.Ge
variable [Lp]
def aiv:∀d:Fin 8,kE .i64 (da .u8 ((48+d.val:Nat):Int) 48)=(d.val:Int):=by decide +kernel
def amE{v d:Nat}(a:d<8)(g:8*v+d<9223372036854775808):zM .i64 (nR .i64 v 3) (kE .i64<|da .u8 ((48+d:Nat):Int) 48)=((8*v+d:Nat):Int):=by
 rw[aiv ⟨d,a⟩];have b:nR .i64 v 3=((8*v:Nat):Int):=by
  unfold nR;rw[show min _ IntKind.i64.bits=3 from rfl,show v*2 ^ 3=((8*v):Int) by omega];exact Ag ai ai
 rw[b];unfold zM;have e:(BitVec.ofInt IntKind.i64.bits ((8*v:Nat):Int) ||| BitVec.ofInt IntKind.i64.bits (d:Int)).toNat=8*v+d:=by
  rw[BitVec.toNat_or];have c:(BitVec.ofInt IntKind.i64.bits ((8*v:Nat):Int)).toNat=2 ^ 3*v:=by
   rw[ado,show(IntKind.i64.bits)=64 from rfl];omega
  have f:(BitVec.ofInt IntKind.i64.bits d).toNat=d:=by
   rw[ado,show(IntKind.i64.bits)=64 from rfl];omega
  rw[c,f,<-Nat.two_pow_add_eq_or_of_lt a]
 rw[e];exact Ag ai ai
def zv(s:ay):Prop:=∀x∈s,x≠0
instance (s:ay):Decidable (zv s):=inferInstanceAs (Decidable (∀x∈s,x≠0))
def HR:∀s,decide (Lib.indexByte s 0<0)=decide (zv s):=by
 intro s;induction s with
 | nil=>rfl
 | cons b r a =>
   unfold Lib.indexByte;by_cases d:b=0
   .subst d;rw[aX<|by rfl,cL aK,cL λh=>h 0 (pI ..) rfl]
   .rw[aR<|by simpa using d];by_cases c:zv r
    .rw[dD c] at a;have e:=iq a;have g:=(A9 0 r).1;have f:Lib.indexByte r 0=-1:=ai;rw[f,dD aK,dD];intro x hx;rcases lW.1 hx with rfl|hx
     .exact d
     .exact c x hx
    .rw[cL c] at a;have e:=adp a;rw[aR jA,cL ai,cL];intro h;exact c λx hx=>h x (va _ hx)
def Gs s:dy (s,0,())=ab (Lib.indexByte s 0,()):=rfl
def Gt s (a:s.length<=1048576):ks (s,())=ab (cX cU s,decide<|zv<|cX cU s,()):=by
 unfold ks;rw[O8 s a,aa];rw[Gs,aa];unfold ba;rw[HR]
abbrev Hd:=ay×Int×Int×Int×Int×Int×Int×ay×al
def clr(s:ay)(a:Int):Prop:=s≠[]/\(s.length:Int)<=a/\zv s
instance (s:ay) (a:Int):Decidable (clr s a):=inferInstanceAs (Decidable<|_/\_/\_)
def SD(n b:Int):Prop:=0<=n/\n<b
instance (n b:Int):Decidable (SD n b):=inferInstanceAs (Decidable<|_/\_)
def kindOk(h:Hd):Prop:=(h.2.1=1/\h.2.2.2.2.2.2.2.1=[])\/(h.2.1=2/\h.2.2.2.2.2.2.2.1=[]/\h.2.2.2.2.2.1=0)\/(h.2.1=3/\clr h.2.2.2.2.2.2.2.1 100/\h.2.2.2.2.2.1=0)
instance (h:Hd):Decidable (kindOk h):=inferInstanceAs (Decidable<|_\/_\/_)
def MN(h:Hd)(a:Int):Prop:=SD h.2.2.1 2097152/\SD h.2.2.2.1 2097152/\SD h.2.2.2.2.1 2097152/\SD h.2.2.2.2.2.1 8589934592/\SD h.2.2.2.2.2.2.1 8589934592/\clr h.1 a/\kindOk h
instance (h:Hd) (a:Int):Decidable (MN h a):=inferInstanceAs (Decidable<|_/\_/\_/\_/\_/\_/\_)
def ES n b:lR (n,b,())=ab (decide<|SD n b,()):=by
 unfold lR;by_cases h:0<=n
 .rw[bO h,ae];unfold ba SD;simp[h]
 .rw[ea ai,af,cL λe=>h e.1]
def QE s m:oc (s,m,())=ab (decide<|clr s m,()):=by
 unfold oc;by_cases h:s=[]
 .subst h;rw[show bH [] []=true from rfl,aG,af,af,aa,cL λe=>e.1 rfl]
 .rw[show bH s []=false from cL h,aA,ae];by_cases a:s.length<=m
  .rw[bO<|by exact a,ae,Gs,aa,aa];unfold ba;rw[HR];unfold clr;simp[h,a]
  .rw[ea<|by simp only[len];omega,af,aa,cL λe=>a e.2.1]
def Vw(h:Hd) m:re (h,m,())=ab (decide<|MN h m,()):=by
 unfold re;by_cases d:SD h.2.2.1 2097152
 case neg=>rw[ES,aa,cL d,af,aa,af,aa,af,aa,af,aa,aA,aG,af,aa,ae,cL λe=>d e.1]
 rw[ES,aa,dD d,ae,ES,aa,aa];by_cases f:SD h.2.2.2.1 2097152
 case neg=>rw[cL f,af,aa,af,aa,af,aa,aA,aG,af,aa,ae,cL λe=>f e.2.1]
 rw[dD f,ae,ES,aa,aa];by_cases g:SD h.2.2.2.2.1 2097152
 case neg=>rw[cL g,af,aa,af,aa,aA,aG,af,aa,ae,cL λe=>g e.2.2.1]
 rw[dD g,ae,ES,aa,aa];by_cases i:SD h.2.2.2.2.2.1 8589934592
 case neg=>rw[cL i,af,aa,aA,aG,af,aa,ae,cL λe=>i e.2.2.2.1]
 rw[dD i,ae,ES,aa,aa];by_cases j:SD h.2.2.2.2.2.2.1 8589934592
 case neg=>rw[cL j,aA,aG,af,aa,ae,cL λe=>j e.2.2.2.2.1]
 rw[dD j,aG,aA,ae,QE,aa,aa];by_cases k:clr h.1 m
 case neg=>rw[cL k,aA,ae,cL λe=>k e.2.2.2.2.2.1]
 rw[dD k,aG,af];rw[(gX.2 ⟨λe=>e.2.2.2.2.2.2,λe=>⟨d,f,g,i,j,k,e⟩⟩)];by_cases l:h.2.1=1
 .rw[l,n7,ae];unfold bH;rw[show decide _=decide (kindOk h) from gX.2 (by unfold kindOk;simp[l])]
 .rw[ax l,af];by_cases b:h.2.1=2
  .rw[b,n7,ae];unfold bH aS;by_cases a:h.2.2.2.2.2.2.2.1=[]
   .rw[dD a,ae,show decide (h.2.2.2.2.2.1=0)=decide (kindOk h) from gX.2 (by unfold kindOk;simp[b,a])]
   .rw[cL a,af,show decide (kindOk h)=false from cL (by unfold kindOk;simp[b,a])]
  .rw[ax b,af];by_cases c:h.2.1=3
   .rw[c,n7,ae,QE,aa];unfold aS;by_cases a:clr h.2.2.2.2.2.2.2.1 100
    .rw[dD a,ae,show decide _=decide (kindOk h) from gX.2 (by unfold kindOk;simp[c,a])]
    .rw[cL a,af,show decide _=false from cL (by unfold kindOk;simp[c,a])]
   .rw[ax c,af,show decide _=false from cL (by unfold kindOk;simp[l,b,c])]
def cC:ay->List ay
 | []=>[[]]
 | b::r=>if b=47 then []::cC r else match cC r with
   | h::t=>(b::h)::t
   | []=>[[b]]
def pb s:cC s≠[]:=by
 cases s with
 | nil=>simp[cC]
 | cons b r =>
   unfold cC
   grind
def j6{b}(h:b≠47){r x t}(e:cC r=x::t):cC (b::r)=(b::x)::t:=by
 rw[cC,aR h,e]
def parts(p:ay):List ay:=if p=[] then [] else cC p
def Vx{b}(h:b≠47):∀k r x t,Lib.splitK [47] 0 k r=x::t->Lib.splitK [47] 0 k (b::r)=(b::x)::t:=by
 intro k r x t e;cases k with
 | zero=>simp[Lib.splitK] at e⊢;exact⟨by rw[e.1],e.2⟩
 | succ k =>
   have a:Lib.index (b::r) [47]=if Lib.index r [47]==-1 then -1 else Lib.index r [47]+1:=by
    rw[Lib.index]
    grind
   have d:=Lib.index_ge r [47];unfold Lib.splitK at e⊢;rw[a];by_cases c:(Lib.index r [47]==-1)=true
   .grind
   .rw[aR c] at e⊢;have f:Lib.index r [47]≠-1:=λq=>c (by rw[q];rfl);have g:¬((Lib.index r [47]+1==-1)=true):=λq=>by have:=beq_iff_eq.1 q;omega
    obtain⟨j,i⟩:∃j:Nat,Lib.index r [47]=j:=⟨(Lib.index r [47]).toNat,ai⟩;simp_all
def SE k r:Lib.splitK [47] 0 (k+1) (47::r)=[]::Lib.splitK [47] 0 k r:=by
 have a:Lib.index (47::r) [47]=0:=by rw[Lib.index];simp
 rw[Lib.splitK,a];simp
def abL:∀s k,s.count 47<=k->Lib.splitK [47] 0 k s=cC s:=by
 intro s;induction s with
 | nil =>
   intro k _;cases k with
   | zero=>rfl
   | succ k=>simp[Lib.splitK,cC,Lib.index]
 | cons b r e =>
   intro k a;by_cases h:b=47
   .subst h;obtain⟨c,rfl⟩:∃c,k=c+1:=⟨k-1,by rw[List.count_cons_self] at a;omega⟩;rw[SE,e c (by rw[List.count_cons_self] at a;omega),cC,aX rfl]
   .have:=e k (by rwa [List.count_cons_of_ne h] at a);cases d:cC r with
    | nil=>exact absurd d (pb r)
    | cons x t =>
      rw[d] at this;rw[Vx h k r x t this,j6 h d]
def ae4 s:Lib.split s [47]=cC s:=abL s _ (by rw[Lib.count_one];apply cp)
def aaa c:aS (u8 c) 47=decide (c=47):=DT (n:=47)
def akI c:aS (u8 c) 0=decide (c=0):=DT (n:=0)
def ri p (a:p.length<=1048576):fC (p,())=ab (parts p,()):=by
 unfold fC parts;by_cases h:p=[]
 .rw[di h,ae,aX h]
 .rw[bw h,af,aR h];have:vg (p,[47],())=ab (cC p,()):=by
   show(C7 p [47]).map _=_
   unfold C7;simp only;rw[aX ai,ae4];rfl
  rw[this,aa]
def iw p (w:p.length<=1048576):eB (p,())=ab (parts p,()):=by
 unfold eB parts;by_cases h:p=[]
 .rw[di h,ae,aX h]
 .rw[bw h,af,aR h];have key:=pV (f:=lq (p,())) p (λs i=>(((),s.1,i,()),s.2,()))
   (λi s x=>ab (.inl<|if x=47 then([],s.2++[s.1]) else(s.1++[x],s.2))) (λi s=>(((),s.1,i,()),s.2,())) (λi s=>s.1.length<=i/\s.2.length<=i)
   (λs i x l v q=>by
    unfold lq;dsimp only;rw[aq v,ae,au l,aa,aaa];by_cases b:x=47
    .rw[dD b,ae,bo jA,aL ai];simp only[aX b];rfl
    .rw[cL b,af,aL ai,l8 ai ai,sub_one l,bo jA];simp only[aR b];rfl)
   (λs i x y l q c=>by
    obtain rfl:=T4 (aQ c);by_cases b:x=47
    .grind
    .simp only[aR b,jB,jC,nQ];omega)
   (λs q=>by
    unfold lq;rw[aw];rfl)
   (λs i x _ _ h=>by cases h) ([],[]) ⟨cp _,cp _⟩
  have run:∀r i a o,∃e d j,uL (λi s x=>ab (.inl<|if x=47 then([],s.2++[s.1]) else(s.1++[x],s.2))) (λi s=>(((),s.1,(i:Int),()),s.2,())) r i (a,o)=ab (((),e,j,()),d,()) /\
    d++[e]=o++(match cC r with|h::t=>(a++h)::t|[]=>[a])/\d.length<=o.length+r.length:=by
   intro r;induction r with
   | nil=>intro i a o;exact⟨a,o,_,rfl,by simp[cC],bb⟩
   | cons x r u =>
     intro i a o;by_cases b:x=47
     .obtain⟨e,d,j,m,g,n⟩:=u (i+1) [] (o++[a]);refine⟨e,d,j,?_,?_,?_⟩
      .unfold uL
       grind
      .rw[g,cC,aX b];cases c:cC r with
       | nil=>exact absurd c (pb r)
       | cons h t=>simp
      .grind
     .obtain⟨e,d,j,m,g,n⟩:=u (i+1) (a++[x]) o;refine⟨e,d,j,?_,?_,?_⟩
      .unfold uL
       grind
      .rw[g];cases c:cC r with
       | nil=>exact absurd c (pb r)
       | cons h t=>rw[j6 b c];simp
      .grind
  obtain⟨e,d,j,m,g,n⟩:=run p 0 [] [];have k:Loop (lq _) (((),([]),0,()),_)=ab _:=key.trans m;rw[k,aa];simp at n;rw[bo jA,ae,vf,g];cases c:cC p with
  | nil=>exact absurd c (pb p)
  | cons h t=>simp
def aP:List ay->ay
 | []=>[]
 | [x]=>x
 | x::y::r=>x++47::aP (y::r)
def ae5 l:Lib.join l [47]=aP l:=by
 induction l with
 | nil=>rfl
 | cons x r a =>
   cases r with
   | nil=>simp[Lib.join_one,aP]
   | cons y r =>
     rw[aP,<-a,Lib.join_cons,Lib.join_cons];simp[Lib.joinTail]
def vU s:aP (cC s)=s:=by
 induction s with
 | nil=>rfl
 | cons b r a =>
   by_cases h:b=47
   .subst h;rw[cC,aX rfl];cases c:cC r with
    | nil=>exact absurd c (pb r)
    | cons x t=>rw[aP,<-c,a];rfl
   .cases c:cC r with
    | nil=>exact absurd c (pb r)
    | cons x t =>
      rw[j6 h c];rw[c] at a;cases t with
      | nil=>rw[aP] at a⊢;rw[a]
      | cons y t=>rw[aP] at a⊢;rw[JJ,a]
def fV p:aP (parts p)=p:=by
 unfold parts;by_cases h:p=[]
 .rw[ h];rfl
 .rw[aR h,vU]
def ET x (hx:47∉x) r:cC (x++47::r)=x::cC r:=by
 induction x with
 | nil=>rw[Bx,cC,aX rfl]
 | cons b x a =>
   simp at hx;exact j6 (λe=>hx.1 e.symm) (a hx.2)
def pc x (hx:47∉x):cC x=[x]:=by
 induction x with
 | nil=>rfl
 | cons b x a =>
   simp at hx;exact j6 (λe=>hx.1 e.symm) (a hx.2)
def Gu l (a:l≠[]) (h:∀x∈l,47∉x):cC (aP l)=l:=by
 induction l with
 | nil=>exact absurd rfl a
 | cons x r b =>
   cases r with
   | nil=>exact pc x (h x<|pI ..)
   | cons y r =>
     rw[aP,ET x (h x<|pI ..),b bb λz c=>h z (va _ c)]
def Yn s:∀x∈cC s,47∉x/\x.length<=s.length:=by
 induction s with
 | nil=>intro x a;simp[cC] at a;subst a;simp
 | cons b r d =>
   intro x a;by_cases h:b=47
   .rw[cC] at a
    grind
   .cases c:cC r with
    | nil=>exact absurd c (pb r)
    | cons y t =>
      rw[j6 h c] at a
      grind
def DW s:(cC s).length<=s.length+1:=by
 induction s with
 | nil=>simp[cC]
 | cons b r c =>
   by_cases h:b=47
   .rw[cC,aX h];simp;omega
   .cases a:cC r with
    | nil=>exact absurd a (pb r)
    | cons y t=>rw[j6 h a];rw[a] at c;simp at c⊢;omega
def QF p:∀x∈parts p,47∉x/\x.length<=p.length:=by
 unfold parts;by_cases h:p=[]
 .grind
 .rw[aR h];exact Yn p
def fM p:(parts p).length<=p.length+1:=by
 unfold parts;by_cases h:p=[]
 .grind
 .rw[aR h];exact DW p
def j7 l (h:∀x∈l,47∉x/\x≠[]):parts (aP l)=l:=by
 unfold parts;cases l with
 | nil=>rfl
 | cons x r =>
   have a:aP (x::r)≠[]:=by
    have:=(h x<|pI ..).2;cases r with
    | nil=>exact this
    | cons y r=>rw[aP];simp
   rw[aR a,Gu _ bb λz b=>(h z b).1]
end Go.Ge
