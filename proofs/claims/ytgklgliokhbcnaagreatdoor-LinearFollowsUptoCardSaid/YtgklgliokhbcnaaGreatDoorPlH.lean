import Derived.Test.YtgklgliokhbcnaaGreatDoorPlG
set_option linter.unusedSectionVars false
set_option linter.unusedVariables false
set_option linter.unusedSimpArgs false
set_option linter.defProp false
noncomputable section
open Option renaming some->aa,none->af
open Sum renaming inl->az
namespace Go.Ge
variable [Lp]
abbrev vE:=Int×Int×Tx×Tx×List Tx×Tx×Tx×Int×aj
def acg l v (j:l.length<=1000000):∃i,ib (l,v,())=aa (i,())/\ch 0 i=decide (v∈l):=by
 unfold ib;rcases eu (f:=fQ (l,v,())) l (λi=>((0,i,()),())) (λ_ x=>decide (v=x)) (λi x=>(1,(i,i,()),())) _ ah (λi x a b c=>by
  unfold fQ;rw[al b,ai,ao a,ab,da,c];by_cases h:v=x<;>simp[aG,h]) (by unfold fQ;rw[aq,ag]) with ⟨i,x,a,d,k,h⟩|⟨e,h⟩
 .refine⟨i,by rw[h];rfl,?_⟩;rw[bz ah,cU];rw[fb d];exact eG a
 .refine⟨-1,by rw[h];rfl,?_⟩;rw[cG ah,cd];intro g;obtain⟨i,b⟩:=bc.1 g;have:=e i v b;simp at this
def Bj l v (a:l.length<=1000000):dD (l,v,())=aa (decide<|v∈l,()):=by
 obtain⟨i,b,c⟩:=acg l v a;unfold dD;rw[b,ab,c]
def PD(a:Int)(l:List Int):List Int:=if a∈l then [a] else []
def lH(c:vE):List Int :=
 if c.1=2\/c.1=11\/c.1=12 then [1,2,3] else if c.1=7 then [2,3] else if c.1=8 then [1,2] else
 if c.1=1\/c.1=3\/c.1=4\/c.1=5\/c.1=6 then [3] else if c.1=9\/c.1=10 then PD c.2.1 [1,2] else
 if c.1=13\/c.1=14\/c.1=15 then PD c.2.1 [1,2,3] else []
def ahy a b:((ak a ((a,()),()) ((b,()),())).1).1=(a||b):=by cases a<;>rfl
def Wp(c:vE) l (a:l.length<=1000000):xM (c,l,())=aa (PD c.2.1 l,()):=by
 unfold xM PD;rw[Bj l _ a];by_cases h:c.2.1∈l
 .rw[aQ h,cU h];rfl
 .rw[aK h,cd h];rfl
def Q6(c:vE):qk (c,())=aa (lH c,()):=by
 unfold qk lH;simp only[ahy];rw[Wp c [1,2] aT,Wp c [1,2,3] aT];simp only[da,aG,Ll,Ap];repeat' (first|rfl|split)
def NR c:(lH c).length<=3:=by
 unfold lH PD;repeat' (first|(simp;done)|split)
def fE(s:aU)(a:Tx)(h:qs s):eR (s,a,())=aa (aS (ix s) a):=by
 unfold eR kt;dsimp only;rw[xS 3 _ h.acd,ab,ab];exact ob (oN (ix s) a (Dz h) (by have:=La h;omega)) rfl
set_option maxRecDepth 100000
end Go.Ge
namespace Go.Ge
variable [Lp]
set_option maxRecDepth 100000
end Go.Ge
namespace Go.Ge
variable [Lp]
instance (s:Tx):Decidable (CV s):=by unfold CV;infer_instance
def YK(s:Tx):gP (s,())=aa ((if CV s then 0 else 10),()):=by
 obtain⟨a,b⟩:=K8 s;rw[ab1 a b];rfl
def BB(s:aU)(p:Tx):List Nd×Int:=if p=[] then([],0) else mS s.2.2.1 s.2.2.2.1 p
def DG{s p}(h:(BB s p).2=0):Valid (BB s p).1:=by
 unfold BB at h⊢;by_cases q:p=[]
 .rw[aQ q];exact Q3
 .rw[aK q] at h⊢;exact Fl h
def NS(d:Tx):Tx:=if d=[] then WU 1024 else d
def Wq(id a:Tx)(b:List Tx)(d:Tx):cD:=(id,a,b,SW<|NS d,((NS d).length:Int),0,true,())
def crS(s:aU)(b:Tx)(a:List Tx)(c:Tx)(d:Int):aU×tD×aj :=
 if eU a≠0 then(s,jq<|eU a,()) else
 if c≠[]/\¬CV c then(s,jq 10,()) else
 if b≠[]/\(aS (ix s) b).2.1≠0 then(s,jq (aS (ix s) b).2.1,()) else
 if pU (ix s) [] a≠0 then(s,jq<|pU (ix s) [] a,()) else
 if(dB (ix s) d).2.1≠0 then(s,jq (dB (ix s) d).2.1,()) else
 if jx s b≠[]/\(dx s.2.2.1<|jx s b).2=0/\16<=(dx s.2.2.1<|jx s b).1.length then(s,jq 5,()) else
 if c≠[]/\(BB s<|jx s b).2≠0 then(s,jq (BB s<|jx s b).2,()) else
 if c≠[]/\(mr (BB s<|jx s b).1 c).2≠0 then(s,jq (mr (BB s<|jx s b).1 c).2,()) else
 (Jz s (Wq (dB (ix s) d).1 (jx s b) a c)<|NS c,Er (dB (ix s) d).1,())
def BC s (on:Tx) (given:List Tx) (a:Tx) d (h:qs s) (G:given.length<=4294967296) (y:a.length<=100000)
  (H:∀p,mh (s,p,())=aa ((mS s.2.2.1 s.2.2.2.1 p).1,(mS s.2.2.1 s.2.2.2.1 p).2,())) :
  jG (s,on,given,a,d,())=aa (crS s on given a d):=by
 have I:=h.ll;have z:aG 0 0=true:=rfl;have es:bt ([]) ([])=true:=rfl;unfold jG;rw[vv given G,ab];unfold crS;by_cases m:eU given=0
 rotate_left
 .rw[aQ m];simp only[aE,ai,ab,ar m];rfl
 rw[aK<|λq=>q m,au m];rw[dq a []];have A:(ak (decide<|a=[]) (aa (((0:Int),()),a,()))<|ae (gP (a,())) λB=>aa ((B.1,()),a,()))=aa (((if a≠[]/\¬CV a then 10 else 0),()),a,()):=by
  by_cases q:a=[]
  .rw[cU q,ai,aK λk=>k.1 q]
  .rw[cd q,ag,YK,ab]
   grind
 rw[show(ak _ (aa _)<|ae (gP _) λB=>aa ((B.1,()),_))=_ from A,ab];by_cases n:a≠[]/\¬CV a
 .rw[aQ n,aQ n];simp only[aE];rfl
 rw[aK n,aK n];simp only[aW,ag,z,dq on];have C:(ak (nt<|decide<|on=[]) (ae (eI (s,on,())) λe=>aa ((e.2.1,()),e.1,()))<|some (((0:Int),()),([]),())) =
   aa (((if on=[] then 0 else(aS (ix s) on).2.1),()),jx s on,()):=by
  unfold jx;by_cases q:on=[]
  .rw[cU q,aW,ag,aQ q,aQ q]
  .rw[cd q,aE,ai,jK s on h,ab,aK q,aK q]
 rw[show(ak (nt _) (ae (eI _) λe=>aa ((e.2.1,()),_))<|some ((0,()),_))=_ from C,ab];have c:(on≠[]/\(aS (ix s) on).2.1≠0)↔¬((if on=[] then 0 else(aS (ix s) on).2.1)=0):=by
  by_cases q:on=[]
  .simp
  .simp
 have j:(on≠[]/\(aS (ix s) on).2.1≠0)->(if on=[] then 0 else(aS (ix s) on).2.1)=(aS _ on).2.1:=λq=>aK q.1;by_cases l:(if on=[] then 0 else(aS (ix s) on).2.1)=0
 rotate_left
 .rw[aQ<|c.2 l];simp only[aE,ai,ab,ar l];rw[j<|c.2 l];rfl
 rw[aK<|λq=>c.1 q l,au l];simp only[aW,ag];rw[Af s h,ab,tj _ [] given (Dz h) G,ab];by_cases c3:pU (ix s) [] given=0
 rotate_left
 .rw[aQ c3];simp only[aE,ai,ab,ar c3];rfl
 rw[aK<|show ¬_ from λq=>q c3,au c3];simp only[aW,ag,ab];rw[Ih,ab];by_cases o:(dB (ix s) d).2.1=0
 rotate_left
 .rw[aQ o];simp only[aE,ai,ab,ar o];rfl
 rw[aK<|show ¬_ from λq=>q o,au o];rw[YG _ _ ah<|λx J=>(h.ln x J).small,ab];rw[dq _ []];have K:(ak (ak (ak (nt<|decide<|jx s on=[]) (aG (dx s.2.2.1<|jx s on).2 0) false) (ch 16<|len (dx s.2.2.1<|jx s on).1) false) (aa (((5:Int),()),jx s on,s,()))<|some (((0:Int),()),jx s on,s,())) =
   aa (((if jx s on≠[]/\(dx s.2.2.1<|jx s on).2=0/\16<=(dx s.2.2.1<|jx s on).1.length then 5 else 0),()),jx s on,s,()):=by
  have E:ch 16 (len (dx s.2.2.1<|jx s on).1)=decide (16<=(dx s.2.2.1<|jx s on).1.length):=by unfold len;apply gm.2;omega
  rw[E,ZV];by_cases r:jx s on=[]
  .rw[cU r,aW,ag,ag,ag,aK λq=>q.1 r]
  .rw[cd r,aE,ai];by_cases t:(dx s.2.2.1<|jx s on).2=0
   .rw[cU t,ai];by_cases u:16<=(dx s.2.2.1<|jx s on).1.length
    .rw[cU u,ai,aQ ⟨r,t,u⟩]
    .rw[cd u,ag,aK λq=>u q.2.2]
   .rw[cd t,ag,ag,aK λq=>t q.2.1]
 rw[show(ak (ak (ak (nt _) _ false) (ch 16 _) false) (aa (((5:Int),()),_))<|some ((0,()),_))=_ from K,ab];by_cases v:jx s on≠[]/\(dx s.2.2.1<|jx s on).2=0/\16<=(dx s.2.2.1<|jx s on).1.length
 .rw[aQ v,aQ v];rfl
 rw[aK v,aK v];simp only[z,aW,ag];have F:iV (s,jx s on,())=aa ((BB s<|jx s on).1,(BB s<|jx s on).2,()):=by
  unfold iV BB;by_cases q:jx s on=[]
  .rw[cc q,ai,aQ q]
  .rw[aY q,ag,aK q,H,ab]
 have fin:∀D,D.length<=100000->∀(f:_->Option (aU×tD×aj)),
   ae (oo (D,())) (λe=>ae (sN (s,((dB (ix s) d).1,jx s on,@app Tx [] given,e.1,@len UInt8 D,0,true,()),D,())) f) =
    f (Jz s ((dB (ix s) d).1,jx s on,given,SW D,(D.length:Int),(0:Int),true,()) D,()):=by
  intro D L f;refine ob (aeS D ah) ?_;refine ob (afp s ((dB _ d).1,jx s on,given,SW D,D.length,_) D ah) rfl
 have b:fits (plus (@len Tx []) _)=true:=aJ cT;by_cases g:a=[]
 .subst g;rw[es,ai];simp only[z,aW,ag,ab];rw[es,ai,afq,ab,ab];rw[b,fin _ (by rw[Fe];decide)];rfl
 rw[aY g,ag,F,ab];by_cases i:(BB s<|jx s on).2=0
 rotate_left
 .rw[aQ ⟨g,i⟩,ar i,ag];simp only[ar i,aE,ai,ab];rfl
 rw[aK<|λq=>q.2 i,au i,ai,QU (DG i)];by_cases w:(mr (BB s<|jx s on).1 a).2=0
 rotate_left
 .rw[aQ ⟨g,w⟩];simp only[ar w,aE,ai,ab];rfl
 rw[aK λq=>q.2 w];simp only[au w,aW,ag,ab];rw[aY g,ag,ab];rw[b,fin a y];unfold Wq NS;rw[aK g];rfl
def ahA{a:Type}(A B:List a) x y:(A++x::B).set A.length y=A++y::B:=by
 simp
def afr:∀k (A M B:List cD),M.length<=k->A.length+M.length+B.length<=1000000 ->
  ∃q,Loop fK (((A.length:Int),(A.length:Int)+(M.length:Int)-1,(),()),A++M++B,())=aa (q,A++M.reverse++B,()):=by
 intro k;induction k with
 | zero =>
   intro A M B d e;obtain rfl:M=[]:=yZ.1 ah;apply Exists.intro;rw[aN,show fK _=aa _ from by
    unfold fK;dsimp only;rw[aC ah];rfl]
   rfl
 | succ k f =>
   intro A M B d e;by_cases c:M.length<=1
   .have g:M.reverse=M:=by
     match M,c with
     | [],_=>rfl
     | [a],_=>rfl
    rw[g];apply Exists.intro;rw[aN,show fK _=aa _ from by
     unfold fK;dsimp only;rw[aC ah];rfl]
    rfl
   .obtain⟨x,N,y,rfl⟩:∃x N y,M=x::(N++[y]):=by
     cases M with
     | nil=>simp at c
     | cons x t =>
       exact⟨x,t.dropLast,t.getLast (by rintro rfl;simp at c),by rw[ahQ]⟩
    have h:A.length+((x::(N++[y])).length:Int)-1=((A.length+N.length+1:Nat):Int):=cT;rw[h];obtain⟨q,i⟩:=f (A++[y]) N (x::B) ah cT;refine⟨q,?_⟩;have j:A++x::(N++[y])++B=A++x::(N++y::B):=aT;have l:(A++x::(N++y::B)).length=A.length+N.length+B.length+2:=cT;have m:(A++x::(N++y::B))[A.length]?=aa x:=aT;have n:(A++x::(N++y::B))[A.length+N.length+1]?=aa y:=by
     rw[acX ah,show A.length+N.length+1-A.length=N.length+1 by omega,ahZ];simp
    have o:(A++y::(N++y::B))[A.length+N.length+1]?=aa y:=by
     rw[acX ah,show A.length+N.length+1-A.length=N.length+1 by omega];simp
    have s2:(A++y::(N++y::B)).set (A.length+N.length+1) x=(A++[y])++N++(x::B):=by
     rw[ show A.length+N.length+1=(A++y::N).length by simp;omega];simp
    have b:fK ((A.length,((A.length+N.length+1:Nat):Int),(),()),(A++x::(N++y::B),())) =
      aa (.inl ((((A++[y]).length:Int),((A++[y]).length:Int)+N.length-1,(),()),(A++[y])++N++(x::B),())):=by
     unfold fK;dsimp only;rw[aH ah,aF ah dR,ai,ao n,ab,aF ah dR,ao m,ab,
      Cu,(ahA A _ x y),aF ah (by unfold len;simp;omega),ao o,Cu,s2,aB ah,df ah ah]
     rw[show _-1=((A++[y]).length:Int)+N.length-1 by simp;omega,show((A.length+1:Nat):Int)=((A++[y]).length:Int) by simp];rfl
    rw[j,aN,b];show Loop _ _=_
    rw[i];simp
def NT(s:aU)(id:Tx)(e:s.2.2.1.length<=100000)(d:∀x∈s.2.2.1,x.2.2.1.length<=4294967296):mh (s,id,())=aa ((mS s.2.2.1 s.2.2.2.1 id).1,(mS s.2.2.1 s.2.2.2.1 id).2,()):=by
 unfold mS;obtain⟨r,t,u,h⟩:=JA s.2.2.1 id ah d 16 id [] rfl;refine ob h ?_;unfold dx;by_cases c:(Kr s.2.2.1 16 id []).2=0
 rotate_left
 .rw[aK c,aK c];rw[show cl 0 0=true from rfl,ai,ar c,aE,ai]
 rw[aQ c,aQ c];have b:(Kr s.2.2.1 16 id []).1.length<=16:=(QZ).2;generalize (Kr s.2.2.1 16 id []).1=L at b⊢;rw[show cl 1 0=false from rfl,ag];obtain⟨q,g⟩:=afr L.length [] L [] (bV _) cT;rw[show cA IntKind.i64 _ 1=(([]:List cD).length:Int)+(L.length:Int)-1 from by rw[df dR dR];unfold len;simp];refine ob (by simpa using g) ?_;have k:=hJ (f:=qO (s,id,()) (q,L.reverse,())) L.reverse (λl i=>(((),i,()),l,())) (λx=>[NK s.2.2.1 s.2.2.2.1 x.1]) _ (by rw[PT];omega)
  (λi x m n a=>by
   unfold qO;dsimp only;have o:((L.reverse.take i).flatMap λx=>[NK s.2.2.1 s.2.2.2.1 x.1]).length<=16:=by
    rw[<-List.map_eq_flatMap,y4,dk,PT];omega
   have hd:(uh s x.1).2.1=NK s.2.2.1 s.2.2.2.1 x.1:=by
    unfold uh NK;cases h:Fj s.2.2.1 x.1 with
    | none=>rfl
    | some j =>
      obtain⟨z,p,_⟩:=Bd h;dsimp only;rw[p]
   rw[al n,ao m];refine(congrArg cq<|ob (CX s x.1 e d) rfl).trans ?_;rw[hd,aJ (by simp only[Rn];omega),a];rfl)
  (by
   unfold qO;rw[aq];rfl)
 refine ob k ?_;rw[show _=L.reverse.map _ from(List.map_eq_flatMap).symm];refine ob (ahq _<|by rw[y4,PT];omega) ?_;rfl
def DH{s}(h:qs s):Small (Dy s):=Du 1 _ h.ajg
def Lc{s}(h:qs s):(Dy s).length<=60:=fi (lO K0 _) h.bl
def BD s (h:qs s):nj (s,())=aa (Dy s,()):=by
 unfold nj;rw[wR 1 _ h.ajg];rfl
def NU s (ref:Tx) (h:qs s):wG (s,ref,())=aa (aS (Dy s) ref):=by
 unfold wG;rw[BD s h,ab,mR _ _ (DH h) (by have:=Lc h;omega),ab]
def Et(s:aU)(x:AX)(k:s.1.length<=1000000)(v:x.2.1.length<=4294967296)(g:x.2.2.2.2.2.1.length<=4294967296)(c:∀y∈s.1,y.1≠x.1) :
  j8 (s,x,())=aa ((p5 (·.1) s.1 x,s.2),()):=by
 obtain⟨b,d⟩:=s;obtain⟨a,l,m,n,o,p,u⟩:=x;dsimp only at k v g c;unfold j8;dsimp only;rw[dh ah,ai];rcases G5 (f:=iW ((b,d),_)) b (λy=>decide (y.1=a)) (λq=>(q,a,())) k (λi y h g=>by
  unfold iW;dsimp only;rw[al g,ai,aF ah dR,ai,ao h,ab,dq,da];by_cases q:y.1=a<;>simp[q]) (by unfold iW;rw[aq,ag]) with ⟨i,y,h,z,_⟩|⟨_,r⟩
 .exact absurd (fb z) (c y<|eG h)
 rw[r,ab];rw[cO,ai,rX _ v,ab,rY _ g,ab];have j:=mu (f:=sP ((b,d),(a,l,m,n,o,p,u),())) _ b a k (λi=>((0,i,()),(a,l,m,n,o,p,u),())) _
  _ (λi y h=>by
   have g:=av h;unfold sP;dsimp only;rw[al g,aF ah dR,ao h,ab,aB ah];cases fM y.1 a<;>rfl) (by unfold sP;rw[aq,ag])
 rw[j,ab];have e:=ug (·.1) b ((a,l,m,n,o,p,u):AX) k;unfold cf;by_cases w:di (λy=>y.1) b a<b.length
 .rw[aQ w];dsimp only;rw[show cl 1 0=false from rfl,ag,aC ah,ag];rw[show tR b _ [((a,_):AX)]=_ from e,ab]
 .rw[aK w];have t:di (λy=>y.1) b a=b.length:=by have:=lG (λy=>y.1) b a;omega
  rw[cO,ai];rw[bw,<-t,show tR b _ [((a,_):AX)]=_ from e,ab]
def BE(s:aU)(id:Tx):Tx:=((s.2.1.find?<|λx=>decide (x.1=id)).map λx:lD=>x.2.2.1).getD []
def Fm(s:aU)(a:Tx):Tx:=if a=[] then [] else(aS (yp s) a).1
def Wr(d:Int):Int:=gM IntKind.i64 d 16777215
def Eu(d:Int):Int:=gM IntKind.i64 (jt IntKind.i64 d 24) 16777215
def crB(s:aU)(a:Tx)(b:List Tx)(c:Tx)(d:Int):aU×tD×aj :=
 if eU b≠0\/64<c.length then(s,jq 1,()) else
 if a≠[]/\(aS (yp s) a).2.1≠0 then(s,jq (aS (yp s) a).2.1,()) else
 if pU (Dy s) [] b≠0 then(s,jq<|pU (Dy s) [] b,()) else
 if(dB (Dy s)<|Wr d).2.1≠0 then(s,jq (dB (Dy s)<|Wr d).2.1,()) else
 if(crG s (if a=[] then [] else BE s (Fm s a)) []<|Eu d).2.1.1≠0 then(s,jq (crG s (if a=[] then [] else BE s (Fm s a)) []<|Eu d).2.1.1,()) else
 ((p5 (·.1) s.1 ((dB (Dy s)<|Wr d).1,b,Fm s a,(crG s (if a=[] then [] else BE s (Fm s a)) []<|Eu d).2.1.2.1,c,[],()),(crG s (if a=[] then [] else BE s (Fm s a)) []<|Eu d).1.2),
  (0,(dB (Dy s)<|Wr d).1,0,(crG s (if a=[] then [] else BE s (Fm s a)) []<|Eu d).2.1.2.1,()),())
def Q7 s on given d:(crG s on given d).1.1=s.1:=by
 unfold crG;split
 .rfl
 split
 .rfl
 split
 .rfl
 split
 .rfl
 split
 .rfl
 rfl
def aae{s x}(a:x∈s.1):((x.1,x.2.1,()):Nm)∈Dy s:=by
 unfold Dy;rw[Rr];exact⟨x,a,by exact DR.2 rfl⟩
def Tk{s y}(h:y∈Dy s):∃x∈s.1,y=(x.1,x.2.1,()):=by
 unfold Dy at h;rw[Rr] at h;obtain⟨x,b,a⟩:=h;unfold ofB at a
 grind
def aaf(s:aU)(b:Tx)(a:List Tx)(d:Int):crS s b a [] d=crG s b a d:=by
 have c:NS []=WU 1024:=aQ rfl;have e:∀id p,Wq id p a []=ajj id p a:=λid p=>by unfold Wq ajj;rw[c,Fe];rfl
 unfold crS crG;rw[c,e,aK (λk=>k.1 rfl:¬(([]:Tx)≠[]/\¬CV [])),aK (λk=>k.1 rfl:¬(([]:Tx)≠[]/\(BB s<|jx s b).2≠0)),aK (λk=>k.1 rfl:¬(([]:Tx)≠[]/\(mr (BB s<|jx s b).1 []).2≠0))]
def Kt(s:aU)(a:Tx)(d:Int)(h:qs s):jG (s,a,[],[],d,())=aa (crG s a [] d):=by
 rw[BC s a [] [] d h aT aT<|λp=>NT s p (by have:=h.ll;omega) λx b=>(h.ln x b).small,aaf]
def Is{a:Type}(b:a->Tx)(l:List a)(p:Tx):List a:=match l.findIdx? λx=>decide (b x=p) with|some i=>cutAt l i|none=>l
def NV{α}(a:α->Tx){l p i x}(c:l[i]?=aa x)(d:a x=p)(e:∀j y,j<i->l[j]?=aa y->a y≠p):Is a l p=cutAt l i:=by
 have h:l.findIdx? (λx=>decide (a x=p))=aa i:=by
  rw[WW];obtain⟨f,rfl⟩:=iy.1 c;exact⟨f,cU d,λj b=>by simpa using e j _ b (fH ah)⟩
 unfold Is;rw[h]
def Ai{α}(a:α->Tx){l p}(h:∀x∈l,a x≠p):Is a l p=l:=by
 unfold Is;rw[Y2.2 λx b=>by simpa using h x b]
def Tl(s:aU)(x:AX)(A:s.1.length<=1000000)(o:x.2.1.length<=4294967296)(d:x.2.2.2.2.2.1.length<=4294967296)(e:∃y∈s.1,y.1=x.1) :
  j8 (s,x,())=aa ((p5 (·.1) (Is (·.1) s.1 x.1) x,s.2),()):=by
 obtain⟨b,h⟩:=s;obtain⟨a,p,r,t,v,w,u⟩:=x;dsimp only at A o d e;unfold j8;dsimp only;rw[dh ah,ai];rcases eu (f:=iW ((b,h),_)) b (λi=>((0,i,()),a,())) (λ_ y=>decide (y.1=a)) (λi _=>(1,(i,i,()),a,())) _ ah (λi y c d B=>by
  unfold iW;dsimp only;rw[al d,ai,aF ah dR,ai,ao c,ab,dq,da,B];by_cases q:y.1=a<;>simp[q]) (by unfold iW;rw[aq,ag]) with ⟨i,y,c,C,D,E⟩|⟨l,_⟩
 rotate_left
 .obtain⟨y,c,F⟩:=e;obtain⟨i,d⟩:=bc.1 c;have:=l i y d;simp[F] at this
 rw[NV _ c (fb C) λj y m c=>xf (D j y m c)];rw[E,ab];dsimp only;rw[show cl 1 0=false from rfl,ag,bz ah,ai];unfold dt;rw[DE b i (av c) ah,ab,ab,rX _ o,ab,rY _ d,ab];have G:=Ah b i;have k:=mu (f:=sQ (((),()),cutAt b i,())) _ (cutAt b i) a ah (λi=>((0,i,()),(a,p,r,t,v,w,u),())) _
  _ (λi y c=>by
   have d:=av c;unfold sQ;dsimp only;rw[al d,aF ah dR,ao c,ab,aB ah];cases fM y.1 a<;>rfl) (by unfold sQ;rw[aq,ag])
 rw[k,ab];have g:=ug (·.1) (cutAt b i) ((a,p,r,t,v,w,u):AX) ah;unfold cf;by_cases z:di (λy=>y.1) (cutAt b i) a<(cutAt b i).length
 .rw[aQ z];dsimp only;rw[show cl 1 0=false from rfl,ag,aC ah,ag];rw[show tR _ _ [((a,_):AX)]=_ from g,ab]
 .rw[aK z];have n:di (λy=>y.1) (cutAt b i) a=(cutAt b i).length:=by have:=lG (λy=>y.1) (cutAt b i) a;omega
  rw[cO,ai];rw[bw,<-n,show tR _ _ [((a,_):AX)]=_ from g,ab]
def PE(s:aU)(x:lD)(E:s.2.1.length<=1000000)(B:x.2.1.length<=4294967296)(d:x.2.2.2.2.1.length<=4294967296)(e:∃y∈s.2.1,y.1=x.1) :
  gk (s,x,())=aa ((s.1,(p5 (·.1) (Is (·.1) s.2.1 x.1) x,s.2.2)),()):=by
 obtain⟨C,b,g⟩:=s;obtain⟨a,n,o,p,r,u⟩:=x;dsimp only at E B d e;unfold gk;dsimp only;rw[rX _ B,ab,rY _ d,ab];unfold dN;rw[ab,dh ah,ai];have l:∃(i:Nat) (y:lD),b[i]?=aa y/\y.1=a/\(∀j y,j<i->b[j]?=aa y->y.1≠a)/\Loop (eQ ((C,b,g),(a,n,o,p,r,u),())) ((0,0,()),(),a,())=aa (1,((i:Int),(i:Int),()),(),a,()):=by
  rcases eu (f:=eQ ((C,b,g),_)) b (λi=>((0,i,()),(),a,())) (λ_ y=>decide (y.1=a)) (λi _=>(1,(i,i,()),(),a,())) _ ah (λi y c d F=>by
   unfold eQ dN;rw[al d,ai,ao c,ab,ab,dq,da,F];by_cases q:y.1=a<;>simp[q]) (by unfold eQ;rw[aq];rfl) with ⟨i,y,c,G,t,h⟩|⟨v,_⟩
  .exact⟨i,y,c,fb G,λj y w c=>xf (t j y w c),h⟩
  .obtain⟨y,c,z⟩:=e;obtain⟨i,d⟩:=bc.1 c;have:=v i y d;simp[z] at this
 obtain⟨i,y,c,z,t,H⟩:=l;rw[NV _ c z t];rw[H,ab];dsimp only;rw[show cl 1 0=false from rfl,ag,bz ah,ai];unfold br;rw[DE b i (av c) ah,ab,ab];have I:=Ah b i;have m:=mu (f:=qI (((),()),cutAt b i,())) _ (cutAt b i) a ah (λi=>((0,i,()),(),(a,n,o,p,r,u),())) _
  _ (λi y c=>by
   have d:=av c;unfold qI dN;dsimp only;rw[al d,aF ah dR,ao c,ab,ab,ab,aB ah];cases fM y.1 a<;>rfl) (by unfold qI;rw[aq,ag])
 rw[m,ab];have k:=ug (·.1) (cutAt b i) ((a,n,o,p,r,u):lD) ah;unfold bQ;by_cases D:di (λy=>y.1) (cutAt b i) a<(cutAt b i).length
 .rw[aQ D];dsimp only;rw[show cl 1 0=false from rfl,ag,aC ah,ag];rw[show tR _ _ [((a,_):lD)]=_ from k,ab]
 .rw[aK D];have A:di (λy=>y.1) (cutAt b i) a=(cutAt b i).length:=by have:=lG (λy=>y.1) (cutAt b i) a;omega
  rw[cO,ai,aH aD,ai];rw[bw,<-A,show tR _ _ [((a,_):lD)]=_ from k,ab]
def Ev(s:aU)(x:AX)(b:s.1.length<=1000000)(c:x.2.1.length<=4294967296)(d:x.2.2.2.2.2.1.length<=4294967296):j8 (s,x,())=aa ((p5 (·.1) (Is (·.1) s.1 x.1) x,s.2),()):=by
 by_cases h:∃y∈s.1,y.1=x.1
 .exact Tl s x b c d h
 .have a:=λy f e=>h ⟨y,f,e⟩;rw[Et s x b c d a,Ai _ a]
def CZ(s:aU)(x:lD)(b:s.2.1.length<=1000000)(c:x.2.1.length<=4294967296)(d:x.2.2.2.2.1.length<=4294967296):gk (s,x,())=aa ((s.1,(p5 (·.1) (Is (·.1) s.2.1 x.1) x,s.2.2)),()):=by
 by_cases h:∃y∈s.2.1,y.1=x.1
 .exact PE s x b c d h
 .have a:=λy f e=>h ⟨y,f,e⟩;rw[CW s x b c d a,Ai _ a]
def Ws(s:aU)(id:Tx):aU:=match Fj s.2.2.1 id with
 | none=>Tj (s.1,s.2.1,s.2.2.1,yd s.2.2.1.length s.2.2.2.1,s.2.2.2.2) id 0
 | some i=>Tj (s.1,s.2.1,cutAt s.2.2.1 i,cutAt (yd s.2.2.1.length s.2.2.2.1) i,s.2.2.2.2) id 0
def Ew(s:aU)(id:Tx)(d:s.2.2.1.length<=100000)(a:s.2.2.2.2.1.length<=50000):jH (s,id,())=aa (Ws s id,()):=by
 unfold jH Ws;rw[ixL s.2.2.1 id ah<|λc i=>rfl,ab,Ir s ah,ab];unfold D3;cases h:Fj s.2.2.1 id with
 | none =>
   unfold hY fP;dsimp only;rw[aH ah,ai,ab,ai,ab];exact ob (CY _ id 0 a) rfl
 | some i =>
   obtain⟨x,b,_⟩:=Bd h;have hi:=av b;have e:=qt s.2.2.1.length s.2.2.2.1;unfold hY fP gu eK;dsimp only;rw[aC ah,ag,ag,dh ah,ai,DE _ i ah ah,ab,ab,dh ah,ai,DE _ i ah ah,ab,ab];exact ob (CY _ id 0 a) rfl
def ui(s:aU)(id:Tx):Int:=match(de (s,id,())) with|some (n,_)=>n|none=>0
def afs(s:aU)(id:Tx)(b:s.2.2.2.2.1.length<=1000000):de (s,id,())=aa (ui s id,())/\((∃x∈s.2.2.2.2.1,x.1=id/\x.2.1=ui s id)\/(ui s id=0/\∀x∈s.2.2.2.2.1,x.1≠id)):=by
 obtain⟨n,a,c⟩:=YI s id b;have e:ui s id=n:=by unfold ui;rw[a]
 rw[e];exact⟨a,c⟩
def dlS(s:aU)(a:Tx):aU×tD×aj :=
 if(aS (ix s) a).2.1≠0 then(s,jq (aS (ix s) a).2.1,()) else
 if Es s (aS (ix s) a).1=true\/0<ui s (aS (ix s) a).1 then(s,jq 7,()) else
 (Ws s (aS (ix s) a).1,Er (aS (ix s) a).1,())
def G7 s (ref:Tx) (h:qs s) (a:s.2.2.2.2.1.length<=50000):vN (s,ref,())=aa (dlS s ref):=by
 have b:=h.ll;have d:=h.il;have e:=h.bl;unfold dlS;refine ob (jK s ref h) ?_;by_cases c:(aS (ix s) ref).2.1=0
 rotate_left
 .rw[ar c,aQ c];rfl
 rw[au c,aK λq=>q c];refine ob (Wo s _ ah ah ah) ?_;obtain⟨f,_⟩:=afs s (aS _ ref).1 ah;cases g:Es s (aS _ ref).1 with
 | true =>
   rfl
 | false =>
   refine ob (ob f rfl) ?_;by_cases q:0<ui s (aS (ix s) ref).1
   .rw[aH q,aQ (.inr q)];rfl
   .rw[aC ah,aK (by rintro(k|k);cases k;exact q k)];exact ob (Ew s _ ah a) rfl
def dfA(s:aU)(a:Tx):tD :=
 if(aS (ix s) a).2.1≠0 then jq (aS (ix s) a).2.1 else(0,(aS (ix s) a).1,0,(uh s (aS (ix s) a).1).2.1,())
def YL(s:aU)(id:Tx):Tx:=((s.1.find?<|λx=>decide (x.1=id)).map λx:AX=>x.2.2.2.1).getD []
abbrev Dl:=Int×bb×aj
def DI:List Nd->List Nd->List Dl
 | [],[]=>[]
 | x::a,[]=>(3,x.1,())::DI a []
 | [],y::b=>(1,y.1,())::DI [] b
 | x::a,y::b =>
   if cmpL (key x) (key y)<0 then(3,x.1,())::DI a (y::b)
   else if 0<cmpL (key x) (key y) then(1,y.1,())::DI (x::a) b
   else(if x=y then [] else [(2,x.1,())])++DI a b
 termination_by a b=>a.length+b.length
def ahB:∀n a b,a.length+b.length<=n->(DI a b).length<=a.length+b.length:=by
 intro n;induction n with
 | zero =>
   intro a b h;obtain rfl:=yZ.1 (show a.length=0 by omega);obtain rfl:=yZ.1 (show b.length=0 by omega);simp[DI]
 | succ n c =>
   intro a b h;cases a with
   | nil =>
     cases b with
     | nil=>simp[DI]
     | cons y b =>
       rw[DI]
       grind
   | cons x a =>
     cases b with
     | nil =>
       rw[DI]
       grind
     | cons y b =>
       rw[DI]
       grind
def G8{α}(x:α) r:sub (x::r) 1 (minus (len (x::r)) 1)=r:=jd _ 1 aT
def C0(a b:List Nd):Int:=match a,b with
 | [],_=>1
 | _::_,[]=>-1
 | x::_,y::_=>cmpL (key x) (key y)
def aft a b (d:vY a) (e:vY b) :
  (ae (ak (aG (len a) 0) (aa ((1,()),()))<|ae (ak (aG (len b) 0) (aa (((-1:Int),()),()))<|ae (idx a 0) λc=>ae (idx b 0) λf=>ae (gO (c.1,f.1,())) λg=>aa ((g.1,()),())) λc=>aa ((c.1.1,()),())) λy=>aa y)=aa ((C0 a b,()),()):=by
 cases a with
 | nil=>rfl
 | cons x a =>
   cases b with
   | nil=>rfl
   | cons y b =>
     rw[ show idx _ 0=aa x from rfl,show idx _ 0=aa y from rfl,ab,ab,CB _ _ (by have:=(d.2 x aT).1;omega) (by have:=(e.2 y aT).1;omega)];rfl
def NW(a b:List Nd):List Dl:=match a,b with
 | x::_,y::_=>if x=y then [] else [(2,x.1,())]
 | _,_=>[]
def ach a b:(NW a b).length<=1:=by
 unfold NW
 grind
def Tm a b (acc:List Dl) (k:vY a) (l:vY b) (g:a≠[]\/b≠[]) (i:∀c:Dl,fits (plus (len acc)<|len [c])=true) :
  lX ((a,b,()),(),(),acc,())=aa (.inl<|
   if C0 a b<0 then((a.drop 1,b,()),(),(),acc++(a.take 1).map (λx=>(3,x.1,())),())
   else if 0<C0 a b then((a,b.drop 1,()),(),(),acc++(b.take 1).map (λy=>(1,y.1,())),())
   else((a.drop 1,b.drop 1,()),(),(),acc++NW a b,())):=by
 have m:ak (nt<|aL 0<|len a) (aL 0<|len b) true=true:=by
  rw[GI,GI];cases a with
  | cons x a=>simp[ak,nt]
  | nil =>
    cases b with
    | cons y b=>simp[ak]
    | nil=>simp at g
 have j:=aft a b k l;have n:∀o:Option ((Int×aj)×aj),ae o (aa)=o:=λo=>by cases o<;>rfl
 rw[n] at j;unfold lX;rw[m,j,ab];dsimp only;have d:∀{x:Nd} {r},inside 1 (len (x::r)) _=true:=λ{x r}=>aO ah (by unfold len;simp;omega) (tr _);by_cases f:C0 a b<0
 .rw[aQ f,aH f,bz ah,cG f];cases a with
  | nil=>simp[C0] at f
  | cons x a =>
    rw[show idx _ 0=aa x from rfl,ab,i,d,G8];rfl
 .rw[aK f,aC ah,ag];by_cases h:0<C0 a b
  .rw[aQ h,aH h,cG ah,bz ah];cases b with
   | nil=>cases a<;>simp[C0] at h g
   | cons y b =>
     rw[show idx _ 0=aa y from rfl,ab,i,d,G8];rfl
  .rw[aK h,aC ah,ag,bz ah,bz ah];cases a with
   | nil=>simp[C0] at h
   | cons x a =>
     cases b with
     | nil=>simp[C0] at f
     | cons y b =>
       have p:an (bt x.1 y.1) (an (aG x.2.1 y.2.1)<|an (aG x.2.2.1 y.2.2.1)<|an (bt x.2.2.2.1 y.2.2.2.1)<|an (bt x.2.2.2.2.1 y.2.2.2.2.1) true)=decide (x=y):=by
        unfold an bt aG
        grind
       rw[show idx _ 0=aa x from rfl,show idx _ 0=aa y from rfl,ab,ab,p,i,d,d,G8,G8];by_cases e:x=y
       .rw[cU e];unfold NW;dsimp only;rw[aQ e,tK];rfl
       .rw[cd e];unfold NW;dsimp only;rw[aK e];rfl
def afu a b (c:a≠[]\/b≠[]):DI a b =
  if C0 a b<0 then(a.take 1).map (λx=>((3,x.1,()):Dl))++DI (a.drop 1) b
  else if 0<C0 a b then(b.take 1).map (λy=>((1,y.1,()):Dl))++DI a (b.drop 1)
  else NW a b++DI (a.drop 1) (b.drop 1):=by
 cases a with
 | nil =>
   cases b with
   | nil=>simp at c
   | cons y b=>rw[DI];rfl
 | cons x a =>
   cases b with
   | nil=>rw[DI];rfl
   | cons y b =>
     rw[DI];show _=if cmpL _ _<0 then _ else if 0<cmpL _ _ then _ else _
     split
     .rfl
     .split
      .rfl
      .rfl
def vY.drop{l}(h:vY l) k:vY (l.drop k):=⟨by rw[rj];have:=h.1;omega,λx a=>h.2 x (PR a)⟩
def Tn:∀n a b (acc:List Dl),a.length+b.length<=n->vY a->vY b->acc.length+a.length+b.length<=100000 ->
  ∃s,Loop lX ((a,b,()),(),(),acc,())=aa (s,(),(),acc++DI a b,()):=by
 intro n;induction n with
 | zero =>
   intro a b acc h _ _ _;obtain rfl:=yZ.1 (show a.length=0 by omega);obtain rfl:=yZ.1 (show b.length=0 by omega);refine⟨([],[],()),?_⟩;rw[aN,DI,tK];rfl
 | succ n m =>
   intro a b acc h k l o;by_cases f:a≠[]\/b≠[]
   .have t:=Tm a b acc k l f (λc=>aJ cT);rw[aN,afu a b f];have g:a≠[]->(a.drop 1).length=a.length-1/\0<a.length:=λh=>⟨aT,TT.2 h⟩;have i:b≠[]->(b.drop 1).length=b.length-1/\0<b.length:=λh=>⟨aT,TT.2 h⟩;by_cases p:C0 a b<0
    .have d:a≠[]:=λe=>by subst e;simp[C0] at p
     have:=g d;obtain⟨s,q⟩:=m _ b (acc++(a.take 1).map λx=>(3,x.1,())) ah (k.drop 1) l (by simp at this⊢;omega)
     grind
    .by_cases r:0<C0 a b
     .have j:b≠[]:=λe=>by subst e;cases a<;>simp[C0] at r f
      have:=i j;obtain⟨s,q⟩:=m a _ (acc++(b.take 1).map λy=>(1,y.1,())) ah k (l.drop 1) (by simp at this⊢;omega)
      grind
     .have d:a≠[]:=λe=>by subst e;simp[C0] at r
      have u:=g d;have v:=i (λe=>by subst e;cases a<;>simp[C0] at p d);obtain⟨s,q⟩:=m _ _ (acc++NW a b) ah (k.drop 1) (l.drop 1) (by
       have:=ach a b;rw[iC];omega)
      grind
   .grind
open Classical in
def PF(a b:List Nd):List Dl×Int:=if Valid a/\Valid b then(DI a b,0) else([],1)
def Wt a b (c:vY a) (d:vY b):qz (a,b,())=aa ((PF a b).1,(PF a b).2,()):=by
 obtain⟨e,l,i⟩:=mo a c;obtain⟨f,m,j⟩:=mo b d;unfold qz;rw[l,m];simp only[ab];by_cases hv:Valid a/\Valid b
 .obtain rfl:=i.2 hv.1;obtain rfl:=j.2 hv.2;have h:=c.1;have g:=d.1;obtain⟨s,n⟩:=Tn _ a b [] (bV _) c d cT;rw[show ak _ _ _=aa false from rfl,ab,ag,n,ab];unfold PF;rw[aQ hv,Lk]
 .have o:(ak (nt<|nt<|aG e 0) (aa<|nt<|aG f 0) (aa true):Option Bool)=aa true:=by
   by_cases k:e=0
   .by_cases g:f=0
    .exact absurd ⟨i.1 k,j.1 g⟩ hv
    .rw[show aG f 0=false by simp[aG,g]];cases nt _<;>rfl
   .rw[show aG e 0=false by simp[aG,k]];rfl
  rw[o,ab,ai];unfold PF;rw[aK hv]
def D4(l:List Dl)(c:Dl):List Dl:=l.takeWhile (λx=>decide (cmpL (parts x.2.1) (parts c.2.1)<0))++c::l.dropWhile (λx=>decide (cmpL (parts x.2.1) (parts c.2.1)<0))
def SmC(l:List Dl):Prop:=l.length<=100000/\∀x∈l,x.2.1.length<=4096
def NX l (c:Dl) (m:SmC l) (o:c.2.1.length<=4096):rK (l,c,())=aa (D4 l c,()):=by
 have A:=m.1;have key:∃k,k<=l.length/\Loop (oz (l,c,())) ((0,()),())=aa (((k:Int),()),())/\D4 l c=l.take k++[c]++l.drop k:=by
  rcases eu (f:=oz (l,c,())) l (λi=>((i,()),())) (λ_ x=>!decide _) _ _ ah (λi x b p q=>by
   unfold oz;dsimp only;rw[al p,ao b,ab,xX _ _ (m.2 x<|eG b) o,ab,q];unfold aL;cases decide (cmpL _ _<0)<;>rfl) (by
   unfold oz;rw[aq];rfl) with ⟨i,x,b,r,s,h⟩|⟨t,h⟩
  .refine⟨i,by have:=av b;omega,h,?_⟩;obtain⟨e,g⟩:=takeWhile_eq (l:=l) (k:=i) (P:=λx=>decide _) (by have:=av b;omega) (λj y d a=>by
    have:=s j y d a;simpa using this) (λy a=>by
    rw[b] at a;obtain rfl:=aI a;simpa using r)
   unfold D4;rw[e,g];simp
  .refine⟨l.length,bV _,h,?_⟩;obtain⟨e,g⟩:=takeWhile_eq (P:=λx=>decide _) (bV _) (λj y d a=>by
    have:=t j y a;simpa using this) (λy a=>by
    have:=av a;omega)
   unfold D4;rw[e,g];simp
 obtain⟨k,n,u,v⟩:=key;unfold rK;rw[u,ab];have w:inside 0 k _=true:=je (pW _) n;have z:inside k (len l) _=true:=aO ah dR (tr _);rw[w,fT,jd l k n,z];rw[(aJ cT),(aJ<|by rw[gU];simp;omega),(aJ<|by rw[gU,gU];simp;omega),v];rfl
def Ex(k:Int):bb:=if 1<=k/\k<=3 then(if k=1 then [43] else if k=2 then [126] else [45]) else [63]
def vF(c:Dl):bb:=Ex c.1++[32]++vy c.2.1++[10]
def Iu k:(Ex k).length=1:=by
 unfold Ex
 grind
def Iw c:(vF c).length=2*c.2.1.length+3:=by
 unfold vF;simp only[iC,Iu,kb,iD,p6];omega
def DJ{a b:Type}(g:a->List b) k:∀l:List a,(∀x∈l,(g x).length<=k)->(l.flatMap g).length<=l.length*k:=by
 intro l;induction l with
 | nil=>simp
 | cons x r c =>
   intro h;have e:=h x aT;have f:=c λy d=>h y (by simp[d]);simp only[ac9,iC,iD,iE];omega
def Wu{k}(a:1<=k)(b:k<=3):idx ([[],[43],[126],[45]]:List bb) k=aa (Ex k):=by
 have:k=1\/k=2\/k=3:=ah;rcases this with rfl|rfl|rfl<;>rfl
def aci(l:List Dl)(q:l.length<=4096)(j:∀c∈l,c.2.1.length<=4096):wu (l,())=aa (l.flatMap vF,()):=by
 unfold wu;have key:=hJ (f:=mE (l,())) l (λh i=>((i,()),((),_),h,())) _ _ ah (λi x k n a=>by
  have b:((l.take i).flatMap λc=>ax (vF c)).length<=(l.take i).length*8200:=DJ _ _ _ λc o=>by
   have:=j c (DQ o);rw[S8,Iw];omega
  rw[dk] at b;have Xi:=j x (eG k);have p:=Iw x;have fin:∀s,s=Ex x.1->(ak (fits<|plus _<|len ([32]:bb)) (ae (lV (x.2.1,())) λd=>ak (fits<|plus (@len UInt8<|@app UInt8 s<|[32])<|@len UInt8 d.1)
   (ak (fits<|plus (@len UInt8<|@app UInt8 (@app UInt8 s ([(32:UInt8)]:bb)) d.1)<|@len UInt8<|[10])
   (ak (fits<|plus (@len Int<|(l.take i).flatMap λc=>ax (vF c))<|@len Int<|ax<|@app UInt8 (@app UInt8 (@app UInt8 s _) d.1) _)
   (aa (az (((((i+1:Nat):Int)),()),((),(),()),@app Int ((l.take i).flatMap λc=>ax (vF c))<|ax<|@app UInt8 (@app UInt8 (@app UInt8 s _) d.1) _,()):_⊕((Nat×(Int×aj)×(aj×aj×aj)×(List<|Int)×aj))))
   af) af) af) af)=aa _:=λs e=>by
   subst e;have g:=Iu x.1;rw[aJ cT,SV _ ah,ab];rw[aJ<|by rw[gU,kb];simp;omega,aJ (by rw[gU,gU,iC,kb];simp;omega)];rw[show app (app (app _ [32]) _) [10]=vF x from rfl,aJ (by rw[S8];omega)];rfl
  unfold mE;rw[al n,ai,ao k,ab,a];by_cases g:1<=x.1
  .by_cases m:x.1<=3
   .rw[bz g,bz m,ai,ai,aF ah ah,ai,Wu g m,ab,ab];rw[fin _ rfl];rfl
   .rw[bz g,cG ah,ai,ag,ab];rw[fin _<|by unfold Ex;rw[aK ah]];rfl
  .rw[cG ah,ag,ag,ab];rw[fin _<|by unfold Ex;rw[aK ah]];rfl) (by
  unfold mE;rw[aq];rfl)
 rw[show Loop (mE _) _=_ from key,ab];have:l.flatMap (λc=>ax (vF c))=ax (l.flatMap vF):=by
  unfold ax;rw[List.map_flatMap]
 rw[this,mQ]
def afv:∀a b,∀c∈DI a b,(∃x∈a,c.2.1=x.1)\/∃x∈b,c.2.1=x.1:=by
 intro a b;induction a,b using DI.induct<;>grind [DI]
def Q8{a b}(f:Valid a)(g:Valid b):(DI a b).length<=4096/\∀c∈DI a b,c.2.1.length<=4096:=by
 have i:=f.few;have j:=g.few;refine⟨by have:=ahB _ a b (bV _);omega,λc h=>?_⟩;rcases afv a b c h with ⟨n,d,e⟩|⟨n,d,e⟩
 .rw[e];have:=((fD f).2 n d).1;omega
 .rw[e];have:=((fD g).2 n d).1;omega
def chA(s:aU)(a:Tx):tD :=
 if(aS (ix s) a).2.1≠0 then jq (aS (ix s) a).2.1 else
 if(mS s.2.2.1 s.2.2.2.1 (aS (ix s) a).1).2≠0 then jq (mS s.2.2.1 s.2.2.2.1 (aS (ix s) a).1).2 else
 if(BB s (uh s (aS (ix s) a).1).1.2.1).2≠0 then jq (BB s (uh s (aS (ix s) a).1).1.2.1).2 else
 (0,(aS (ix s) a).1,0,(DI (BB s (uh s (aS (ix s) a).1).1.2.1).1 (mS s.2.2.1 s.2.2.2.1 (aS (ix s) a).1).1).flatMap vF,())
def Fo k:∀(l:List Tx),(∀x∈l,x.length<=k)->(Lib.join l [32]).length<=l.length*(k+1)
 | [],_=>pW _
 | [a],h=>by have:=h a aT;simp[Lib.join];omega
 | a::b::r,h=>by
   have f:=h a aT;have c:=Fo k (b::r) λx d=>h x (by simp[d]);have e:Lib.join (a::b::r) [32]=a++[32]++Lib.join (b::r) [32]:=by simp[Lib.join]
   rw[e];simp only[iC,iD,p6,iE] at c⊢;omega
def afw(l:List Nm):Tx:=bq (l.flatMap λx=>ax (Lib.join (x.1::x.2.1) [32]++[10]))
def vZ{a:Type}(b:a->Tx)(l:List a)(d:a)(id:Tx):a:=(l.find? λx=>decide (b x=id)).getD d
def qs.ajk{s}(h:qs s):SR (0,s.2.2.1,s.2.1,s.1,()):=⟨h.ll,h.ln,h.il,h.rZ,h.bl,h.bn⟩
def xd(s:aU)(k:Int):List Nm:=ofV k (0,s.2.2.1,s.2.1,s.1,())
def Ix s k:(k=1/\xd s k=Dy s)\/(k=2/\xd s k=yp s)\/(k=3/\xd s k=ix s)\/xd s k=[]:=by
 unfold xd ofV Dy yp ix;by_cases a:k=1
 .exact .inl ⟨a,by rw[aQ a]⟩
 by_cases b:k=2
 .exact .inr (.inl ⟨b,by rw[aK a,aQ b]⟩)
 by_cases c:k=3
 .exact .inr (.inr<|.inl ⟨c,by rw[aK a,aK b,aQ c]⟩)
 .exact .inr (.inr<|.inr<|by rw[aK a,aK b,aK c])
def DK{s}(h:qs s) k:(xd s k).length<=60:=by
 rcases Ix s k with ⟨_,e⟩|⟨_,e⟩|⟨_,e⟩|e<;>rw[e]
 .exact Lc h
 .exact fi (lO GO _) h.il
 .exact La h
 .apply pW
def DL{s}(h:qs s) k:Small (xd s k):=Du k _ h.ajk
def JC{s}(h:qs s) k:uR (s,k,())=aa (xd s k,()):=ob (wR k _ h.ajk) rfl
def NY l p d:(nC l p d).1.length<=l.length+1:=by
 unfold nC;have h:=ZU l p;split
 .split
  .apply pW
  .unfold Ij;have e:=congrArg List.length (BJ (p:=λy=>fM y.1 p) (l:=TG l p));simp only[iC,Rn] at e⊢;omega
 .apply pW
def F4:AX:=([],[],[],[],[],[],())
def PG:lD:=([],[],[],[],[],())
def itF(l:List Item)(c:vE)(id:Tx):Option (List Item)×tD :=
 if c.1=10 then(if(Fc l c.2.2.2.2.2.2.1).2≠0 then(af,jq (Fc l c.2.2.2.2.2.2.1).2) else(af,0,id,0,(Fc l c.2.2.2.2.2.2.1).1,()))
 else(if(nC l c.2.2.2.2.2.2.1 c.2.2.2.2.2.1).2≠0 then(af,jq (nC l c.2.2.2.2.2.2.1 c.2.2.2.2.2.1).2) else(aa (nC l c.2.2.2.2.2.2.1 c.2.2.2.2.2.1).1,Er id))
def NZ{c}(a:c.1=9\/c.1=10)(h:c.2.1∈lH c):c.2.1=1\/c.2.1=2:=by
 unfold lH PD at h;rw[aK ah,aK ah,aK ah,aK ah,aQ ah] at h;split at h
 .rename_i q;simpa using q
 .cases h
def ly0:cD:=([],[],[],[],(0:Int),(0:Int),false,())
def rnL(a:List cD)(id:Tx)(g:List Tx):List cD:=a.set ((Fj a id).getD 0) (id,((vZ (·.1) a ly0 id).2.1,(g,(vZ (·.1) a ly0 id).2.2.2)))
def rcE(s:aU)(c:vE):Int:=if(aS (xd s c.2.1) c.2.2.1).2.1=0/\c.1=13 then pU (xd s c.2.1) (aS (xd s c.2.1) c.2.2.1).1 c.2.2.2.2.1 else(aS (xd s c.2.1) c.2.2.1).2.1
def Aj{s k ref}(h:(aS (xd s k) ref).2.1=0):(k=1/\∃x∈s.1,x.1=(aS (xd s k) ref).1)\/(k=2/\∃x∈s.2.1,x.1=(aS (xd s k) ref).1)\/(k=3/\∃x∈s.2.2.1,x.1=(aS (xd s k) ref).1):=by
 obtain⟨y,a,d⟩:=Q1 h;rcases Ix s k with ⟨b,e⟩|⟨b,e⟩|⟨b,e⟩|e<;>rw[e] at a
 .obtain⟨x,c,rfl⟩:=Tk a;exact .inl ⟨b,x,c,d⟩
 .obtain⟨x,c,rfl⟩:=aab a;exact .inr (.inl ⟨b,x,c,d⟩)
 .obtain⟨x,c,rfl⟩:=aac a;exact .inr (.inr ⟨b,x,c,d⟩)
 .cases a
set_option maxRecDepth 100000
def JD(s:aU)(id:Tx)(b:s.2.2.1.length<=1000000):qj (s,id,())=aa (uh s id):=by
 unfold qj uh;refine ob (Fk s id b) ?_;dsimp only;unfold D3;cases h:Fj s.2.2.1 id with
 | none=>rfl
 | some i =>
   obtain⟨x,a,_⟩:=Bd h;dsimp only;rw[aC ah,ag,ao a,ab,a];exact ob (Be s i) rfl
end Go.Ge
namespace Go.Ge
variable [Lp]
set_option maxRecDepth 100000
end Go.Ge
namespace Go.Ge
variable [Lp]
structure zr (c:vE):Prop where
 nms:pL c.2.2.2.2.1
 data:c.2.2.2.2.2.1.length<=8704
 key:c.2.2.2.2.2.2.1.length<=100
def aag(a:List cD)(id:Tx)(g:List Tx):(rnL a id g).length=a.length:=by unfold rnL;rw[adg]
end Go.Ge
namespace Go.Ge.W24
variable [Lp]
set_option maxRecDepth 100000
abbrev amK:=Int×Tx×Int×Tx×aj
def w1:Tx:=[48,48,48,48,48,49]
def t0:aU:=([],[],[],[],[],())
def okW(id:Tx):amK:=(0,id,0,[],())
end Go.Ge.W24
namespace Go.Ge.W24
variable [Lp]
set_option maxRecDepth 100000
end Go.Ge.W24
namespace Go.Ge.W24
variable [Lp]
set_option maxRecDepth 100000
end Go.Ge.W24
namespace Go.Ge
variable [Lp]
def Wv(c:vE):∃b,ql (c,())=aa (b,())/\(b=true->zr c):=by
 obtain⟨b,e,f⟩:=SQ c.2.2.2.2.1;unfold ql;rw[e,dZ (c:=8704) rfl,dZ (c:=100) (l:=c.2.2.2.2.2.2.1) rfl];generalize ak (ch _ 100) _ false=q;cases q
 .exact⟨false,rfl,λh=>by cases h⟩
 by_cases a:c.2.2.2.2.2.1.length<=8704
 .by_cases d:c.2.2.2.2.2.2.1.length<=100
  .refine⟨b,?_,λh=>⟨f h,a,d⟩⟩;rw[cU a,cU d];rfl
  .refine⟨false,?_,λh=>by cases h⟩;rw[cU a,cd d];rfl
 .refine⟨false,?_,λh=>by cases h⟩;rw[cd a];rfl
def Ak:vz ([]:List Item):=⟨aT,λx a=>by cases a⟩
def ajl{l p x}(h:x∈TG l p):x∈l:=by
 unfold TG at h
 grind
def YM{l}(h:vz l){p d}(e:p.length<=100)(a:(nC l p d).2=0):vz (nC l p d).1:=by
 unfold nC at a⊢;split at a
 rotate_left
 .cases a
 rename_i q;rw[aQ q];split at a
 .cases a
 rename_i b;rw[aK b];have f:=h.1;refine⟨?_,λx hx=>?_⟩
 .dsimp only;rw[afn];unfold TG;cases c:wU l p with
  | none =>
    grind
  | some i =>
    have:=ahd c
    grind
 .rcases afm.1 hx with rfl|hx
  .grind
  .exact h.2 x (ajl hx)
def Ww{l m:List Item}{c:vE}{id:Tx}(h:(itF l c id).1=aa m)(a:vz l)(b:c.2.2.2.2.2.2.1.length<=100):vz m:=by
 unfold itF at h;split at h
 .grind
 .split at h
  .cases h
  .rename_i q;obtain rfl:=aI h;exact YM a b (BK q)
def To{α}{a:α->Tx}{l d id}:vZ a l d id∈l\/vZ a l d id=d:=by
 unfold vZ;cases h:l.find? _ with
 | none=>exact .inr rfl
 | some y=>exact .inl (TL h)
def G9:pL []:=⟨aT,λx a=>by cases a⟩
def acj{α S R}{f:S->Option (S⊕R)} key l id (j:l.length<=1000000) (mk:List α->Int->S) fin
  (b:∀r (i:Nat) y,l[i]?=aa y->r.length<=1000000->f (mk r i)=aa (.inl<|mk (if key y=id then r else r++[y])<|aw .i64 i 1))
  (c:f (mk (YC key l id) (l.length:Int))=aa (.inr fin)):Loop f (mk [] 0)=aa fin:=by
 have e:∀m,m.flatMap (λy=>if key y=id then [] else [y])=YC key m id:=λm=>by
  unfold YC;induction m with
  | nil=>rfl
  | cons a r d =>
    rw[ac9,d,ade];by_cases q:key a=id
    .rw[aQ q,aK (by simp[q])];rfl
    .rw[aK q,aQ (by simp[q])];rfl
 refine hJ l mk _ fin ah (λi x g k h=>?_) (by rw[e];exact c);rw[b _ i x g<|by rw[e];exact fi (K9 key _ id).length_le (by rw[dk];omega),h];split<;>simp
def ajm{α R}(l:List α) k x (a:k<=l.length) (b:l.length<=1000000) (F:List α->Option R) :
  ak (inside 0 k<|len l) (ak (fits<|plus (len ([]:List α))<|len<|sub l 0<|minus k 0) (ak (fits<|plus (len<|app ([]:List α)<|sub l 0<|minus (k:Int) 0)<|len [x]) (ak (inside k (len l)<|len l)
   (ak (fits<|plus (len<|app (app ([]:List α)<|sub l 0<|minus (k:Int) 0) [x])<|len<|sub l k<|minus (len l) k) (F<|app (app (app ([]:List α)<|sub l 0<|minus k 0) [x])<|sub l k<|minus (len l) k) af) af) af) af) af=F (tJ l k x):=by
 rw[show inside 0 k _=true from aO ah ah dR,fT,jd l k a,show inside k (len l) _=true from je a (bV _)];simp only[gU];rw[aJ cT,aJ cT,aJ cT];rfl
def Ha(s:aU)(id:Tx)(g:s.1.length<=1000000)(j:s.2.1.length<=1000000)(k:s.2.2.1.length<=1000000):sU (s,id,())=aa (Es s id,()):=by
 unfold sU Es;rcases eu (f:=qV (s,id,())) s.2.2.1 (λi=>((false,i,()),())) (λ_ y=>decide (y.2.1=id)) (λi _=>(1,(true,(i:Int),()),())) _ ah (λi y a b c=>by
  unfold qV;rw[al b,ai,ao a,ab,dq,da,c];by_cases q:y.2.1=id<;>simp[q]) (by unfold qV;rw[aq,ag]) with ⟨i,y,a,d,_,h⟩|⟨e,h⟩
 .rw[h,ab,Wk a d];rfl
 rw[h,ab,Wl λy a=>by obtain⟨i,b⟩:=bc.1 a;exact e i y b];dsimp only;rcases eu (f:=qW (s,id,())) s.2.1 (λi=>((false,i,()),())) (λ_ y=>decide (y.2.2.1=id)) (λi _=>(1,(true,(i:Int),()),())) _ ah (λi y a b c=>by
  unfold qW;rw[al b,ai,ao a,ab,dq,da,c];by_cases q:y.2.2.1=id<;>simp[q]) (by unfold qW;rw[aq,ag]) with ⟨i,y,a,d,_,h⟩|⟨e,h⟩
 .rw[h,ab,Wk a d];rfl
 rw[h,ab,Wl λy a=>by obtain⟨i,b⟩:=bc.1 a;exact e i y b];rcases eu (f:=qX (s,id,())) s.1 (λi=>((false,i,()),())) (λ_ y=>decide (y.2.2.2.1=id)) (λi _=>(1,(true,i,()),())) _ ah (λi y a b c=>by
  unfold qX;rw[al b,ai,ao a,ab,dq,da,c];by_cases q:y.2.2.2.1=id<;>simp[q]) (by unfold qX;rw[aq,ag]) with ⟨i,y,a,d,_,h⟩|⟨e,h⟩
 .rw[h,Wk a d];rfl
 rw[h,Wl λy a=>by obtain⟨i,b⟩:=bc.1 a;exact e i y b];rfl
def u7(s:aU)(id:Tx) n (d:s.2.2.2.2.1.length<=50000):nk (s,id,n,())=aa (Tj s id n,()):=by
 have b:=(K9 (λy=>y.1) s.2.2.2.2.1 id).length_le;unfold nk Tj;dsimp only;rw[acj _ s.2.2.2.2.1 id ah (λr i=>(((),i,()),r,())) _ (λr i y a b=>by
  unfold tY;rw[al<|av a,ao a,ab,dq,ab,show fits _=true from aJ cT];by_cases q:y.1=id
  .rw[cU q,aQ q];rfl
  .rw[cd q,aK q];rfl)<|by unfold tY;rw[aq];rfl,ab]
 generalize YC _ s.2.2.2.2.1 id=l at b;by_cases q:0<n
 rotate_left
 .rw[bz ah,ai,aK q]
 rw[cG ah,aQ q];have c:=lG (λy=>y.1) l id;have h:=mu (f:=pF (s,id,n,()) (((),s.2.2.2.2.1.length,()),l,())) _ l id ah (λi=>((i,()),())) _ _ (λi y a=>by
  have hi:=av a;unfold pF;dsimp only;rw[al hi,aF ah dR,ao a,ab,aB ah];cases fM y.1 id<;>rfl) (by unfold pF;rw[aq];rfl)
 have e:(if di (λy=>y.1) l id<l.length then((((di (λy=>y.1) l id:Nat):Int),()),()) else((l.length,()),()))=((((di (λy=>y.1) l id:Nat):Int),()),()):=by
  split
  .rfl
  .rw[show di _ l id=l.length by omega]
 rw[h,e,Lb];exact ajm l _ _ c ah (λm=>aa ((s.1,s.2.1,s.2.2.1,s.2.2.2.1,m,s.2.2.2.2.2),()))
def ltC(x y:Dl):Prop:=cmpL (parts x.2.1) (parts y.2.1)<0
instance amL (x y:Dl):Decidable (ltC x y):=inferInstanceAs (Decidable<|cmpL (parts x.2.1) (parts y.2.1)<0)
def Fq(l:List Dl):Prop:=l.Pairwise ltC
def Fs x:¬ltC x x:=by unfold ltC;rw[jJ];omega
def Q9{x y z}(h:ltC x y)(g:ltC y z):ltC x z:=mn h g
def afz:∀{l m},Fq l->Fq m->(∀c,c∈l↔c∈m)->l=m:=by
 intro l;induction l with
 | nil =>
   intro m _ _ h;cases m with
   | nil=>rfl
   | cons d m=>exact absurd ((h d).2 aT) aT
 | cons c l k =>
   intro m b f h;cases m with
   | nil=>exact absurd ((h c).1 aT) aT
   | cons d m =>
     unfold Fq at b f;rw[FB] at b f;have i:c=d:=by
      have a:c=d\/c∈m:=by simpa using(h c).1 aT
      have j:d=c\/d∈l:=by simpa using(h d).2 aT
      rcases a with e|a
      .exact e
      .rcases j with e|j
       .exact e.symm
       .exact absurd (Q9 (b.1 d j)<|f.1 c a) (Fs c)
     subst i;rw[k b.2 f.2 λq=>?_];constructor
     .intro g;have:q=c\/q∈m:=by simpa using(h q).1 (by simp[g])
      rcases this with e|a
      .subst e;exact absurd (b.1 q g) (Fs q)
      .exact a
     .intro g;have:q=c\/q∈l:=by simpa using(h q).2 (by simp[g])
      rcases this with e|a
      .subst e;exact absurd (f.1 q g) (Fs q)
      .exact a
def Ra a r c:D4 (a::r) c=if ltC a c then a::D4 r c else c::a::r:=by
 unfold D4;by_cases h:cmpL (parts a.2.1) (parts c.2.1)<0
 .rw[aQ<|show ltC a c from h];simp[h]
 .rw[aK<|show ¬ltC a c from h];simp[h]
def Hb{r n x}:x∈D4 r n↔x=n\/x∈r:=by
 induction r with
 | nil=>simp[D4]
 | cons a r b =>
   rw[Ra];split
   .rw[fh,b,fh];constructor
    .rintro(h|h|h)
     .exact .inr (.inl h)
     .exact .inl h
     .exact .inr (.inr h)
    .rintro(h|h|h)
     .exact .inr (.inl h)
     .exact .inl h
     .exact .inr (.inr h)
   .rw[fh]
def N0{r n}(b:Fq r)(c:∀x∈r,x.2.1≠n.2.1):Fq (D4 r n):=by
 unfold Fq at b⊢;induction r with
 | nil=>simp[D4]
 | cons a r f =>
   rw[FB] at b;rw[Ra];split
   .rename_i h;refine FB.2 ⟨λy hy=>?_,f b.2 λx g=>c x (by simp[g])⟩;rcases Hb.1 hy with rfl|hy
    .exact h
    .exact b.1 y hy
   .rename_i h;have d:ltC n a:=by
     have i:cmpL (parts a.2.1) _≠0:=λe=>by
      have:=H6 e;exact c a aT (by rw[<-dO a.2.1,this,dO])
     have j:=MW (parts n.2.1) (parts a.2.1);unfold ltC at h⊢;omega
    refine FB.2 ⟨λy hy=>?_,FB.2 b⟩;rcases fh.1 hy with rfl|hy
    .exact d
    .exact Q9 d (b.1 y hy)
def N1 r n:(D4 r n).length=r.length+1:=by
 unfold D4;rw[iC,iD,<-EB,<-iC,BJ]
def IsC(a b:List Nd)(c:Dl):Prop :=
 (c.1=3/\∃x∈a,x.1=c.2.1/\∀y∈b,y.1≠x.1)\/(c.1=1/\∃y∈b,y.1=c.2.1/\∀x∈a,x.1≠y.1)\/(c.1=2/\∃x∈a,∃y∈b,x.1=y.1/\x≠y/\x.1=c.2.1)
def IsC.path{a b c}(h:IsC a b c):(∃x∈a,x.1=c.2.1)\/∃y∈b,y.1=c.2.1:=by
 rcases h with ⟨_,x,d,e,_⟩|⟨_,y,f,e,_⟩|⟨_,x,d,_,_,_,_,e⟩
 .exact .inl ⟨x,d,e⟩
 .exact .inr ⟨y,f,e⟩
 .exact .inl ⟨x,d,e⟩
def PO(l:List Nd):Prop:=l.Pairwise λx y=>cmpL (key x) (key y)<0
def Bk{x y}(h:cmpL (key x) (key y)<0):x.1≠y.1:=λe=>by
 unfold key at h;rw[e,jJ] at h;omega
def ajn{x y}(a:¬cmpL (key x) (key y)<0)(b:¬0<cmpL (key x) (key y)):x.1=y.1:=by
 have:=H6 (show cmpL (key x) (key y)=0 by omega);unfold key at this;rw[<-dO x.1,this,dO]
def afA:∀n a b,a.length+b.length<=n->PO a->PO b->Fq (DI a b)/\∀c,c∈DI a b↔IsC a b c:=by
 have ahead:∀{a b k p r},Fq r->(∀c,c∈r↔IsC a b c)->(∀x∈a,cmpL (parts p) (key x)<0)->(∀y∈b,cmpL (parts p) (key y)<0)->Fq (((k,p,()):Dl)::r):=by
  intro a b k p r N O P Q;refine FB.2 ⟨λc w=>?_,N⟩;show cmpL _ _<0
  rcases((O c).1 w).path with ⟨x,R,e⟩|⟨y,S,e⟩
  .rw[<-e];exact P x R
  .rw[<-e];exact Q y S
 intro n;induction n with
 | zero =>
   intro a b h _ _;obtain rfl:=yZ.1 (show a.length=0 by omega);obtain rfl:=yZ.1 (show b.length=0 by omega);rw[DI];exact⟨List.Pairwise.nil,λc=>by simp[IsC]⟩
 | succ n C =>
   intro a b h I H;cases a with
   | nil =>
     cases b with
     | nil=>rw[DI];exact⟨List.Pairwise.nil,λc=>by simp[IsC]⟩
     | cons y b =>
       have m:=FB.1 H;obtain⟨A,s⟩:=C [] b (by simp at h⊢;omega) I m.2;rw[DI];refine⟨ahead A s BS m.1,λc=>?_⟩;rw[fh,s];obtain⟨T,U,u⟩:=c;simp only[IsC,fh,Zd,false_and,exists_false,and_false,or_false,false_or,Prod.mk.injEq,forall_const,false_implies,implies_true,T6,exists_eq_or_imp];constructor
       .rintro(⟨rfl,rfl⟩|⟨rfl,g,d,rfl⟩)
        .exact⟨rfl,.inl rfl⟩
        .exact⟨rfl,.inr ⟨g,d,rfl⟩⟩
       .rintro⟨rfl,rfl|⟨g,d,rfl⟩⟩
        .exact .inl ⟨rfl,rfl⟩
        .exact .inr ⟨rfl,g,d,rfl⟩
   | cons x a =>
     have o:=FB.1 I;cases b with
     | nil =>
       obtain⟨A,s⟩:=C a [] (by simp at h⊢;omega) o.2 H;rw[DI];refine⟨ahead A s o.1 BS,λc=>?_⟩;rw[fh,s];obtain⟨T,U,u⟩:=c;simp only[IsC,fh,Zd,false_and,exists_false,and_false,or_false,Prod.mk.injEq,forall_const,false_implies,T6,exists_eq_or_imp];constructor
       .rintro(⟨rfl,rfl⟩|⟨rfl,g,d,rfl⟩)
        .exact⟨rfl,.inl rfl⟩
        .exact⟨rfl,.inr ⟨g,d,rfl⟩⟩
       .rintro⟨rfl,rfl|⟨g,d,rfl⟩⟩
        .exact .inl ⟨rfl,rfl⟩
        .exact .inr ⟨rfl,g,d,rfl⟩
     | cons y b =>
       have m:=FB.1 H;rw[DI];split
       .rename_i D;obtain⟨A,s⟩:=C a _ (by simp at h⊢;omega) o.2 H;have i:∀z∈y::b,cmpL _ _<0:=λz f=>by
         rcases fh.1 f with rfl|f
         .exact D
         .exact mn D (m.1 z f)
        refine⟨ahead A s o.1 i,λc=>?_⟩;rw[fh,s];constructor
        .rintro(rfl|w)
         .exact .inl ⟨rfl,x,aT,rfl,λz f=>(Bk<|i z f).symm⟩
         .rcases w with ⟨k,j,xz,e,l⟩|⟨k,g,d,e,l⟩|⟨k,j,xz,g,d,q,t,v⟩
          .exact .inl ⟨k,j,by simp[xz],e,l⟩
          .refine .inr (.inl ⟨k,g,d,e,λz f=>?_⟩);rcases fh.1 f with rfl|f
           .exact Bk (i g d)
           .exact l z f
          .exact .inr (.inr ⟨k,j,by simp[xz],g,d,q,t,v⟩)
        .rintro(⟨k,j,xz,e,l⟩|⟨k,g,d,e,l⟩|⟨k,j,xz,g,d,q,t,v⟩)
         .rcases fh.1 xz with rfl|xz
          .exact .inl (by rw[e,<-k])
          .exact .inr (.inl ⟨k,j,xz,e,l⟩)
         .exact .inr (.inr<|.inl ⟨k,g,d,e,λz f=>l z (by simp[f])⟩)
         .rcases fh.1 xz with rfl|xz
          .exact absurd q (Bk<|i g d)
          .exact .inr (.inr<|.inr ⟨k,j,xz,g,d,q,t,v⟩)
       .rename_i J;split
        .rename_i V;obtain⟨A,s⟩:=C _ b (by simp at h⊢;omega) I m.2;have E:cmpL (key y) (key x)<0:=by have:=MW (key y) (key x);omega
         have i:∀z∈x::a,cmpL _ _<0:=λz f=>by
          rcases fh.1 f with rfl|f
          .exact E
          .exact mn E (o.1 z f)
         refine⟨ahead A s i m.1,λc=>?_⟩;rw[fh,s];constructor
         .rintro(rfl|w)
          .exact .inr (.inl ⟨rfl,y,aT,rfl,λz f=>(Bk<|i z f).symm⟩)
          .rcases w with ⟨k,j,xz,e,l⟩|⟨k,g,d,e,l⟩|⟨k,j,xz,g,d,q,t,v⟩
           .refine .inl ⟨k,j,xz,e,λz f=>?_⟩;rcases fh.1 f with rfl|f
            .exact Bk (i j xz)
            .exact l z f
           .exact .inr (.inl ⟨k,g,by simp[d],e,l⟩)
           .exact .inr (.inr ⟨k,j,xz,g,by simp[d],q,t,v⟩)
         .rintro(⟨k,j,xz,e,l⟩|⟨k,g,d,e,l⟩|⟨k,j,xz,g,d,q,t,v⟩)
          .exact .inr (.inl ⟨k,j,xz,e,λz f=>l z (by simp[f])⟩)
          .rcases fh.1 d with rfl|d
           .exact .inl (by rw[e,<-k])
           .exact .inr (.inr<|.inl ⟨k,g,d,e,l⟩)
          .rcases fh.1 d with rfl|d
           .exact absurd q.symm (Bk<|i j xz)
           .exact .inr (.inr<|.inr ⟨k,j,xz,g,d,q,t,v⟩)
        .rename_i K;obtain⟨A,s⟩:=C a b (by simp at h⊢;omega) o.2 m.2;have B:=ajn J K;have L:key x=key y:=by unfold key;rw[B]
         have F:=λz f=>Bk (o.1 z f);have G:∀z∈b,x.1≠z.1:=λz f=>by rw[B];exact Bk (m.1 z f)
         constructor
         .split
          .exact A
          .exact ahead A s o.1 (λz f=>by
           show cmpL (key x) _<0
           rw[L];exact m.1 z f)
         .intro c;rw[Oy,s];constructor
          .rintro(w|w)
           .split at w
            .cases w
            .rename_i M;obtain rfl:=DR.1 w;exact .inr (.inr ⟨rfl,x,aT,y,aT,B,M,rfl⟩)
           .rcases w with ⟨k,j,xz,e,l⟩|⟨k,g,d,e,l⟩|⟨k,j,xz,g,d,q,t,v⟩
            .refine .inl ⟨k,j,by simp[xz],e,λz f=>?_⟩;rcases fh.1 f with rfl|f
             .rw[<-B];exact F j xz
             .exact l z f
            .refine .inr (.inl ⟨k,g,by simp[d],e,λz f=>?_⟩);rcases fh.1 f with rfl|f
             .exact G g d
             .exact l z f
            .exact .inr (.inr ⟨k,j,by simp[xz],g,by simp[d],q,t,v⟩)
          .rintro(⟨k,j,xz,e,l⟩|⟨k,g,d,e,l⟩|⟨k,j,xz,g,d,q,t,v⟩)
           .rcases fh.1 xz with rfl|xz
            .exact absurd B.symm (l y aT)
            .exact .inr (.inl ⟨k,j,xz,e,λz f=>l z (by simp[f])⟩)
           .rcases fh.1 d with rfl|d
            .exact absurd B (l x aT)
            .exact .inr (.inr<|.inl ⟨k,g,d,e,λz f=>l z (by simp[f])⟩)
           .rcases fh.1 xz with rfl|xz
            .rcases fh.1 d with rfl|d
             .left;rw[aK t,DR,v,<-k]
             .exact absurd q (G g d)
            .rcases fh.1 d with rfl|d
             .exact absurd (B.trans q.symm) (F j xz)
             .exact .inr (.inr<|.inr ⟨k,j,xz,g,d,q,t,v⟩)
def akW(x y:Nd):an (bt x.1 y.1) (an (aG x.2.1 y.2.1)<|an (aG x.2.2.1 y.2.2.1)<|an (bt x.2.2.2.1 y.2.2.2.1)<|an (bt x.2.2.2.2.1 y.2.2.2.2.1) true)=decide (x=y):=by
 obtain⟨a,b,c,d,e,f⟩:=x;obtain⟨g,h,i,j,k,l⟩:=y;unfold an bt aG;simp
def PH(a b:List Nd)(c:Dl):Prop :=
 (c.1=3/\∃x∈a,x.1=c.2.1/\∀y∈b,y.1≠x.1)\/(c.1=2/\∃x∈a,∃y∈b,x.1=y.1/\x≠y/\x.1=c.2.1)
def PH.path{a b c}(h:PH a b c):∃x∈a,x.1=c.2.1:=by
 rcases h with ⟨_,x,d,e,_⟩|⟨_,x,d,_,_,_,_,e⟩<;>exact⟨x,d,e⟩
def ack{a b c}:IsC a b c↔PH a b c\/(c.1=1/\∃y∈b,y.1=c.2.1/\∀x∈a,x.1≠y.1):=by
 constructor
 .rintro(h|h|h)
  .exact .inl (.inl h)
  .exact .inr h
  .exact .inl (.inr h)
 .rintro((h|h)|h)
  .exact .inl h
  .exact .inr (.inr h)
  .exact .inr (.inl h)
def step1(b:List Nd)(t:List Dl)(x:Nd):List Dl:=if(findF b x.1).2.1=false then D4 t (3,x.1,()) else if(findF b x.1).1=x then t else D4 t (2,x.1,())
def step2(a:List Nd)(t:List Dl)(y:Nd):List Dl:=if(findF a y.1).2.1=false then D4 t (1,y.1,()) else t
def JE{l}(b:Ord l) p:((∀x∈l,x.1≠p)/\findF l p=(Z2,false,()))\/∃x∈l,x.1=p/\findF l p=(x,true,()):=by
 by_cases h:∃x∈l,x.1=p
 .obtain⟨x,a,e⟩:=h;exact .inr ⟨x,a,e,A7 b a e⟩
 .exact .inl ⟨λx a e=>h ⟨x,a,e⟩,Fg λx a e=>h ⟨x,a,e⟩⟩
def dA{a:Type}{l:List a}{i x z}(b:l[i]?=aa x):z∈l.take (i+1)↔z∈l.take i\/z=x:=by
 rw[yn,b];simp
def fresh{l}(c:Ord l){i x}(d:l[i]?=aa x):∀z∈l.take i,z.1≠x.1:=λz e=>by
 obtain⟨j,a⟩:=bc.1 e;rw[jM] at a;split at a
 .rename_i b;exact Bk (c j i z x b a d)
 .cases a
def acm{a b}(A:Ord a)(r:Ord b){i x}(g:a[i]?=aa x){t}(B:Fq t)(v:∀c,c∈t↔PH (a.take i) b c) :
  Fq (step1 b t x)/\(step1 b t x).length<=t.length+1/\∀c,c∈step1 b t x↔PH (a.take<|i+1) b c:=by
 have s:∀c∈t,c.2.1≠x.1:=λc q e=>by
  obtain⟨z,d,E⟩:=((v c).1 q).path;exact fresh A g z d (by rw[E,e])
 have f:∀c,PH _ b c->PH _ b c:=λc q=>by
  rcases q with ⟨k,z,d,e,h⟩|⟨k,z,d,y,j,l,o,p⟩
  .exact .inl ⟨k,z,(dA g).2 (.inl d),e,h⟩
  .exact .inr ⟨k,z,(dA g).2 (.inl d),y,j,l,o,p⟩
 unfold step1;rcases JE r x.1 with ⟨u,C⟩|⟨y,j,w,C⟩
 .rw[C,aQ rfl];refine⟨N0 B s,by rw[N1];omega,λc=>?_⟩;rw[Hb,v];constructor
  .rintro(rfl|q)
   .exact .inl ⟨rfl,x,(dA g).2 (.inr rfl),rfl,u⟩
   .exact f c q
  .rintro(⟨k,z,d,e,h⟩|⟨k,z,d,y,j,l,o,p⟩)
   .rcases(dA g).1 d with d|rfl
    .exact .inr (.inl ⟨k,z,d,e,h⟩)
    .exact .inl (by rw[e,<-k])
   .rcases(dA g).1 d with d|rfl
    .exact .inr (.inr ⟨k,z,d,y,j,l,o,p⟩)
    .exact absurd l.symm (u y j)
 .rw[C,aK aT];by_cases m:y=x
  .rw[aQ m];refine⟨B,ah,λc=>?_⟩;rw[v];refine⟨f c,?_⟩;rintro(⟨k,z,d,e,h⟩|⟨k,z,d,D,n,l,o,p⟩)
   .rcases(dA g).1 d with d|rfl
    .exact .inl ⟨k,z,d,e,h⟩
    .exact absurd w (h y j)
   .rcases(dA g).1 d with d|rfl
    .exact .inr ⟨k,z,d,D,n,l,o,p⟩
    .exact absurd ((r.uniq j n<|by rw[w,l]).symm.trans m).symm o
  .rw[aK m];refine⟨N0 B s,by rw[N1];omega,λc=>?_⟩;rw[Hb,v];constructor
   .rintro(rfl|q)
    .exact .inr ⟨rfl,x,(dA g).2 (.inr rfl),y,j,w.symm,λe=>m e.symm,rfl⟩
    .exact f c q
   .rintro(⟨k,z,d,e,h⟩|⟨k,z,d,D,n,l,o,p⟩)
    .rcases(dA g).1 d with d|rfl
     .exact .inr (.inl ⟨k,z,d,e,h⟩)
     .exact absurd w (h y j)
    .rcases(dA g).1 d with d|rfl
     .exact .inr (.inr ⟨k,z,d,D,n,l,o,p⟩)
     .exact .inl (by rw[p,<-k])
def YN(a b m:List Nd)(c:Dl):Prop:=PH a b c\/(c.1=1/\∃y∈m,y.1=c.2.1/\∀x∈a,x.1≠y.1)
def acn{a b}(n:Ord a)(o:Ord b){i y}(j:b[i]?=aa y){t}(u:Fq t)(p:∀c,c∈t↔YN a b (b.take i) c) :
  Fq (step2 a t y)/\(step2 a t y).length<=t.length+1/\∀c,c∈step2 a t y↔YN a b (b.take<|i+1) c:=by
 have f:∀c,YN a b _ c->YN a b _ c:=λc l=>by
  rcases l with h|⟨k,z,d,e,g⟩
  .exact .inl h
  .exact .inr ⟨k,z,(dA j).2 (.inl d),e,g⟩
 unfold step2;rcases JE n y.1 with ⟨m,q⟩|⟨x,v,w,q⟩
 .rw[q,aQ rfl];have r:∀c∈t,c.2.1≠y.1:=λc l e=>by
   rcases(p c).1 l with h|⟨_,z,d,s,_⟩
   .obtain⟨z,d,s⟩:=h.path;exact m z d (by rw[s,e])
   .exact fresh o j z d (by rw[s,e])
  refine⟨N0 u r,by rw[N1];omega,λc=>?_⟩;rw[Hb,p];constructor
  .rintro(rfl|l)
   .exact .inr ⟨rfl,y,(dA j).2 (.inr rfl),rfl,m⟩
   .exact f c l
  .rintro(h|⟨k,z,d,e,g⟩)
   .exact .inr (.inl h)
   .rcases(dA j).1 d with d|rfl
    .exact .inr (.inr ⟨k,z,d,e,g⟩)
    .exact .inl (by rw[e,<-k])
 .rw[q,aK aT];refine⟨u,ah,λc=>?_⟩;rw[p];refine⟨f c,?_⟩;rintro(h|⟨k,z,d,e,g⟩)
  .exact .inl h
  .rcases(dA j).1 d with d|rfl
   .exact .inr ⟨k,z,d,e,g⟩
   .exact absurd w (g x v)
def N2 a b (p:vY a) (q:vY b):mF (a,b,())=aa ((PF a b).1,(PF a b).2,()):=by
 obtain⟨e,K,G⟩:=oL a p;obtain⟨f,L,H⟩:=oL b q;unfold mF;rw[K,L];simp only[ab];rw[show ak _ _ _=aa (!(e&&f)) by cases e<;>cases f<;>rfl,ab];by_cases hv:Valid a/\Valid b
 .obtain rfl:=G.2 hv.1;obtain rfl:=H.2 hv.2;have g:=hv.1.ord;have j:=hv.2.ord;have M:=p.1;have N:=q.1;have small:∀{t m},t.length<=10000->(∀c,c∈t->YN a b m c)->(∀y∈m,y∈b)->SmC t:=λ{t m} hl w O=>⟨ah,λc r=>by
   rcases w c r with h|⟨_,z,l,e,_⟩
   .obtain⟨z,l,e⟩:=h.path;rw[<-e];have:=(p.2 z l).1;omega
   .rw[<-e];have:=(q.2 z<|O z l).1;omega⟩
  obtain⟨t,P,Q,_⟩:=uc (f:=lY (a,b,())) a (λt i=>((t,i,()),())) _ _ (λt i=>Fq t/\t.length<=i/\∀c,c∈t↔PH _ b c) ah (λt i x B C d D=>by
   obtain⟨s,I,n⟩:=D;obtain⟨E,R,F⟩:=acm g j B s n;refine⟨?_,E,ah,F⟩;have Xi:=(p.at B).1;have v:SmC t:=small (m:=[]) ah (λc r=>.inl (by
    rcases(n c).1 r with ⟨k,z,l,e,S⟩|⟨k,z,l,y,o,T,U,V⟩
    .exact .inl ⟨k,z,DQ l,e,S⟩
    .exact .inr ⟨k,z,DQ l,y,o,T,U,V⟩)) BS
   unfold lY step1;rw[al C,ao B,ab,CR b x.1 q hv.2,d];simp only[ab];rw[akW,NX t _ v ym,NX t _ v ym];cases h:(findF b x.1).2.1 with
   | false=>rfl
   | true =>
     by_cases A:(findF b x.1).1=x
     .rw[cU A,aQ A];rfl
     .rw[cd A,aK A];rfl) (λt _=>by
   unfold lY;rw[aq];rfl) [] ⟨List.Pairwise.nil,aT,λc=>by simp[PH]⟩
  obtain⟨s,I,n⟩:=P;obtain⟨u,W,X,_⟩:=uc (f:=lZ (a,b,())) b (λt i=>((t,i,()),())) _ _ (λt i=>Fq t/\t.length<=a.length+i/\∀c,c∈t↔YN a b _ c) ah (λt i y o C d D=>by
   obtain⟨s,I,n⟩:=D;obtain⟨E,R,F⟩:=acn g j o s n;refine⟨?_,E,ah,F⟩;have Y:=(q.at o).1;unfold lZ step2;rw[al C,ao o,ab,CR a y.1 p hv.1,d];simp only[ab];rw[NX t _ (small ah (λc r=>(n c).1 r) λy o=>DQ o) ym];cases h:(findF a y.1).2.1<;>rfl) (λt _=>by
   unfold lZ;rw[aq];rfl) t ⟨s,ah,λc=>by rw[n];simp[YN]⟩
  obtain⟨Z,k2,J⟩:=W;rw[zw] at J;have w:=afA _ a b (bV _) (Ae.1 g) (Ae.1 j);rw[show(!(true&&true))=false from rfl,ag,Q,ab];rw[X,ab];unfold PF;rw[aQ hv,(afz Z w.1 λc=>by rw[J,w.2,ack];rfl)]
 .have:(e&&f)=false:=by
   cases e with
   | false=>rfl
   | true =>
     cases f with
     | false=>rfl
     | true=>exact absurd ⟨G.1 rfl,H.1 rfl⟩ hv
  rw[this];unfold PF;rw[aK hv];rfl
def Tp(l:List Dl)(s:l.length<=4096)(j:∀c∈l,c.2.1.length<=4096):sE (l,())=aa (l.flatMap vF,()):=by
 unfold sE;have key:=hJ (f:=qA (l,())) l (λd i=>((d,i,()),())) vF _ ah (λi x k n a=>by
  have b:((l.take i).flatMap vF).length<=(l.take i).length*8200:=DJ _ _ _ λc o=>by
   have:=j c (DQ o);rw[Iw];omega
  rw[dk] at b;have Xi:=j x (eG k);have t:=Iu x.1;unfold qA;rw[al n,ao k];simp only[ab,a];have p:(ak (ch 1 x.1) (aa<|ch x.1 3) (aa false):Option Bool)=aa (decide<|1<=x.1/\x.1<=3):=by
   by_cases g:1<=x.1
   .by_cases m:x.1<=3
    .rw[bz g,bz m,cU ⟨g,m⟩];rfl
    .rw[bz g,cG ah,cd ah];rfl
   .rw[cG ah,cd ah];rfl
  rw[p,ab];have q:(ak (decide<|1<=x.1/\x.1<=3) (ae (idx ([[],[43],[126],[45]]) x.1) λr=>aa ((r,()),())) (aa (([63],()),())):Option _)=aa ((Ex x.1,()),()):=by
   by_cases h:1<=x.1/\x.1<=3
   .rw[cU h,ai,Wu h.1 h.2,ab]
   .rw[cd h,ag];unfold Ex;rw[aK h]
  rw[q,ab];dsimp only;rw[M4 x.2.1 ah,ab];have e:app (app (app (app ((l.take i).flatMap vF)<|Ex x.1) [32])<|vy x.2.1) [10]=(l.take i).flatMap vF++vF x:=by
   unfold vF;simp only[gU,xg]
  rw[e];rw[aJ ah,aJ (by simp only[gU,iC,iD,p6];omega)];rw[aJ<|by simp only[gU,iC,iD,p6,kb];omega,ai,aJ (by simp only[gU,iC,iD,p6,kb];omega)];rfl) (by
  unfold qA;rw[aq];rfl)
 rw[show Loop _ _=_ from key,ab]
def WV{a:Type}(l:List a)(k i:Nat):List a:=if i<=k then l.take i else l.take k++(l.take i).drop (k+1)
def N3{α}{l:List α}{k i y}(a:l[i]?=aa y)(h:i≠k):WV l k i++[y]=WV l k (i+1):=by
 have hi:=av a;have e:l.take (i+1)=l.take i++[y]:=by rw[yn,a];rfl
 unfold WV;by_cases q:i<k
 .rw[aQ ah,aQ ah,e]
 .rw[aK ah,aK ah,e,aaB (by rw[dk];omega),xg]
def N4{α}{l:List α}{k}:WV l k k=WV l k (k+1):=by
 unfold WV;rw[aQ<|bV _,aK ah,Fy (by rw[dk];omega),tK]
def Tq{α}{l:List α}{k i}:(WV l k i).length<=l.length:=by
 unfold WV;split
 .rw[dk];omega
 .simp;omega
def DM{α}{l:List α}{k}:WV l k l.length=if k<l.length then cutAt l k else l:=by
 unfold WV cutAt;by_cases q:k<l.length
 .rw[aK ah,aQ q,zw]
 .rw[aQ ah,aK q,zw]
def JF(s:aU)(id:Tx) b k (g:s.2.2.1.length<=1000000) (c:∀i,i<s.2.2.1.length->aG i b.1=decide (i=k)) :
  Loop (iX (s,id,()) b) (((),(),0,()),([]:List Tx),([]:List cD),())=aa (((),(),(s.2.2.1.length:Int),()),WV (yd s.2.2.1.length s.2.2.2.1) k s.2.2.1.length,WV s.2.2.1 k s.2.2.1.length,()):=by
 have key:=cV (f:=iX (s,id,()) b) s.2.2.1.length
  (λi=>(((),(),i,()),WV (yd s.2.2.1.length s.2.2.2.1) k i,WV s.2.2.1 k i,())) (λi a=>by
   have hx:=fH a;have h:=Tq (l:=s.2.2.1) (k:=k) (i:=i);have e:=Tq (l:=yd s.2.2.1.length s.2.2.2.1) (k:=k) (i:=i);rw[qt] at e;unfold iX;dsimp only;rw[al a,c i a,aB ah];by_cases q:i=k
   .rw[cU q];subst q;rw[<-N4,<-N4];rfl
   .rw[cd q,ao hx,ab,show fits _=true from aJ cT,Be,ab,
     show ∀d,fits (plus _<|@len Tx [d])=true from λd=>aJ cT,<-N3 hx q,<-N3 (Th a) q]
    rfl) (by
   unfold iX;rw[aq];rfl)
 exact key
def BF(s:aU)(id:Tx)(d:s.2.2.1.length<=100000)(b:s.2.2.2.2.1.length<=50000):mL (s,id,())=aa (Ws s id,()):=by
 unfold mL Ws;rw[Fk s id ah,ab];unfold D3;cases h:Fj s.2.2.1 id with
 | none =>
   have e:=DM (l:=yd s.2.2.1.length s.2.2.2.1) (k:=s.2.2.1.length);rw[qt,aK ah] at e;dsimp only;rw[JF s id _ s.2.2.1.length ah<|λi a=>by rw[ar ah,cd ah],ab,e,DM,aK ah];exact ob (u7 _ id 0 b) rfl
 | some i =>
   obtain⟨x,c,_⟩:=Bd h;have a:=av c;have e:=DM (l:=yd s.2.2.1.length s.2.2.2.1) (k:=i);rw[qt,aQ a] at e;dsimp only;rw[JF s id _ i ah<|λj f=>by exact gm.2 ah,ab,e,DM,aQ a];exact ob (u7 _ id 0 b) rfl
def Ku e:bR (e,())=aa (jq e,()):=rfl
def Al{α}(a:α->Tx){l d p}{i:Nat}{x}(c:l[i]?=aa x)(e:a x=p)(f:∀j y,j<i->l[j]?=aa y->a y≠p):vZ a l d p=x:=by
 have h:l.find? (λx=>decide (a x=p))=aa x:=by
  rw[aaA];obtain⟨g,rfl⟩:=iy.1 c;exact⟨cU e,i,g,rfl,λj b=>by simpa using f j _ b (fH ah)⟩
 unfold vZ;rw[h];rfl
def N5{α}(a:α->Tx){l d p}(h:∀x∈l,a x≠p):vZ a l d p=d:=by
 unfold vZ;rw[TI.2 λx b=>by simpa using h x b];rfl
def Pf{b:Type}(a:b->Tx)(l:List b)(id:Tx)(n:Int):Prop:=(∃(k:Nat) (x:b),l[k]?=aa x/\a x=id/\(∀j y,j<k->l[j]?=aa y->a y≠id)/\n=k)\/((∀x∈l,a x≠id)/\n=-1)
def Pf.vZ{α}{a:α->Tx}{l id n}(h:Pf a l id n) d:∃b,ak (aL n 0) (aa (d,false,())) (ae (idx l n) λy=>aa (y,true,()))=aa (Go.Ge.vZ a l d id,b,()):=by
 rcases h with ⟨k,x,c,e,f,rfl⟩|⟨g,rfl⟩
 .refine⟨true,?_⟩;rw[aC ah,ag,ao c,ab,Al a c e f]
 .refine⟨false,?_⟩;rw[N5 a g];rfl
def aah{α f}(a:α->Tx) l (id:Tx) (u:l.length<=1000000)
  (g:∀c i,f ((c,i,()),())=ak (aL i<|len l) (ae (idx l i) λy=>ak (bt (a y) id) (aa<|.inr (1,(i,i,()),())) (aa<|.inl ((c,aw .i64 i 1,()),()))) (aa<|.inr (0,(c,i,()),()))) :
  ∃n,ae (Loop f ((0,0,()),())) (λk=>ak (cl k.1 0) (aa ((-1:Int),())) (aa (k.2.1.1,())))=aa (n,())/\Pf a l id n:=by
 rcases eu (f:=f) l (λi=>((0,i,()),())) (λ_ y=>decide (a y=id)) (λi _=>(1,(i,i,()),())) _ ah (λi y b d m=>by
  rw[g,al d,ai,ao b,ab,dq,da,m];by_cases q:a y=id<;>simp[q]) (by rw[g,aq,ag]) with ⟨i,y,b,o,p,h⟩|⟨r,h⟩
 .refine⟨i,?_,.inl ⟨i,y,b,fb o,λj z e s=>xf (p j z e s),rfl⟩⟩;rw[h];rfl
 .refine⟨-1,?_,.inr ⟨λx t=>?_,rfl⟩⟩
  .rw[h];rfl
  .obtain⟨i,d⟩:=bc.1 t;exact xf (r i x d)
def N6(s:aU)(id:Tx)(a:s.2.1.length<=1000000):∃n,wH (s,id,())=aa (n,())/\Pf (λx=>x.1) s.2.1 id n:=aah _ s.2.1 id a λc i=>rfl
def N7(s:aU)(id:Tx)(a:s.1.length<=1000000):∃n,wI (s,id,())=aa (n,())/\Pf (λx=>x.1) s.1 id n:=aah _ s.1 id a λc i=>rfl
def Iy(s:aU)(id:Tx)(a:s.2.1.length<=1000000):∃b,oG (s,id,())=aa (vZ (·.1) s.2.1 PG id,b,()):=by
 obtain⟨n,h,c⟩:=N6 s id a;unfold oG;rw[h];exact c.vZ PG
def Iz(s:aU)(id:Tx)(a:s.1.length<=1000000):∃b,rP (s,id,())=aa (vZ (·.1) s.1 F4 id,b,()):=by
 obtain⟨n,h,c⟩:=N7 s id a;unfold rP;rw[h];exact c.vZ F4
def afB{α S f} key l id n (g:Pf key l id n) (h:l.length<=1000000) (mk:List α->Int->S)
  (j:∀r (i:Nat) y,l[i]?=aa y->r.length<=1000000->f (mk r i)=aa (.inl<|mk (if i=n then r else r++[y])<|aw .i64 i 1))
  (c:∀r,f (mk r (l.length:Int))=aa (.inr<|mk r (l.length:Int))):Loop f (mk [] 0)=aa (mk (Is key l id) (l.length:Int)):=by
 obtain⟨k,e,m⟩:∃k,(∀i,i<l.length->(i=n↔i=k))/\Is key l id=WV l k l.length:=by
  rcases g with ⟨k,x,a,c,o,rfl⟩|⟨d,rfl⟩
  .exact⟨k,λi _=>ah,by rw[DM,aQ (av a),NV key a c o]⟩
  .exact⟨l.length,λi b=>ah,by rw[DM,aK ah,Ai key d]⟩
 rw[m];have key:=cV (r:=mk (WV l k l.length) l.length) l.length (λi=>mk _ i) (λi b=>by
  have a:=fH b;rw[j _ i _ a<|fi Tq h,aB ah];by_cases q:i=k
  .rw[aQ<|(e i b).2 q];subst q;rw[<-N4]
  .rw[aK<|λz=>q ((e i b).1 z),N3 a q]) (c _)
 exact key
def Wx(s:aU)(id:Tx)(a:s.2.1.length<=1000000):mM (s,id,())=aa ((s.1,(Is (·.1) s.2.1 id,s.2.2)),()):=by
 obtain⟨n,h,c⟩:=N6 s id a;unfold mM;rw[h,ab,afB _ s.2.1 id n c a (λr i=>(((),i,()),r,())) (λr i y b d=>by
  unfold ry;rw[al<|av b,ao b,ab,show fits _=true from aJ cT];by_cases q:i=n
  .rw[au q,aQ q];rfl
  .rw[ar q,aK q];rfl) (λr=>by unfold ry;rw[aq];rfl),ab]
def Wy(s:aU)(id:Tx)(a:s.1.length<=1000000):mN (s,id,())=aa ((Is (·.1) s.1 id,s.2),()):=by
 obtain⟨n,h,c⟩:=N7 s id a;unfold mN;rw[h,ab,afB _ s.1 id n c a (λr i=>(((),i,()),r,())) (λr i y b d=>by
  unfold rz;rw[al<|av b,ao b,ab,show fits _=true from aJ cT];by_cases q:i=n
  .rw[au q,aQ q];rfl
  .rw[ar q,aK q];rfl) (λr=>by unfold rz;rw[aq];rfl),ab]
def u9{α}(a:α->Tx) l p:(Is a l p).length<=l.length:=by
 unfold Is;split
 .apply Ah
 .apply bV
def IA(s:aU)(x:lD)(d:s.2.1.length<=100000):rN (s,x,())=aa ((s.1,(p5 (·.1) (Is (·.1) s.2.1 x.1) x,s.2.2)),()):=by
 have b:=u9 (λy=>y.1) s.2.1 x.1;unfold rN;rw[Wx s x.1 ah,ab];generalize Is _ s.2.1 x.1=l at b;have c:=lG (λy=>y.1) l x.1;have h:=mu (f:=sV (s,x,()) ((s.1,l,s.2.2),())) _ l x.1 ah (λi=>((i,()),())) _ _ (λi y a=>by
  have hi:=av a;unfold sV;rw[al hi,ao a,ab,aB ah];cases fM y.1 x.1<;>rfl) (by unfold sV;rw[aq];rfl)
 have e:(if di (λy=>y.1) l x.1<l.length then((((di (λy=>y.1) l x.1:Nat):Int),()),()) else((l.length,()),()))=((((di (λy=>y.1) l x.1:Nat):Int),()),()):=by
  split
  .rfl
  .rw[show di _ l x.1=l.length by omega]
 rw[h,e,Lb];exact ajm l _ x c ah (λm=>aa ((s.1,m,s.2.2),()))
def IB(s:aU)(x:AX)(d:s.1.length<=100000):rO (s,x,())=aa ((p5 (·.1) (Is (·.1) s.1 x.1) x,s.2),()):=by
 have b:=u9 (λy=>y.1) s.1 x.1;unfold rO;rw[Wy s x.1 ah,ab];generalize Is _ s.1 x.1=l at b;have c:=lG (λy=>y.1) l x.1;have h:=mu (f:=sZ (s,x,()) ((l,s.2),())) _ l x.1 ah (λi=>((i,()),())) _ _ (λi y a=>by
  have hi:=av a;unfold sZ;rw[al hi,ao a,ab,aB ah];cases fM y.1 x.1<;>rfl) (by unfold sZ;rw[aq];rfl)
 have e:(if di (λy=>y.1) l x.1<l.length then((((di (λy=>y.1) l x.1:Nat):Int),()),()) else((l.length,()),()))=((((di (λy=>y.1) l x.1:Nat):Int),()),()):=by
  split
  .rfl
  .rw[show di _ l x.1=l.length by omega]
 rw[h,e,Lb];exact ajm l _ x c ah (λm=>aa ((m,s.2),()))
def zA:tD:=(0,[],0,[],())
def zS:aU:=([],[],[],[],[],())
def Am{s}(h:qs s)(e:Tx){given}(o:pL given)(a:Tx) d (A:a.length<=100000):oE (s,e,given,a,d,())=aa (crS s e given a d):=by
 have L:=h.ll;have M:=La h;unfold oE crS;rw[oI given o.small (λx B=>by have:=o.2 x B;omega),ab];dsimp only;by_cases r:eU given=0
 rotate_left
 .rw[aQ r,ar r];rfl
 rw[aK<|λq=>q r,au r];have C:(ak (nt<|bt a []) (ae (nd (a,())) λN=>aa (nt<|aG N.1 0))<|some false)=aa (decide<|¬a=[]/\¬((Jy a).2=0/\jg (Jy a).1=true)):=by
  by_cases q:a=[]
  .rw[cc q,aW,ag,cd λk=>k.1 q]
  .rw[aY q,aE,ai,CT];by_cases k:(Jy a).2=0/\jg (Jy a).1=true
   .rw[aQ k,cd λz=>z.2 k];rfl
   .rw[aK k,cU ⟨q,k⟩];rfl
 rw[C,ab];by_cases t:a≠[]/\¬CV a
 .rw[aQ t,cU (show ¬a=[]/\¬((Jy a).2=0/\jg (Jy a).1=true) from t)];rfl
 rw[aK t,cd (show ¬(¬a=[]/\¬((Jy a).2=0/\jg (Jy a).1=true)) from t)];by_cases n:e≠[]/\(aS (ix s) e).2.1≠0
 .rw[aQ n,aY n.1,fE s e h,ab,ar n.2];rfl
 rw[aK n];have E:(ak (nt<|bt e []) (ae (eR (s,e,())) λF=>ak (nt<|aG F.2.1 0) (ae (bR (F.2.1,())) λO=>aa (1,(([]),()),O.1,s,())) (aa (0,(F.1,()),zA,zS,())))
   (aa (0,(([]),()),zA,zS,())))=aa (0,(jx s e,()),zA,zS,()):=by
  unfold jx;by_cases q:e=[]
  .rw[cc q,aW,ag,aQ q]
  .rw[aY q,fE s e h,ab,au (BK λk=>n ⟨q,k⟩),aK q];rfl
 refine ob E ?_;rw[ Ks s h,ab];rw[wQ _ [] given (Dz h) o.small (λx B=>by have:=o.2 x B;omega),ab];by_cases c3:pU (ix s) [] given=0
 rotate_left
 .rw[aQ c3,ar c3];rfl
 rw[aK<|λq=>q c3,au c3,ab];dsimp only;rw[A5 _ _ ah,ab];by_cases u:(dB (ix s) d).2.1=0
 rotate_left
 .rw[aQ u,ar u];rfl
 rw[aK<|λq=>q u,au u];generalize jx s e=p;generalize (dB _ d).1=id;have i:ch 16 (len (dx s.2.2.1 p).1)=decide (16<=(dx s.2.2.1 p).1.length):=by unfold len;apply gm.2;omega
 by_cases j:p≠[]/\(dx s.2.2.1 p).2=0/\16<=(dx s.2.2.1 p).1.length
 .rw[aQ j,aY j.1,Dx _ _ ah,ab];dsimp only;rw[au j.2.1,i,cU j.2.2];rfl
 rw[aK j];by_cases g:a≠[]/\(BB s p).2≠0
 .have q:=λq=>g.2 (by unfold BB;rw[aQ q]);have v:BB s p=mS s.2.2.1 s.2.2.2.1 p:=by unfold BB;rw[aK q]
  have G:ak (ak (aG (dx s.2.2.1 p).2 0) (ch 16<|len (dx s.2.2.1 p).1) false)=λ(x y:Option (Nat×(List Nd×aj)×tD×aU×aj))=>y:=by
   by_cases l:(dx s.2.2.1 p).2=0
   .rw[au l,i,cd λk=>j ⟨q,l,k⟩];rfl
   .rw[ar l];rfl
  rw[aQ g,aY q,Dx _ _ ah,ab];rw[show ak (ak _ _ false)=_ from G,aY g.1,Bf s p ah,ab];rw[v] at g⊢;rw[ar g.2];rfl
 rw[aK g];have H:∀(f:Nat×_×tD×aU×aj->Option (aU×tD×aj)),
   ae (ak (nt<|bt p []) (ae (ng (s.2.2.1,_)) λK=>ak (ak (aG K.2.1 0) (ch 16<|len K.1) false) (ae (bR (5,())) λc=>aa (1,(([]),()),c.1,s,()))
    (ae (ak (nt<|bt a []) (ae (ma _) λc=>ak (nt<|aG c.2.1 0) (ae (bR (c.2.1,())) λm=>aa (1,(([]),()),m.1,s,())) (aa (0,(c.1,()),zA,_)))<|some (0,(([]),()),zA,zS,())) λc =>
     ak (cl c.1 0) (aa (0,(c.2.1.1,()),c.2.2.1,c.2.2.2.1,())) (aa (1,(c.2.1.1,()),c.2.2.1,c.2.2.2.1,()))))<|some (0,_)) f =
   f (0,((if a=[] then [] else(BB s p).1),()),zA,_):=λf=>by
  by_cases q:p=[]
  .rw[cc q,aW,ag,ab,show(if a=[] then [] else(BB s p).1)=[] by unfold BB;split<;>rfl]
  .have v:BB s p=mS s.2.2.1 s.2.2.2.1 p:=by unfold BB;rw[aK q]
   have G:ak (ak (aG (dx s.2.2.1 p).2 0) (ch 16<|len (dx s.2.2.1 p).1) false)=λ(x y:Option (Nat×(List Nd×aj)×tD×aU×aj))=>y:=by
    by_cases l:(dx s.2.2.1 p).2=0
    .rw[au l,i,cd λk=>j ⟨q,l,k⟩];rfl
    .rw[ar l];rfl
   rw[aY q,Dx _ _ ah,ab];rw[show ak _=_ from G];by_cases b:a=[]
   .rw[cc b,aQ b];rfl
   .rw[aY b,Bf s p ah,aK b,v,ab,au (BK λk=>g ⟨b,by rw[v];exact k⟩)];rfl
 refine(H _).trans ?_;rw[cO,ai];have fin:∀D,D.length<=100000->ae (tS _) (λm=>ae (sO (s,(id,p,given,m.1,len D,0,true,()),_)) λI=>aa (I.1,((0:Int),id,(0:Int),([]:Tx),()),())) =
   aa (Jz s (id,p,given,_) D,_):=λD P=>by
  rw[Qw D ah,ab];exact ob (Ti s _ D ah) rfl
 by_cases b:a=[]
 .rw[aK<|show ¬(a≠[]/\(mr (BB s p).1 a).2≠0) from λk=>k.1 b,cc b,ai,NQ,ab,ab];rw[cO,ai,show Wq id p given a=(id,p,given,_) by unfold Wq NS;rw[aQ b],show NS a=WU 1024 by unfold NS;rw[aQ b]];exact fin _ (by rw[Fe];decide)
 .have J:(BB s p).2=0:=BK λk=>g ⟨b,k⟩;rw[aY b,ag,aK b,NJ (DG J) a,ab];by_cases w:(mr (BB s p).1 a).2=0
  .rw[au w,aW,ag,ab,aK λk=>k.2 w];rw[ show Wq id p given a=(id,p,given,_) by unfold Wq NS;rw[aK b],show NS a=a by unfold NS;rw[aK b]];exact fin a A
  .rw[ar w,aQ ⟨b,w⟩];rfl
def BG s (h:qs s):np (s,())=aa (yp s,()):=by
 unfold np;rw[xS 2 _ h.ajf];rfl
def BH s (h:qs s):nq (s,())=aa (Dy s,()):=by
 unfold nq;rw[xS 1 _ h.ajg];rfl
def ye s (ref:Tx) (h:qs s):sX (s,ref,())=aa (aS (yp s) ref):=by
 refine ob (BG s h) ?_;exact ob (oN (yp s) ref (DA h) (by have:=Te h;omega)) rfl
def N8 s (ref:Tx) (h:qs s):AR (s,ref,())=aa (aS (Dy s) ref):=by
 refine ob (BH s h) ?_;exact ob (oN (Dy s) ref (DH h) (by have:=Lc h;omega)) rfl
def Rb s id:BE s id=(vZ (·.1) s.2.1 PG id).2.2.1:=by
 unfold BE vZ;cases s.2.1.find? _<;>rfl
def Wz s id:YL s id=(vZ (·.1) s.1 F4 id).2.2.2.1:=by
 unfold YL vZ;cases s.1.find? _<;>rfl
def BI{s}(h:qs s) k:uS (s,k,())=aa (xd s k,()):=ob (xS k _ h.ajk) rfl
def N9{k l}:k∈PD k l↔k∈l:=by
 unfold PD;by_cases q:k∈l
 .simp
 .simp
def aco{e:Type}{a:e->Tx}{l:List e}{id}{i k:Nat}{x y}(f:l[i]?=aa x)(g:a x=id)(h:∀j z,j<i->l[j]?=aa z->a z≠id)(b:l[k]?=aa y)(c:a y=id)(d:∀j z,j<k->l[j]?=aa z->a z≠id):x=y:=by
 rcases Lo i k with q|q|q
 .exact absurd g (d i x q f)
 .subst q;rw[f] at b;exact aI b
 .exact absurd c (h k y q b)
def lI(s:aU)(id:Tx)(D:s.2.2.2.2.1.length<=1000000):de (s,id,())=aa (ui s id,())/\fw (s,id,())=aa (ui s id,()):=by
 have g:(∃(k:Nat) (x:xY),s.2.2.2.2.1[k]?=aa x/\x.1=id/\(∀j y,j<k->s.2.2.2.2.1[j]?=aa y->y.1≠id)/\de (s,id,())=aa (x.2.1,()))\/((∀x∈s.2.2.2.2.1,x.1≠id)/\de (s,id,())=aa (0,())):=by
  unfold de;rcases eu (f:=fu (s,_)) s.2.2.2.2.1 (λi=>((0,i,()),(),id,())) (λ_ y=>decide (y.1=id)) (λi _=>(1,(i,i,()),(),id,())) _ ah (λi y a b p=>by
   unfold fu qR;rw[al b,ai,ao a,ab,ab,dq,da,p];by_cases q:y.1=id<;>simp[q]) (by unfold fu;rw[aq,ag]) with ⟨i,y,a,g,r,h⟩|⟨t,h⟩
  .refine .inl ⟨i,y,a,fb g,λj z c u=>xf (r j z c u),?_⟩;rw[h,ab];dsimp only;rw[show cl 1 0=false from rfl,ag,aC ah,ag,ao a,ab]
  .refine .inr ⟨λx d=>?_,?_⟩
   .obtain⟨i,b⟩:=bc.1 d;exact xf (t i x b)
   .rw[h,ab];rfl
 have w:(∃(k:Nat) (x:xY),s.2.2.2.2.1[k]?=aa x/\x.1=id/\(∀j y,j<k->s.2.2.2.2.1[j]?=aa y->y.1≠id)/\fw (s,id,())=aa (x.2.1,()))\/((∀x∈s.2.2.2.2.1,x.1≠id)/\fw (s,id,())=aa (0,())):=by
  unfold fw;rcases eu (f:=nR (s,id,())) s.2.2.2.2.1 (λi=>((0,i,()),())) (λ_ y=>decide (y.1=id)) (λi y=>(1,(y.2.1,i,()),())) _ ah (λi y a b p=>by
   unfold nR;rw[al b,ai,ao a,ab,dq,da,ab,p];by_cases q:y.1=id<;>simp[q]) (by unfold nR;rw[aq,ag]) with ⟨i,y,a,g,r,h⟩|⟨t,h⟩
  .refine .inl ⟨i,y,a,fb g,λj z c u=>xf (r j z c u),?_⟩;rw[h];rfl
  .refine .inr ⟨λx d=>?_,?_⟩
   .obtain⟨i,b⟩:=bc.1 d;exact xf (t i x b)
   .rw[h];rfl
 have e:∀n,de _=aa (n,())->ui s id=n:=λn h=>by unfold ui;rw[h]
 rcases g with ⟨k,x,d,o,A,l⟩|⟨o,l⟩
 .rcases w with ⟨B,y,a,m,C,v⟩|⟨m,_⟩
  .obtain rfl:=aco d o A a m C;rw[e _ l];exact⟨l,v⟩
  .exact absurd o (m x<|eG d)
 .rcases w with ⟨B,y,a,m,_⟩|⟨_,v⟩
  .exact absurd m (o y<|eG a)
  .rw[e _ l];exact⟨l,v⟩
def ctA(s:aU)(a:Tx)(d:Int):aU×tD×aj :=
 if(aS (ix s) a).2.1≠0 then(s,jq (aS (ix s) a).2.1,()) else
 if 0<d/\1000<=ui s (aS (ix s) a).1 then(s,jq 5,()) else
 if d<0/\ui s (aS (ix s) a).1<1 then(s,jq 11,()) else
 (Tj s (aS (ix s) a).1<|aw .i64 (ui s (aS (ix s) a).1) d,(0,(aS (ix s) a).1,aw .i64 (ui s (aS (ix s) a).1) d,[],()),())
def JG{s}(h:qs s)(e:s.2.2.2.2.1.length<=50000)(a:Tx) d:pC (s,a,d,())=aa (ctA s a d):=by
 obtain⟨f,_⟩:=lI s (aS _ a).1 ah;unfold ctA;refine ob (jK s a h) ?_;by_cases c:(aS (ix s) a).2.1=0
 rotate_left
 .rw[ar c,aQ c];rfl
 rw[au c,aK λq=>q c];refine ob f ?_;have g:ak (aL 0 d) (ch 1000<|ui s (aS (ix s) a).1) false=decide (0<d/\1000<=ui s (aS (ix s) a).1):=by
  rw[ nX];exact(Bool.decide_and _ _).symm
 have i:ak (aL d 0) (aL (ui s (aS (ix s) a).1) 1) false=decide (d<0/\ui s (aS (ix s) a).1<1):=by
  rw[ nX];exact(Bool.decide_and _ _).symm
 rw[g,i];by_cases q:0<d/\1000<=ui s (aS (ix s) a).1
 .rw[cU q,aQ q];rfl
 rw[cd q,aK q];by_cases b:d<0/\ui s (aS (ix s) a).1<1
 .rw[cU b,aQ b];rfl
 rw[cd b,aK b];exact ob (CY s _ _ ah) rfl
def Kv{s}(h:qs s)(b:s.2.2.2.2.1.length<=50000)(a:Tx):zk (s,a,())=aa (ctA s a 1):=by
 obtain⟨_,d⟩:=lI s (aS _ a).1 ah;unfold ctA;refine ob (fE s a h) ?_;by_cases c:(aS (ix s) a).2.1=0
 rotate_left
 .rw[ar c,aQ c];rfl
 rw[au c,aK λq=>q c];refine ob d ?_;by_cases q:1000<=ui s (aS (ix s) a).1
 .rw[bz q,aQ ⟨aD,q⟩];rfl
 rw[cG ah,aK λk=>q k.2];exact ob (u7 s _ _ ah) rfl
def Hc{s}(h:qs s)(b:s.2.2.2.2.1.length<=50000)(a:Tx):vP (s,a,())=aa (ctA s a<|-1):=by
 obtain⟨_,d⟩:=lI s (aS _ a).1 ah;unfold ctA;refine ob (fE s a h) ?_;by_cases c:(aS (ix s) a).2.1=0
 rotate_left
 .rw[ar c,aQ c];rfl
 rw[au c,aK λq=>q c];refine ob d ?_;rw[aK λk=>absurd k.1 aD];by_cases q:ui s (aS (ix s) a).1<1
 .rw[aH q,aQ ⟨aD,q⟩];rfl
 rw[aC ah,aK (λk=>q k.2),show ∀n,cA .i64 n 1=aw .i64 n (-1) from λn=>by unfold cA aw;rw[Int.sub_eq_add_neg]];exact ob (u7 s _ _ ah) rfl
def acp(s:aU)(a:Tx):aU×tD×aj :=
 if(aS (yp s) a).2.1≠0 then(s,jq (aS (yp s) a).2.1,()) else
 if ∃x∈s.1,x.2.2.1=(aS (yp s) a).1 then(s,jq 7,()) else
 ((s.1,(Is (·.1) s.2.1 (aS (yp s) a).1,s.2.2)),Er (aS (yp s) a).1,())
def IC{s}(h:qs s)(a:Tx):sY (s,a,())=aa (acp s a):=by
 have k:=h.il;have l:=h.bl;unfold sY acp;rw[ye s a h,ab];by_cases b:(aS (yp s) a).2.1=0
 rotate_left
 .rw[aQ b,ar b];rfl
 rw[aK<|λq=>q b,au b];generalize r:aS _ a=j;rcases eu (f:=nS (s,_) j) s.1 (λi=>((i,()),zA,zS,())) (λ_ y=>decide _) _ _ ah (λi y c d m=>by
  unfold nS;rw[al d,ai,ao c,ab,dq,da,m];by_cases q:y.2.2.1=j.1
  .rw[cU q];rfl
  .rw[cd q,aK aD,aK aD]) (by unfold nS;rw[aq,ag]) with ⟨i,y,c,n,_,g⟩|⟨o,g⟩
 .refine ob g ?_;rw[aQ ⟨y,eG c,fb n⟩];rfl
 .refine ob g ?_;rw[aK (by
   rintro⟨x,p,e⟩;obtain⟨i,d⟩:=bc.1 p;exact xf (o i x d) e)]
  rw[ Wx s _ ah];rfl
def He s (ref:Tx) (h:qs s):qK (s,ref,())=aa (acp s ref):=by
 have n:=h.il;have o:=h.bl;unfold qK acp;dsimp only;rw[BA s ref h,ab];by_cases d:(aS (yp s) ref).2.1=0
 rotate_left
 .rw[aQ d,ar d];rfl
 rw[aK<|λq=>q d,au d];generalize (aS _ ref).1=id;rcases eu (f:=l7 (s,_)) s.1 (λi=>((0,i,()),id,())) (λ_ y=>decide (y.2.2.1=id)) (λi _=>(1,(i,i,()),id,())) _ ah (λi y a b e=>by
  unfold l7;rw[al b,ai,ao a,ab,dq,da,e];by_cases q:y.2.2.1=id<;>simp[q]) (by unfold l7;rw[aq];rfl) with ⟨i,y,a,g,_,c⟩|⟨k,c⟩
 .rw[c,aQ ⟨y,eG a,fb g⟩];rfl
 .rw[c,ab,aK (by
   rintro⟨y,a,l⟩;obtain⟨i,b⟩:=bc.1 a;have:=k i y b;simp[l] at this)]
  rw[ dh ah];rcases eu (f:=l8 (s,_)) s.2.1 (λi=>((0,i,()),(),id,())) (λ_ y=>decide (y.1=id)) (λi _=>(1,(i,i,()),(),id,())) _ ah (λi y a b e=>by
   unfold l8 dN;rw[al b,ai,ao a,ab,ab,dq,da,e];by_cases q:y.1=id<;>simp[q]) (by unfold l8;rw[aq];rfl) with ⟨i,y,a,g,p,c⟩|⟨k,c⟩
  .rw[c,ab,NV _ a (fb g) λj z m r=>xf (p j z m r)];unfold br;rw[DE s.2.1 i (av a) ah];rfl
  .rw[c];rw[ Ai _ λx t l=>by
    obtain⟨i,b⟩:=bc.1 t;have:=k i x b;simp[l] at this]
   rfl
def yf s (id:Tx) (h:qs s):∃b,px (s,id,())=aa (vZ (·.1) s.2.1 PG id,b,()):=by
 unfold px;rcases eu (f:=qL (s,id,())) s.2.1 (λi=>((false,i,()),(([]),_),())) (λ_ y=>decide _) _ _ (by have:=h.il;omega) (λi y a c k=>by
  have g:=eG a;unfold qL;rw[al c,ao a,ab,dq,k];by_cases q:y.1=id
  .rw[cU q,rX _ (h.rZ y g).small,rY _ (by have:=(h.it y g).1;omega)];rfl
  .rw[cd q];rfl) (by unfold qL;rw[aq];rfl) with ⟨i,y,a,l,m,d⟩|⟨n,d⟩
 .rw[d,Al _ a (fb l) λj z e o=>xf (m j z e o)];exact⟨true,rfl⟩
 .rw[d,N5 _ λx p=>by
   obtain⟨i,c⟩:=bc.1 p;exact xf (n i x c)]
  exact⟨false,rfl⟩
def zt s (id:Tx) (h:qs s) (c:∀x∈s.1,vz x.2.2.2.2.2.1):∃b,rM (s,id,())=aa (vZ (·.1) s.1 F4 id,b,()):=by
 have l:=h.bl;unfold rM;rcases eu (f:=sS (s,_)) s.1 (λi=>((0,i,()),id,())) (λ_ y=>decide (y.1=id)) (λi _=>(1,(i,i,()),id,())) _ ah (λi y a d m=>by
  unfold sS;rw[al d,ai,ao a,ab,dq,da,m];by_cases q:y.1=id<;>simp[q]) (by unfold sS;rw[aq,ag]) with ⟨i,y,a,n,o,e⟩|⟨p,e⟩
 .have k:=eG a;rw[e,ab,Al _ a (fb n) λj z g r=>xf (o j z g r)];rw[ ao a,ab,rX _ (h.bn y k).small,rY _ (by have:=(c y k).1;omega)];exact⟨true,rfl⟩
 .rw[e,N5 _ λx t=>by
   obtain⟨i,d⟩:=bc.1 t;exact xf (p i x d)]
  exact⟨false,rfl⟩
def acq(s:aU)(a:Tx):aU×tD×aj :=
 if(aS (Dy s) a).2.1≠0 then(s,jq (aS (Dy s) a).2.1,()) else
 if 0<ui s (YL s (aS (Dy s) a).1)\/Es (Is (·.1) s.1 (aS (Dy s) a).1,s.2) (YL s (aS (Dy s) a).1)=true then(s,jq 7,()) else
 (Ws (Is (·.1) s.1 (aS (Dy s) a).1,s.2)<|YL s (aS (Dy s) a).1,Er (aS (Dy s) a).1,())
def ID{s}(d:qs s)(l:∀x∈s.1,vz x.2.2.2.2.2.1)(p:s.2.2.2.2.1.length<=50000)(a:Tx):sT (s,a,())=aa (acq s a):=by
 have r:=d.bl;have t:=d.il;have u:=d.ll;unfold sT acq;dsimp only;rw[NU s a d,ab];by_cases e:(aS (Dy s) a).2.1=0
 rotate_left
 .rw[aQ e,ar e];rfl
 rw[aK<|λq=>q e,au e,aW,ag];obtain⟨y,c,g⟩:=Q1 e;obtain⟨x,v,rfl⟩:=Tk c;have g:x.1=(aS _ a).1:=g;generalize (aS _ a).1=id at g;obtain⟨b,w⟩:=zt s id d l;rw[w,ab,dh ah,ai];rw[<-Wz];generalize YL s id=h;rcases eu (f:=nP (s,_)) s.1 (λi=>((0,i,()),id,())) (λ_ y=>decide (y.1=id)) (λi _=>(1,(i,i,()),id,())) _ ah (λi y c m A=>by
  unfold nP;dsimp only;rw[al m,ai,aF ah dR,ai,ao c,ab,dq,da,A];by_cases q:y.1=id<;>simp[q]) (by unfold nP;rw[aq,ag]) with ⟨j,y,c,B,C,D⟩|⟨n,_⟩
 rotate_left
 .obtain⟨i,m⟩:=bc.1 v;have:=n i x m;simp[g] at this
 rw[D,ab];dsimp only;rw[show cl 1 0=false from rfl,ag,bz ah,ai];unfold dt;rw[DE s.1 j (av c) ah,<-NV (λz=>z.1) c (fb B) (λi z o E=>xf (C i z o E)),ab,ab];rw[(lI s h ah).1,ab];have F:=u9 (λz=>z.1) s.1 id;by_cases q:0<ui s h
 .rw[aH q,aQ (.inl q)];rfl
 .rw[aC ah,aE,ai,Wo _ _ ym ym ym,ab,ab];cases G:Es _ h with
  | true =>
    rw[aQ<|.inr rfl];rfl
  | false =>
    rw[aK<|by rintro(k|k);exact q k;cases k];exact ob (Ew _ h ym ah) rfl
def IE{s}(h:qs s)(e:s.2.2.2.2.1.length<=50000)(a:Tx):s7 (s,a,())=aa (acq s a):=by
 have f:=h.bl;have g:=h.il;have i:=h.ll;unfold s7 acq;rw[N8 s a h,ab];by_cases c:(aS (Dy s) a).2.1=0
 rotate_left
 .rw[aQ c,ar c];rfl
 rw[aK<|λq=>q c,au c];generalize (aS _ a).1=id;have j:=u9 (λz=>z.1) s.1 id;obtain⟨b,l⟩:=Iz s id ah;rw[l,ab,Wy s id ah,ab];rw[<-Wz,(lI s _ ah).2,ab];generalize YL s id=d;by_cases q:0<ui s d
 .rw[aH q,aQ (.inl q)];rfl
 .rw[aC ah,aE,ai,Ha _ d ym ym ym,ab,ab];cases m:Es _ d with
  | true =>
    rw[aQ<|.inr rfl];rfl
  | false =>
    rw[aK<|by rintro(k|k);exact q k;cases k];exact ob (BF _ d ym ah) rfl
end Go.Ge
