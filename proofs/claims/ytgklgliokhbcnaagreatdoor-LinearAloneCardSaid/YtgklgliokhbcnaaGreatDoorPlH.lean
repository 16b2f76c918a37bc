import Derived.Test.YtgklgliokhbcnaaGreatDoorPlG
set_option linter.unusedSectionVars false
set_option linter.unusedVariables false
set_option linter.unusedSimpArgs false
set_option linter.defProp false
noncomputable section
open Option renaming some->aa,none->af
open Sum renaming inl->aA
open Go.IntKind (i64)
namespace Go.Ge
variable [Lp]
def ahE{a:Type}(A B:List a) x y:(A++x::B).set A.length y=A++y::B:=by
 simp
def afp:∀k (A M B:List cO),M.length<=k->A.length+M.length+B.length<=1000000 ->
  ∃q,Loop fL (((A.length:Int),(A.length:Int)+(M.length:Int)-1,(),()),A++M++B,())=aa (q,A++M.reverse++B,()):=by
 intro k;induction k with
 | zero =>
   intro A M B d e;obtain rfl:M=[]:=yG.1 ag;apply Exists.intro;rw[aO,show fL _=aa _ from by
    unfold fL;dsimp only;rw[aC ag];rfl]
   rfl
 | succ k f =>
   intro A M B d e;by_cases c:M.length<=1
   .have g:M.reverse=M:=by
     match M,c with
     | [],_=>rfl
     | [a],_=>rfl
    rw[g];apply Exists.intro;rw[aO,show fL _=aa _ from by
     unfold fL;dsimp only;rw[aC ag];rfl]
    rfl
   .obtain⟨x,N,y,rfl⟩:∃x N y,M=x::(N++[y]):=by
     cases M with
     | nil=>simp at c
     | cons x t =>
       exact⟨x,t.dropLast,t.getLast (by rintro rfl;simp at c),by rw[ahY]⟩
    have h:A.length+((x::(N++[y])).length:Int)-1=((A.length+N.length+1:Nat):Int):=cJ;rw[h];obtain⟨q,i⟩:=f (A++[y]) N (x::B) ag cJ;refine⟨q,?_⟩;have j:A++x::(N++[y])++B=A++x::(N++y::B):=aS;have l:(A++x::(N++y::B)).length=A.length+N.length+B.length+2:=cJ;have m:(A++x::(N++y::B))[A.length]?=aa x:=aS;have n:(A++x::(N++y::B))[A.length+N.length+1]?=aa y:=by
     rw[acS ag,show A.length+N.length+1-A.length=N.length+1 by omega,ah5];simp
    have o:(A++y::(N++y::B))[A.length+N.length+1]?=aa y:=by
     rw[acS ag,show A.length+N.length+1-A.length=N.length+1 by omega];simp
    have s2:(A++y::(N++y::B)).set (A.length+N.length+1) x=(A++[y])++N++(x::B):=by
     rw[ show A.length+N.length+1=(A++y::N).length by simp;omega];simp
    have b:fL ((A.length,((A.length+N.length+1:Nat):Int),(),()),(A++x::(N++y::B),())) =
      aa (.inl ((((A++[y]).length:Int),((A++[y]).length:Int)+N.length-1,(),()),(A++[y])++N++(x::B),())):=by
     unfold fL;dsimp only;rw[aT ag,aE ag ef,ai,ao n,ab,aE ag ef,ao m,ab,
      zJ,(ahE A _ x y),aE ag (by unfold len;simp;omega),ao o,zJ,s2,az ag,dv ag ag]
     rw[show _-1=((A++[y]).length:Int)+N.length-1 by simp;omega,show((A.length+1:Nat):Int)=((A++[y]).length:Int) by simp];rfl
    rw[j,aO,b];show Loop _ _=_
    rw[i];simp
def NL(s:aW)(id:Tx)(d:s.2.2.1.length<=100000)(b:∀x∈s.2.2.1,x.2.2.1.length<=4294967296):ma (s,id,())=aa ((mN s.2.2.1 s.2.2.2.1 id).1,(mN s.2.2.1 s.2.2.2.1 id).2,()):=by
 unfold mN;obtain⟨p,r,t,h⟩:=Jw s.2.2.1 id ag b 16 id [] rfl;refine ob h ?_;unfold dB;by_cases c:(Kl s.2.2.1 16 id []).2=0
 rotate_left
 .rw[aJ c,aJ c];rw[show cK 0 0=true from rfl,ai,ar c,aI,ai]
 rw[aN c,aN c];have Hb:(Kl s.2.2.1 16 id []).1.length<=16:=(QO).2;generalize (Kl s.2.2.1 16 id []).1=L at Hb⊢;rw[show cK 1 0=false from rfl,ah];obtain⟨q,e⟩:=afp L.length [] L [] (bX _) cJ;rw[show cH i64 _ 1=(([]:List cO).length:Int)+(L.length:Int)-1 from by rw[dv ef ef];unfold len;simp];refine ob (by simpa using e) ?_;have g:=hM (f:=qC (s,id,()) (q,L.reverse,())) L.reverse (λk i=>(((),i,()),k,())) (λx=>[ND s.2.2.1 s.2.2.2.1 x.1]) _ (by rw[PI];omega)
  (λi x l m a=>by
   unfold qC;dsimp only;have n:((L.reverse.take i).flatMap λx=>[ND s.2.2.1 s.2.2.2.1 x.1]).length<=16:=by
    rw[<-List.map_eq_flatMap,yJ,dk,PI];omega
   have hd:(tU s x.1).2.1=ND s.2.2.1 s.2.2.2.1 x.1:=by
    unfold tU ND;cases h:E6 s.2.2.1 x.1 with
    | none=>rfl
    | some j =>
      obtain⟨z,o,_⟩:=A3 h;dsimp only;rw[o]
   rw[al m,ao l];refine(congrArg cl<|ob (CL s x.1 d b) rfl).trans ?_;rw[hd,aH (by simp only[Ra];omega),a];rfl)
  (by
   unfold qC;rw[aq];rfl)
 refine ob g ?_;rw[show _=L.reverse.map _ from(List.map_eq_flatMap).symm];refine ob (ahv _<|by rw[yJ,PI];omega) ?_;rfl
def Dv{s}(h:qf s):Small (Dp s):=Dj 1 _ h.ajs
def La{s}(h:qf s):(Dp s).length<=60:=gi (lM KY _) h.bl
def Bp s (h:qf s):nc (s,())=aa (Dp s,()):=by
 unfold nc;rw[wu 1 _ h.ajs];rfl
def NM s (ref:Tx) (h:qf s):wc (s,ref,())=aa (aR (Dp s) ref):=by
 unfold wc;rw[Bp s h,ab,mM _ _ (Dv h) (by have:=La h;omega),ab]
def Ef(s:aW)(x:AL)(k:s.1.length<=1000000)(v:x.2.1.length<=4294967296)(g:x.2.2.2.2.2.1.length<=4294967296)(c:∀y∈s.1,y.1≠x.1) :
  j9 (s,x,())=aa ((pL (·.1) s.1 x,s.2),()):=by
 obtain⟨b,d⟩:=s;obtain⟨a,l,m,n,o,p,u⟩:=x;dsimp only at k v g c;unfold j9;dsimp only;rw[cY ag,ai];rcases GY (f:=iU ((b,d),_)) b (λy=>decide (y.1=a)) (λq=>(q,a,())) k (λi y h g=>by
  unfold iU;dsimp only;rw[al g,ai,aE ag ef,ai,ao h,ab,dt,dw];by_cases q:y.1=a<;>simp[q]) (by unfold iU;rw[aq,ah]) with ⟨i,y,h,z,_⟩|⟨_,r⟩
 .exact absurd (fU z) (c y<|dW h)
 rw[r,ab];rw[cV,ai,rL _ v,ab,rM _ g,ab];have j:=mm (f:=sC ((b,d),(a,l,m,n,o,p,u),())) _ b a k (λi=>((0,i,()),(a,l,m,n,o,p,u),())) _
  _ (λi y h=>by
   have g:=av h;unfold sC;dsimp only;rw[al g,aE ag ef,ao h,ab,az ag];cases fM y.1 a<;>rfl) (by unfold sC;rw[aq,ah])
 rw[j,ab];have e:=tT (·.1) b ((a,l,m,n,o,p,u):AL) k;unfold cc;by_cases w:di (λy=>y.1) b a<b.length
 .rw[aN w];dsimp only;rw[show cK 1 0=false from rfl,ah,aC ag,ah];rw[show tE b _ [((a,_):AL)]=_ from e,ab]
 .rw[aJ w];have t:di (λy=>y.1) b a=b.length:=by have:=lF (λy=>y.1) b a;omega
  rw[cV,ai];rw[bw,<-t,show tE b _ [((a,_):AL)]=_ from e,ab]
def Bq(s:aW)(id:Tx):Tx:=((s.2.1.find?<|λx=>decide (x.1=id)).map λx:lC=>x.2.2.1).getD []
def E9(s:aW)(a:Tx):Tx:=if a=[] then [] else(aR (x7 s) a).1
def We(d:Int):Int:=gP i64 d 16777215
def Eg(d:Int):Int:=gP i64 (jv i64 d 24) 16777215
def crB(s:aW)(a:Tx)(b:List Tx)(c:Tx)(d:Int):aW×nR×aj :=
 if eT b≠0\/64<c.length then(s,js 1,()) else
 if a≠[]/\(aR (x7 s) a).2.1≠0 then(s,js (aR (x7 s) a).2.1,()) else
 if pD (Dp s) [] b≠0 then(s,js<|pD (Dp s) [] b,()) else
 if(dE (Dp s)<|We d).2.1≠0 then(s,js (dE (Dp s)<|We d).2.1,()) else
 if(crG s (if a=[] then [] else Bq s (E9 s a)) []<|Eg d).2.1.1≠0 then(s,js (crG s (if a=[] then [] else Bq s (E9 s a)) []<|Eg d).2.1.1,()) else
 ((pL (·.1) s.1 ((dE (Dp s)<|We d).1,b,E9 s a,(crG s (if a=[] then [] else Bq s (E9 s a)) []<|Eg d).2.1.2.1,c,[],()),(crG s (if a=[] then [] else Bq s (E9 s a)) []<|Eg d).1.2),
  (0,(dE (Dp s)<|We d).1,0,(crG s (if a=[] then [] else Bq s (E9 s a)) []<|Eg d).2.1.2.1,()),())
def QW s on given d:(crG s on given d).1.1=s.1:=by
 unfold crG;split
 .rfl
 split
 .rfl
 split
 .rfl
 split
 .rfl
 split
 .rfl
 rfl
def Z7{s x}(a:x∈s.1):((x.1,x.2.1,()):Nm)∈Dp s:=by
 unfold Dp;rw[Rf];exact⟨x,a,by exact DD.2 rfl⟩
def S6{s y}(h:y∈Dp s):∃x∈s.1,y=(x.1,x.2.1,()):=by
 unfold Dp at h;rw[Rf] at h;obtain⟨x,b,a⟩:=h;unfold ofB at a
 grind
def Z8(s:aW)(b:Tx)(a:List Tx)(d:Int):crS s b a [] d=crG s b a d:=by
 have c:NK []=WI 1024:=aN rfl;have e:∀id p,Wd id p a []=aju id p a:=λid p=>by unfold Wd aju;rw[c,E1];rfl
 unfold crS crG;rw[c,e,aJ (λk=>k.1 rfl:¬(([]:Tx)≠[]/\¬CJ [])),aJ (λk=>k.1 rfl:¬(([]:Tx)≠[]/\(Bn s<|jB s b).2≠0)),aJ (λk=>k.1 rfl:¬(([]:Tx)≠[]/\(mj (Bn s<|jB s b).1 []).2≠0))]
def Kn(s:aW)(a:Tx)(d:Int)(h:qf s):jM (s,a,[],[],d,())=aa (crG s a [] d):=by
 rw[Bo s a [] [] d h aS aS<|λp=>NL s p (by have:=h.ll;omega) λx b=>(h.ln x b).small,Z8]
def Ik{a:Type}(b:a->Tx)(l:List a)(p:Tx):List a:=match l.findIdx? λx=>decide (b x=p) with|some i=>cutAt l i|none=>l
def NN{α}(a:α->Tx){l p i x}(c:l[i]?=aa x)(d:a x=p)(e:∀j y,j<i->l[j]?=aa y->a y≠p):Ik a l p=cutAt l i:=by
 have h:l.findIdx? (λx=>decide (a x=p))=aa i:=by
  rw[WK];obtain⟨f,rfl⟩:=hR.1 c;exact⟨f,dn d,λj b=>by simpa using e j _ b (fX ag)⟩
 unfold Ik;rw[h]
def zY{α}(a:α->Tx){l p}(h:∀x∈l,a x≠p):Ik a l p=l:=by
 unfold Ik;rw[YS.2 λx b=>by simpa using h x b]
def S7(s:aW)(x:AL)(A:s.1.length<=1000000)(o:x.2.1.length<=4294967296)(d:x.2.2.2.2.2.1.length<=4294967296)(e:∃y∈s.1,y.1=x.1) :
  j9 (s,x,())=aa ((pL (·.1) (Ik (·.1) s.1 x.1) x,s.2),()):=by
 obtain⟨b,h⟩:=s;obtain⟨a,p,r,t,v,w,u⟩:=x;dsimp only at A o d e;unfold j9;dsimp only;rw[cY ag,ai];rcases eL (f:=iU ((b,h),_)) b (λi=>((0,i,()),a,())) (λ_ y=>decide (y.1=a)) (λi _=>(1,(i,i,()),a,())) _ ag (λi y c d B=>by
  unfold iU;dsimp only;rw[al d,ai,aE ag ef,ai,ao c,ab,dt,dw,B];by_cases q:y.1=a<;>simp[q]) (by unfold iU;rw[aq,ah]) with ⟨i,y,c,C,D,E⟩|⟨l,_⟩
 rotate_left
 .obtain⟨y,c,F⟩:=e;obtain⟨i,d⟩:=bq.1 c;have:=l i y d;simp[F] at this
 rw[NN _ c (fU C) λj y m c=>wM (D j y m c)];rw[E,ab];dsimp only;rw[show cK 1 0=false from rfl,ah,bA ag,ai];unfold du;rw[Ds b i (av c) ag,ab,ab,rL _ o,ab,rM _ d,ab];have G:=zX b i;have k:=mm (f:=sD (((),()),cutAt b i,())) _ (cutAt b i) a ag (λi=>((0,i,()),(a,p,r,t,v,w,u),())) _
  _ (λi y c=>by
   have d:=av c;unfold sD;dsimp only;rw[al d,aE ag ef,ao c,ab,az ag];cases fM y.1 a<;>rfl) (by unfold sD;rw[aq,ah])
 rw[k,ab];have g:=tT (·.1) (cutAt b i) ((a,p,r,t,v,w,u):AL) ag;unfold cc;by_cases z:di (λy=>y.1) (cutAt b i) a<(cutAt b i).length
 .rw[aN z];dsimp only;rw[show cK 1 0=false from rfl,ah,aC ag,ah];rw[show tE _ _ [((a,_):AL)]=_ from g,ab]
 .rw[aJ z];have n:di (λy=>y.1) (cutAt b i) a=(cutAt b i).length:=by have:=lF (λy=>y.1) (cutAt b i) a;omega
  rw[cV,ai];rw[bw,<-n,show tE _ _ [((a,_):AL)]=_ from g,ab]
def Pu(s:aW)(x:lC)(E:s.2.1.length<=1000000)(B:x.2.1.length<=4294967296)(d:x.2.2.2.2.1.length<=4294967296)(e:∃y∈s.2.1,y.1=x.1) :
  gp (s,x,())=aa ((s.1,(pL (·.1) (Ik (·.1) s.2.1 x.1) x,s.2.2)),()):=by
 obtain⟨C,b,g⟩:=s;obtain⟨a,n,o,p,r,u⟩:=x;dsimp only at E B d e;unfold gp;dsimp only;rw[rL _ B,ab,rM _ d,ab];unfold dO;rw[ab,cY ag,ai];have l:∃(i:Nat) (y:lC),b[i]?=aa y/\y.1=a/\(∀j y,j<i->b[j]?=aa y->y.1≠a)/\Loop (eO ((C,b,g),(a,n,o,p,r,u),())) ((0,0,()),(),a,())=aa (1,((i:Int),(i:Int),()),(),a,()):=by
  rcases eL (f:=eO ((C,b,g),_)) b (λi=>((0,i,()),(),a,())) (λ_ y=>decide (y.1=a)) (λi _=>(1,(i,i,()),(),a,())) _ ag (λi y c d F=>by
   unfold eO dO;rw[al d,ai,ao c,ab,ab,dt,dw,F];by_cases q:y.1=a<;>simp[q]) (by unfold eO;rw[aq];rfl) with ⟨i,y,c,G,t,h⟩|⟨v,_⟩
  .exact⟨i,y,c,fU G,λj y w c=>wM (t j y w c),h⟩
  .obtain⟨y,c,z⟩:=e;obtain⟨i,d⟩:=bq.1 c;have:=v i y d;simp[z] at this
 obtain⟨i,y,c,z,t,H⟩:=l;rw[NN _ c z t];rw[H,ab];dsimp only;rw[show cK 1 0=false from rfl,ah,bA ag,ai];unfold bp;rw[Ds b i (av c) ag,ab,ab];have I:=zX b i;have m:=mm (f:=qw (((),()),cutAt b i,())) _ (cutAt b i) a ag (λi=>((0,i,()),(),(a,n,o,p,r,u),())) _
  _ (λi y c=>by
   have d:=av c;unfold qw dO;dsimp only;rw[al d,aE ag ef,ao c,ab,ab,ab,az ag];cases fM y.1 a<;>rfl) (by unfold qw;rw[aq,ah])
 rw[m,ab];have k:=tT (·.1) (cutAt b i) ((a,n,o,p,r,u):lC) ag;unfold bQ;by_cases D:di (λy=>y.1) (cutAt b i) a<(cutAt b i).length
 .rw[aN D];dsimp only;rw[show cK 1 0=false from rfl,ah,aC ag,ah];rw[show tE _ _ [((a,_):lC)]=_ from k,ab]
 .rw[aJ D];have A:di (λy=>y.1) (cutAt b i) a=(cutAt b i).length:=by have:=lF (λy=>y.1) (cutAt b i) a;omega
  rw[cV,ai,aT aD,ai];rw[bw,<-A,show tE _ _ [((a,_):lC)]=_ from k,ab]
def Eh(s:aW)(x:AL)(b:s.1.length<=1000000)(c:x.2.1.length<=4294967296)(d:x.2.2.2.2.2.1.length<=4294967296):j9 (s,x,())=aa ((pL (·.1) (Ik (·.1) s.1 x.1) x,s.2),()):=by
 by_cases h:∃y∈s.1,y.1=x.1
 .exact S7 s x b c d h
 .have a:=λy f e=>h ⟨y,f,e⟩;rw[Ef s x b c d a,zY _ a]
def CN(s:aW)(x:lC)(b:s.2.1.length<=1000000)(c:x.2.1.length<=4294967296)(d:x.2.2.2.2.1.length<=4294967296):gp (s,x,())=aa ((s.1,(pL (·.1) (Ik (·.1) s.2.1 x.1) x,s.2.2)),()):=by
 by_cases h:∃y∈s.2.1,y.1=x.1
 .exact Pu s x b c d h
 .have a:=λy f e=>h ⟨y,f,e⟩;rw[CK s x b c d a,zY _ a]
def Wf(s:aW)(id:Tx):aW:=match E6 s.2.2.1 id with
 | none=>S5 (s.1,s.2.1,s.2.2.1,xQ s.2.2.1.length s.2.2.2.1,s.2.2.2.2) id 0
 | some i=>S5 (s.1,s.2.1,cutAt s.2.2.1 i,cutAt (xQ s.2.2.1.length s.2.2.2.1) i,s.2.2.2.2) id 0
def Ei(s:aW)(id:Tx)(d:s.2.2.1.length<=100000)(a:s.2.2.2.2.1.length<=50000):jN (s,id,())=aa (Wf s id,()):=by
 unfold jN Wf;rw[ixL s.2.2.1 id ag<|λc i=>rfl,ab,Ij s ag,ab];unfold DO;cases h:E6 s.2.2.1 id with
 | none =>
   unfold ic fP;dsimp only;rw[aT ag,ai,ab,ai,ab];exact ob (CM _ id 0 a) rfl
 | some i =>
   obtain⟨x,b,_⟩:=A3 h;have hi:=av b;have e:=qg s.2.2.1.length s.2.2.2.1;unfold ic fP gx eI;dsimp only;rw[aC ag,ah,ah,cY ag,ai,Ds _ i ag ag,ab,ab,cY ag,ai,Ds _ i ag ag,ab,ab];exact ob (CM _ id 0 a) rfl
def tV(s:aW)(id:Tx):Int:=match(dh (s,id,())) with|some (n,_)=>n|none=>0
def afq(s:aW)(id:Tx)(b:s.2.2.2.2.1.length<=1000000):dh (s,id,())=aa (tV s id,())/\((∃x∈s.2.2.2.2.1,x.1=id/\x.2.1=tV s id)\/(tV s id=0/\∀x∈s.2.2.2.2.1,x.1≠id)):=by
 obtain⟨n,a,c⟩:=YA s id b;have e:tV s id=n:=by unfold tV;rw[a]
 rw[e];exact⟨a,c⟩
def dlS(s:aW)(a:Tx):aW×nR×aj :=
 if(aR (iA s) a).2.1≠0 then(s,js (aR (iA s) a).2.1,()) else
 if Ee s (aR (iA s) a).1=true\/0<tV s (aR (iA s) a).1 then(s,js 7,()) else
 (Wf s (aR (iA s) a).1,Ed (aR (iA s) a).1,())
def G0 s (ref:Tx) (h:qf s) (a:s.2.2.2.2.1.length<=50000):vq (s,ref,())=aa (dlS s ref):=by
 have b:=h.ll;have d:=h.il;have e:=h.bl;unfold dlS;refine ob (jQ s ref h) ?_;by_cases c:(aR (iA s) ref).2.1=0
 rotate_left
 .rw[ar c,aN c];rfl
 rw[au c,aJ λq=>q c];refine ob (Wb s _ ag ag ag) ?_;obtain⟨f,_⟩:=afq s (aR _ ref).1 ag;cases g:Ee s (aR _ ref).1 with
 | true =>
   rfl
 | false =>
   refine ob (ob f rfl) ?_;by_cases q:0<tV s (aR (iA s) ref).1
   .rw[aT q,aN (.inr q)];rfl
   .rw[aC ag,aJ (by rintro(k|k);cases k;exact q k)];exact ob (Ei s _ ag a) rfl
def dfA(s:aW)(a:Tx):nR :=
 if(aR (iA s) a).2.1≠0 then js (aR (iA s) a).2.1 else(0,(aR (iA s) a).1,0,(tU s (aR (iA s) a).1).2.1,())
def YD(s:aW)(id:Tx):Tx:=((s.1.find?<|λx=>decide (x.1=id)).map λx:AL=>x.2.2.2.1).getD []
abbrev Dl:=Int×bg×aj
def Dw:List Nd->List Nd->List Dl
 | [],[]=>[]
 | x::a,[]=>(3,x.1,())::Dw a []
 | [],y::b=>(1,y.1,())::Dw [] b
 | x::a,y::b =>
   if cmpL (key x) (key y)<0 then(3,x.1,())::Dw a (y::b)
   else if 0<cmpL (key x) (key y) then(1,y.1,())::Dw (x::a) b
   else(if x=y then [] else [(2,x.1,())])++Dw a b
 termination_by a b=>a.length+b.length
def ahF:∀n a b,a.length+b.length<=n->(Dw a b).length<=a.length+b.length:=by
 intro n;induction n with
 | zero =>
   intro a b h;obtain rfl:=yG.1 (show a.length=0 by omega);obtain rfl:=yG.1 (show b.length=0 by omega);simp[Dw]
 | succ n c =>
   intro a b h;cases a with
   | nil =>
     cases b with
     | nil=>simp[Dw]
     | cons y b =>
       rw[Dw]
       grind
   | cons x a =>
     cases b with
     | nil =>
       rw[Dw]
       grind
     | cons y b =>
       rw[Dw]
       grind
def G1{α}(x:α) r:sub (x::r) 1 (minus (len (x::r)) 1)=r:=jc _ 1 aS
def CO(a b:List Nd):Int:=match a,b with
 | [],_=>1
 | _::_,[]=>-1
 | x::_,y::_=>cmpL (key x) (key y)
def afr a b (d:vI a) (e:vI b) :
  (ae (ak (aG (len a) 0) (aa ((1,()),()))<|ae (ak (aG (len b) 0) (aa (((-1:Int),()),()))<|ae (idx a 0) λc=>ae (idx b 0) λf=>ae (gR (c.1,f.1,())) λg=>aa ((g.1,()),())) λc=>aa ((c.1.1,()),())) λy=>aa y)=aa ((CO a b,()),()):=by
 cases a with
 | nil=>rfl
 | cons x a =>
   cases b with
   | nil=>rfl
   | cons y b =>
     rw[ show idx _ 0=aa x from rfl,show idx _ 0=aa y from rfl,ab,ab,Cp _ _ (by have:=(d.2 x aS).1;omega) (by have:=(e.2 y aS).1;omega)];rfl
def NO(a b:List Nd):List Dl:=match a,b with
 | x::_,y::_=>if x=y then [] else [(2,x.1,())]
 | _,_=>[]
def ab5 a b:(NO a b).length<=1:=by
 unfold NO
 grind
def S8 a b (acc:List Dl) (k:vI a) (l:vI b) (g:a≠[]\/b≠[]) (i:∀c:Dl,fits (plus (len acc)<|len [c])=true) :
  lW ((a,b,()),(),(),acc,())=aa (.inl<|
   if CO a b<0 then((a.drop 1,b,()),(),(),acc++(a.take 1).map (λx=>(3,x.1,())),())
   else if 0<CO a b then((a,b.drop 1,()),(),(),acc++(b.take 1).map (λy=>(1,y.1,())),())
   else((a.drop 1,b.drop 1,()),(),(),acc++NO a b,())):=by
 have m:ak (nt<|aU 0<|len a) (aU 0<|len b) true=true:=by
  rw[GA,GA];cases a with
  | cons x a=>simp[ak,nt]
  | nil =>
    cases b with
    | cons y b=>simp[ak]
    | nil=>simp at g
 have j:=afr a b k l;have n:∀o:Option ((Int×aj)×aj),ae o (aa)=o:=λo=>by cases o<;>rfl
 rw[n] at j;unfold lW;rw[m,j,ab];dsimp only;have d:∀{x:Nd} {r},inside 1 (len (x::r)) _=true:=λ{x r}=>aL ag (by unfold len;simp;omega) (tc _);by_cases f:CO a b<0
 .rw[aN f,aT f,bA ag,cR f];cases a with
  | nil=>simp[CO] at f
  | cons x a =>
    rw[show idx _ 0=aa x from rfl,ab,i,d,G1];rfl
 .rw[aJ f,aC ag,ah];by_cases h:0<CO a b
  .rw[aN h,aT h,cR ag,bA ag];cases b with
   | nil=>cases a<;>simp[CO] at h g
   | cons y b =>
     rw[show idx _ 0=aa y from rfl,ab,i,d,G1];rfl
  .rw[aJ h,aC ag,ah,bA ag,bA ag];cases a with
   | nil=>simp[CO] at h
   | cons x a =>
     cases b with
     | nil=>simp[CO] at f
     | cons y b =>
       have p:an (br x.1 y.1) (an (aG x.2.1 y.2.1)<|an (aG x.2.2.1 y.2.2.1)<|an (br x.2.2.2.1 y.2.2.2.1)<|an (br x.2.2.2.2.1 y.2.2.2.2.1) true)=decide (x=y):=by
        unfold an br aG
        grind
       rw[show idx _ 0=aa x from rfl,show idx _ 0=aa y from rfl,ab,ab,p,i,d,d,G1,G1];by_cases e:x=y
       .rw[dn e];unfold NO;dsimp only;rw[aN e,vl];rfl
       .rw[cm e];unfold NO;dsimp only;rw[aJ e];rfl
def afs a b (c:a≠[]\/b≠[]):Dw a b =
  if CO a b<0 then(a.take 1).map (λx=>((3,x.1,()):Dl))++Dw (a.drop 1) b
  else if 0<CO a b then(b.take 1).map (λy=>((1,y.1,()):Dl))++Dw a (b.drop 1)
  else NO a b++Dw (a.drop 1) (b.drop 1):=by
 cases a with
 | nil =>
   cases b with
   | nil=>simp at c
   | cons y b=>rw[Dw];rfl
 | cons x a =>
   cases b with
   | nil=>rw[Dw];rfl
   | cons y b =>
     rw[Dw];show _=if cmpL _ _<0 then _ else if 0<cmpL _ _ then _ else _
     split
     .rfl
     .split
      .rfl
      .rfl
def vI.drop{l}(h:vI l) k:vI (l.drop k):=⟨by rw[qU];have:=h.1;omega,λx a=>h.2 x (PH a)⟩
def S9:∀n a b (acc:List Dl),a.length+b.length<=n->vI a->vI b->acc.length+a.length+b.length<=100000 ->
  ∃s,Loop lW ((a,b,()),(),(),acc,())=aa (s,(),(),acc++Dw a b,()):=by
 intro n;induction n with
 | zero =>
   intro a b acc h _ _ _;obtain rfl:=yG.1 (show a.length=0 by omega);obtain rfl:=yG.1 (show b.length=0 by omega);refine⟨([],[],()),?_⟩;rw[aO,Dw,vl];rfl
 | succ n m =>
   intro a b acc h k l o;by_cases f:a≠[]\/b≠[]
   .have r:=S8 a b acc k l f (λc=>aH cJ);rw[aO,afs a b f];have g:a≠[]->(a.drop 1).length=a.length-1/\0<a.length:=λh=>⟨aS,TH.2 h⟩;have i:b≠[]->(b.drop 1).length=b.length-1/\0<b.length:=λh=>⟨aS,TH.2 h⟩;by_cases p:CO a b<0
    .have d:a≠[]:=λe=>by subst e;simp[CO] at p
     have:=g d;obtain⟨s,hs⟩:=m _ b (acc++(a.take 1).map λx=>(3,x.1,())) ag (k.drop 1) l (by simp at this⊢;omega)
     grind
    .by_cases q:0<CO a b
     .have j:b≠[]:=λe=>by subst e;cases a<;>simp[CO] at q f
      have:=i j;obtain⟨s,hs⟩:=m a _ (acc++(b.take 1).map λy=>(1,y.1,())) ag k (l.drop 1) (by simp at this⊢;omega)
      grind
     .have d:a≠[]:=λe=>by subst e;simp[CO] at q
      have t:=g d;have u:=i (λe=>by subst e;cases a<;>simp[CO] at p d);obtain⟨s,hs⟩:=m _ _ (acc++NO a b) ag (k.drop 1) (l.drop 1) (by
       have:=ab5 a b;rw[jt];omega)
      grind
   .grind
open Classical in
def Pv(a b:List Nd):List Dl×Int:=if Valid a/\Valid b then(Dw a b,0) else([],1)
def Wg a b (c:vI a) (d:vI b):qm (a,b,())=aa ((Pv a b).1,(Pv a b).2,()):=by
 obtain⟨e,l,i⟩:=mh a c;obtain⟨f,m,j⟩:=mh b d;unfold qm;rw[l,m];simp only[ab];by_cases hv:Valid a/\Valid b
 .obtain rfl:=i.2 hv.1;obtain rfl:=j.2 hv.2;have h:=c.1;have g:=d.1;obtain⟨s,hs⟩:=S9 _ a b [] (bX _) c d cJ;rw[show ak _ _ _=aa false from rfl,ab,ah,hs,ab];unfold Pv;rw[aN hv,JJ]
 .have n:(ak (nt<|nt<|aG e 0) (aa<|nt<|aG f 0) (aa true):Option Bool)=aa true:=by
   by_cases k:e=0
   .by_cases g:f=0
    .exact absurd ⟨i.1 k,j.1 g⟩ hv
    .rw[show aG f 0=false by simp[aG,g]];cases nt _<;>rfl
   .rw[show aG e 0=false by simp[aG,k]];rfl
  rw[n,ab,ai];unfold Pv;rw[aJ hv]
def DP(l:List Dl)(c:Dl):List Dl:=l.takeWhile (λx=>decide (cmpL (parts x.2.1) (parts c.2.1)<0))++c::l.dropWhile (λx=>decide (cmpL (parts x.2.1) (parts c.2.1)<0))
def SmC(l:List Dl):Prop:=l.length<=100000/\∀x∈l,x.2.1.length<=4096
def NP l (c:Dl) (m:SmC l) (o:c.2.1.length<=4096):ry (l,c,())=aa (DP l c,()):=by
 have z:=m.1;have key:∃k,k<=l.length/\Loop (om (l,c,())) ((0,()),())=aa (((k:Int),()),())/\DP l c=l.take k++[c]++l.drop k:=by
  rcases eL (f:=om (l,c,())) l (λi=>((i,()),())) (λ_ x=>!decide _) _ _ ag (λi x b p q=>by
   unfold om;dsimp only;rw[al p,ao b,ab,xD _ _ (m.2 x<|dW b) o,ab,q];unfold aU;cases decide (cmpL _ _<0)<;>rfl) (by
   unfold om;rw[aq];rfl) with ⟨i,x,b,r,s,h⟩|⟨hn,h⟩
  .refine⟨i,by have:=av b;omega,h,?_⟩;obtain⟨e,g⟩:=takeWhile_eq (l:=l) (k:=i) (P:=λx=>decide _) (by have:=av b;omega) (λj y d a=>by
    have:=s j y d a;simpa using this) (λy a=>by
    rw[b] at a;obtain rfl:=aF a;simpa using r)
   unfold DP;rw[e,g];simp
  .refine⟨l.length,bX _,h,?_⟩;obtain⟨e,g⟩:=takeWhile_eq (P:=λx=>decide _) (bX _) (λj y d a=>by
    have:=hn j y a;simpa using this) (λy a=>by
    have:=av a;omega)
   unfold DP;rw[e,g];simp
 obtain⟨k,n,t,u⟩:=key;unfold ry;rw[t,ab];have v:inside 0 k _=true:=jd (pF _) n;have w:inside k (len l) _=true:=aL ag ef (tc _);rw[v,fV,jc l k n,w];rw[(aH cJ),(aH<|by rw[gX];simp;omega),(aH<|by rw[gX,gX];simp;omega),u];rfl
def Ej(k:Int):bg:=if 1<=k/\k<=3 then(if k=1 then [43] else if k=2 then [126] else [45]) else [63]
def vj(c:Dl):bg:=Ej c.1++[32]++ve c.2.1++[10]
def Il k:(Ej k).length=1:=by
 unfold Ej
 grind
def Im c:(vj c).length=2*c.2.1.length+3:=by
 unfold vj;simp only[jt,Il,ke,iE,pM];omega
def Dx{a b:Type}(g:a->List b) k:∀l:List a,(∀x∈l,(g x).length<=k)->(l.flatMap g).length<=l.length*k:=by
 intro l;induction l with
 | nil=>simp
 | cons x r c =>
   intro h;have e:=h x aS;have f:=c λy d=>h y (by simp[d]);simp only[ac3,jt,iE,iF];omega
def Wh{k}(a:1<=k)(b:k<=3):idx ([[],[43],[126],[45]]:List bg) k=aa (Ej k):=by
 have:k=1\/k=2\/k=3:=ag;rcases this with rfl|rfl|rfl<;>rfl
def ab6(l:List Dl)(q:l.length<=4096)(j:∀c∈l,c.2.1.length<=4096):vW (l,())=aa (l.flatMap vj,()):=by
 unfold vW;have key:=hM (f:=mz (l,())) l (λh i=>((i,()),((),_),h,())) _ _ ag (λi x k n a=>by
  have b:((l.take i).flatMap λc=>ax (vj c)).length<=(l.take i).length*8200:=Dx _ _ _ λc o=>by
   have:=j c (DC o);rw[SV,Im];omega
  rw[dk] at b;have W9:=j x (dW k);have p:=Im x;have fin:∀s,s=Ej x.1->(ak (fits<|plus _<|len ([32]:bg)) (ae (lU (x.2.1,())) λd=>ak (fits<|plus (@len UInt8<|@app UInt8 s<|[32])<|@len UInt8 d.1)
   (ak (fits<|plus (@len UInt8<|@app UInt8 (@app UInt8 s ([(32:UInt8)]:bg)) d.1)<|@len UInt8<|[10])
   (ak (fits<|plus (@len Int<|(l.take i).flatMap λc=>ax (vj c))<|@len Int<|ax<|@app UInt8 (@app UInt8 (@app UInt8 s _) d.1) _)
   (aa (aA (((((i+1:Nat):Int)),()),((),(),()),@app Int ((l.take i).flatMap λc=>ax (vj c))<|ax<|@app UInt8 (@app UInt8 (@app UInt8 s _) d.1) _,()):_⊕((Nat×(Int×aj)×(aj×aj×aj)×(List<|Int)×aj))))
   af) af) af) af)=aa _:=λs e=>by
   subst e;have g:=Il x.1;rw[aH cJ,SI _ ag,ab];rw[aH<|by rw[gX,ke];simp;omega,aH (by rw[gX,gX,jt,ke];simp;omega)];rw[show app (app (app _ [32]) _) [10]=vj x from rfl,aH (by rw[SV];omega)];rfl
  unfold mz;rw[al n,ai,ao k,ab,a];by_cases g:1<=x.1
  .by_cases m:x.1<=3
   .rw[bA g,bA m,ai,ai,aE ag ag,ai,Wh g m,ab,ab];rw[fin _ rfl];rfl
   .rw[bA g,cR ag,ai,ah,ab];rw[fin _<|by unfold Ej;rw[aJ ag]];rfl
  .rw[cR ag,ah,ah,ab];rw[fin _<|by unfold Ej;rw[aJ ag]];rfl) (by
  unfold mz;rw[aq];rfl)
 rw[show Loop (mz _) _=_ from key,ab];have:l.flatMap (λc=>ax (vj c))=ax (l.flatMap vj):=by
  unfold ax;rw[List.map_flatMap]
 rw[this,mL]
def aft:∀a b,∀c∈Dw a b,(∃x∈a,c.2.1=x.1)\/∃x∈b,c.2.1=x.1:=by
 intro a b;induction a,b using Dw.induct<;>grind [Dw]
def QX{a b}(d:Valid a)(f:Valid b):(Dw a b).length<=4096/\∀c∈Dw a b,c.2.1.length<=4096:=by
 have h:=d.few;have i:=f.few;refine⟨by have:=ahF _ a b (bX _);omega,λc g=>?_⟩;rcases aft a b c g with ⟨n,hn,e⟩|⟨n,hn,e⟩
 .rw[e];have:=((fE d).2 n hn).1;omega
 .rw[e];have:=((fE f).2 n hn).1;omega
def chA(s:aW)(a:Tx):nR :=
 if(aR (iA s) a).2.1≠0 then js (aR (iA s) a).2.1 else
 if(mN s.2.2.1 s.2.2.2.1 (aR (iA s) a).1).2≠0 then js (mN s.2.2.1 s.2.2.2.1 (aR (iA s) a).1).2 else
 if(Bn s (tU s (aR (iA s) a).1).1.2.1).2≠0 then js (Bn s (tU s (aR (iA s) a).1).1.2.1).2 else
 (0,(aR (iA s) a).1,0,(Dw (Bn s (tU s (aR (iA s) a).1).1.2.1).1 (mN s.2.2.1 s.2.2.2.1 (aR (iA s) a).1).1).flatMap vj,())
def Fa k:∀(l:List Tx),(∀x∈l,x.length<=k)->(Lib.join l [32]).length<=l.length*(k+1)
 | [],_=>pF _
 | [a],h=>by have:=h a aS;simp[Lib.join];omega
 | a::b::r,h=>by
   have f:=h a aS;have c:=Fa k (b::r) λx d=>h x (by simp[d]);have e:Lib.join (a::b::r) [32]=a++[32]++Lib.join (b::r) [32]:=by simp[Lib.join]
   rw[e];simp only[jt,iE,pM,iF] at c⊢;omega
def afu(l:List Nm):Tx:=bm (l.flatMap λx=>ax (Lib.join (x.1::x.2.1) [32]++[10]))
def vJ{a:Type}(b:a->Tx)(l:List a)(d:a)(id:Tx):a:=(l.find? λx=>decide (b x=id)).getD d
def qf.ajv{s}(h:qf s):X0 (0,s.2.2.1,s.2.1,s.1,()):=⟨h.ll,h.ln,h.il,h.rQ,h.bl,h.bn⟩
def wK(s:aW)(k:Int):List Nm:=ofV k (0,s.2.2.1,s.2.1,s.1,())
def Io s k:(k=1/\wK s k=Dp s)\/(k=2/\wK s k=x7 s)\/(k=3/\wK s k=iA s)\/wK s k=[]:=by
 unfold wK ofV Dp x7 iA;by_cases a:k=1
 .exact .inl ⟨a,by rw[aN a]⟩
 by_cases b:k=2
 .exact .inr (.inl ⟨b,by rw[aJ a,aN b]⟩)
 by_cases c:k=3
 .exact .inr (.inr<|.inl ⟨c,by rw[aJ a,aJ b,aN c]⟩)
 .exact .inr (.inr<|.inr<|by rw[aJ a,aJ b,aJ c])
def Dy{s}(h:qf s) k:(wK s k).length<=60:=by
 rcases Io s k with ⟨_,e⟩|⟨_,e⟩|⟨_,e⟩|e<;>rw[e]
 .exact La h
 .exact gi (lM GH _) h.il
 .exact K8 h
 .apply pF
def Dz{s}(h:qf s) k:Small (wK s k):=Dj k _ h.ajv
def Jy{s}(h:qf s) k:uF (s,k,())=aa (wK s k,()):=ob (wu k _ h.ajv) rfl
def NQ l p d:(nq l p d).1.length<=l.length+1:=by
 unfold nq;have h:=ZQ l p;split
 .split
  .apply pF
  .unfold Ia;have e:=congrArg List.length (BA (p:=λy=>fM y.1 p) (l:=Tr l p));simp only[jt,Ra] at e⊢;omega
 .apply pF
def FQ:AL:=([],[],[],[],[],[],())
def Pw:lC:=([],[],[],[],[],())
def itF(l:List Item)(c:jh)(id:Tx):Option (List Item)×nR :=
 if c.1=10 then(if(E0 l c.2.2.2.2.2.2.1).2≠0 then(af,js (E0 l c.2.2.2.2.2.2.1).2) else(af,0,id,0,(E0 l c.2.2.2.2.2.2.1).1,()))
 else(if(nq l c.2.2.2.2.2.2.1 c.2.2.2.2.2.1).2≠0 then(af,js (nq l c.2.2.2.2.2.2.1 c.2.2.2.2.2.1).2) else(aa (nq l c.2.2.2.2.2.2.1 c.2.2.2.2.2.1).1,Ed id))
def NR{c}(a:c.1=9\/c.1=10)(h:c.2.1∈lG c):c.2.1=1\/c.2.1=2:=by
 unfold lG Ps at h;rw[aJ ag,aJ ag,aJ ag,aJ ag,aN ag] at h;split at h
 .rename_i q;simpa using q
 .cases h
def ly0:cO:=([],[],[],[],(0:Int),(0:Int),false,())
def rnL(a:List cO)(id:Tx)(g:List Tx):List cO:=a.set ((E6 a id).getD 0) (id,((vJ (·.1) a ly0 id).2.1,(g,(vJ (·.1) a ly0 id).2.2.2)))
def rcE(s:aW)(c:jh):Int:=if(aR (wK s c.2.1) c.2.2.1).2.1=0/\c.1=13 then pD (wK s c.2.1) (aR (wK s c.2.1) c.2.2.1).1 c.2.2.2.2.1 else(aR (wK s c.2.1) c.2.2.1).2.1
def zZ{s k ref}(h:(aR (wK s k) ref).2.1=0):(k=1/\∃x∈s.1,x.1=(aR (wK s k) ref).1)\/(k=2/\∃x∈s.2.1,x.1=(aR (wK s k) ref).1)\/(k=3/\∃x∈s.2.2.1,x.1=(aR (wK s k) ref).1):=by
 obtain⟨y,a,d⟩:=QQ h;rcases Io s k with ⟨b,e⟩|⟨b,e⟩|⟨b,e⟩|e<;>rw[e] at a
 .obtain⟨x,c,rfl⟩:=S6 a;exact .inl ⟨b,x,c,d⟩
 .obtain⟨x,c,rfl⟩:=Z5 a;exact .inr (.inl ⟨b,x,c,d⟩)
 .obtain⟨x,c,rfl⟩:=Z6 a;exact .inr (.inr ⟨b,x,c,d⟩)
 .cases a
set_option maxRecDepth 100000
def Jz(s:aW)(id:Tx)(b:s.2.2.1.length<=1000000):pZ (s,id,())=aa (tU s id):=by
 unfold pZ tU;refine ob (E7 s id b) ?_;dsimp only;unfold DO;cases h:E6 s.2.2.1 id with
 | none=>rfl
 | some i =>
   obtain⟨x,a,_⟩:=A3 h;dsimp only;rw[aC ag,ah,ao a,ab,a];exact ob (A4 s i) rfl
end Go.Ge
namespace Go.Ge
variable [Lp]
set_option maxRecDepth 100000
end Go.Ge
namespace Go.Ge
variable [Lp]
structure A8 (c:jh):Prop where
 nms:pK c.2.2.2.2.1
 data:c.2.2.2.2.2.1.length<=8704
 key:c.2.2.2.2.2.2.1.length<=100
def Z9(a:List cO)(id:Tx)(g:List Tx):(rnL a id g).length=a.length:=by unfold rnL;rw[Y7]
end Go.Ge
namespace Go.Ge.W24
variable [Lp]
set_option maxRecDepth 100000
abbrev amR:=Int×Tx×Int×Tx×aj
def w1:Tx:=[48,48,48,48,48,49]
def t0:aW:=([],[],[],[],[],())
def okW(id:Tx):amR:=(0,id,0,[],())
end Go.Ge.W24
namespace Go.Ge.W24
variable [Lp]
set_option maxRecDepth 100000
end Go.Ge.W24
namespace Go.Ge.W24
variable [Lp]
set_option maxRecDepth 100000
end Go.Ge.W24
namespace Go.Ge
variable [Lp]
def Wi(c:jh):∃b,nd (c,())=aa (b,())/\(b=true->A8 c):=by
 obtain⟨b,e,f⟩:=SF c.2.2.2.2.1;unfold nd;rw[e,yx (c:=8704) rfl,yx (c:=100) (l:=c.2.2.2.2.2.2.1) rfl];generalize ak (cw _ 100) _ false=q;cases q
 .exact⟨false,rfl,λh=>by cases h⟩
 by_cases a:c.2.2.2.2.2.1.length<=8704
 .by_cases d:c.2.2.2.2.2.2.1.length<=100
  .refine⟨b,?_,λh=>⟨f h,a,d⟩⟩;rw[dn a,dn d];rfl
  .refine⟨false,?_,λh=>by cases h⟩;rw[dn a,cm d];rfl
 .refine⟨false,?_,λh=>by cases h⟩;rw[cm a];rfl
def z6:xF ([]:List Item):=⟨aS,λx a=>by cases a⟩
def ajw{l p x}(h:x∈Tr l p):x∈l:=by
 unfold Tr at h
 grind
def YE{l}(h:xF l){p d}(e:p.length<=100)(a:(nq l p d).2=0):xF (nq l p d).1:=by
 unfold nq at a⊢;split at a
 rotate_left
 .cases a
 rename_i q;rw[aN q];split at a
 .cases a
 rename_i b;rw[aJ b];have f:=h.1;refine⟨?_,λx hx=>?_⟩
 .dsimp only;rw[afl];unfold Tr;cases c:wy l p with
  | none =>
    grind
  | some i =>
    have:=ahi c
    grind
 .rcases afk.1 hx with rfl|hx
  .grind
  .exact h.2 x (ajw hx)
def Wj{l m:List Item}{c:jh}{id:Tx}(h:(itF l c id).1=aa m)(a:xF l)(b:c.2.2.2.2.2.2.1.length<=100):xF m:=by
 unfold itF at h;split at h
 .grind
 .split at h
  .cases h
  .rename_i q;obtain rfl:=aF h;exact YE a b (BB q)
def Ta{α}{a:α->Tx}{l d id}:vJ a l d id∈l\/vJ a l d id=d:=by
 unfold vJ;cases h:l.find? _ with
 | none=>exact .inr rfl
 | some y=>exact .inl (TA h)
def G2:pK []:=⟨aS,λx a=>by cases a⟩
def ab7{α S R}{f:S->Option (S⊕R)} key l id (h:l.length<=1000000) (mk:List α->Int->S) fin
  (hs:∀r (i:Nat) y,l[i]?=aa y->r.length<=1000000->f (mk r i)=aa (.inl<|mk (if key y=id then r else r++[y])<|aw .i64 i 1))
  (b:f (mk (Yw key l id) (l.length:Int))=aa (.inr fin)):Loop f (mk [] 0)=aa fin:=by
 have e:∀m,m.flatMap (λy=>if key y=id then [] else [y])=Yw key m id:=λm=>by
  unfold Yw;induction m with
  | nil=>rfl
  | cons a r c =>
    rw[ac3,c,ac6];by_cases q:key a=id
    .rw[aN q,aJ (by simp[q])];rfl
    .rw[aJ q,aN (by simp[q])];rfl
 refine hM l mk _ fin ag (λi x d j g=>?_) (by rw[e];exact b);rw[hs _ i x d<|by rw[e];exact gi (K7 key _ id).length_le (by rw[dk];omega),g];split<;>simp
def ajx{α R}(l:List α) k x (a:k<=l.length) (b:l.length<=1000000) (F:List α->Option R) :
  ak (inside 0 k<|len l) (ak (fits<|plus (len ([]:List α))<|len<|sub l 0<|minus k 0) (ak (fits<|plus (len<|app ([]:List α)<|sub l 0<|minus (k:Int) 0)<|len [x]) (ak (inside k (len l)<|len l)
   (ak (fits<|plus (len<|app (app ([]:List α)<|sub l 0<|minus (k:Int) 0) [x])<|len<|sub l k<|minus (len l) k) (F<|app (app (app ([]:List α)<|sub l 0<|minus k 0) [x])<|sub l k<|minus (len l) k) af) af) af) af) af=F (tr l k x):=by
 rw[show inside 0 k _=true from aL ag ag ef,fV,jc l k a,show inside k (len l) _=true from jd a (bX _)];simp only[gX];rw[aH cJ,aH cJ,aH cJ];rfl
def G3(s:aW)(id:Tx)(e:s.1.length<=1000000)(g:s.2.1.length<=1000000)(j:s.2.2.1.length<=1000000):sI (s,id,())=aa (Ee s id,()):=by
 unfold sI Ee;rcases eL (f:=qJ (s,id,())) s.2.2.1 (λi=>((false,i,()),())) (λ_ y=>decide (y.2.1=id)) (λi _=>(1,(true,(i:Int),()),())) _ ag (λi y a b c=>by
  unfold qJ;rw[al b,ai,ao a,ab,dt,dw,c];by_cases q:y.2.1=id<;>simp[q]) (by unfold qJ;rw[aq,ah]) with ⟨i,y,a,d,_,h⟩|⟨hn,h⟩
 .rw[h,ab,V7 a d];rfl
 rw[h,ab,V8 λy a=>by obtain⟨i,b⟩:=bq.1 a;exact hn i y b];dsimp only;rcases eL (f:=qK (s,id,())) s.2.1 (λi=>((false,i,()),())) (λ_ y=>decide (y.2.2.1=id)) (λi _=>(1,(true,(i:Int),()),())) _ ag (λi y a b c=>by
  unfold qK;rw[al b,ai,ao a,ab,dt,dw,c];by_cases q:y.2.2.1=id<;>simp[q]) (by unfold qK;rw[aq,ah]) with ⟨i,y,a,d,_,h⟩|⟨hn,h⟩
 .rw[h,ab,V7 a d];rfl
 rw[h,ab,V8 λy a=>by obtain⟨i,b⟩:=bq.1 a;exact hn i y b];rcases eL (f:=qL (s,id,())) s.1 (λi=>((false,i,()),())) (λ_ y=>decide (y.2.2.2.1=id)) (λi _=>(1,(true,i,()),())) _ ag (λi y a b c=>by
  unfold qL;rw[al b,ai,ao a,ab,dt,dw,c];by_cases q:y.2.2.2.1=id<;>simp[q]) (by unfold qL;rw[aq,ah]) with ⟨i,y,a,d,_,h⟩|⟨hn,h⟩
 .rw[h,V7 a d];rfl
 rw[h,V8 λy a=>by obtain⟨i,b⟩:=bq.1 a;exact hn i y b];rfl
def uL(s:aW)(id:Tx) n (d:s.2.2.2.2.1.length<=50000):nf (s,id,n,())=aa (S5 s id n,()):=by
 have b:=(K7 (λy=>y.1) s.2.2.2.2.1 id).length_le;unfold nf S5;dsimp only;rw[ab7 _ s.2.2.2.2.1 id ag (λr i=>(((),i,()),r,())) _ (λr i y a b=>by
  unfold tK;rw[al<|av a,ao a,ab,dt,ab,show fits _=true from aH cJ];by_cases q:y.1=id
  .rw[dn q,aN q];rfl
  .rw[cm q,aJ q];rfl)<|by unfold tK;rw[aq];rfl,ab]
 generalize Yw _ s.2.2.2.2.1 id=l at b;by_cases q:0<n
 rotate_left
 .rw[bA ag,ai,aJ q]
 rw[cR ag,aN q];have c:=lF (λy=>y.1) l id;have h:=mm (f:=pq (s,id,n,()) (((),s.2.2.2.2.1.length,()),l,())) _ l id ag (λi=>((i,()),())) _ _ (λi y a=>by
  have hi:=av a;unfold pq;dsimp only;rw[al hi,aE ag ef,ao a,ab,az ag];cases fM y.1 id<;>rfl) (by unfold pq;rw[aq];rfl)
 have e:(if di (λy=>y.1) l id<l.length then((((di (λy=>y.1) l id:Nat):Int),()),()) else((l.length,()),()))=((((di (λy=>y.1) l id:Nat):Int),()),()):=by
  split
  .rfl
  .rw[show di _ l id=l.length by omega]
 rw[h,e,K9];exact ajx l _ _ c ag (λm=>aa ((s.1,s.2.1,s.2.2.1,s.2.2.2.1,m,s.2.2.2.2.2),()))
def ltC(x y:Dl):Prop:=cmpL (parts x.2.1) (parts y.2.1)<0
instance amS (x y:Dl):Decidable (ltC x y):=inferInstanceAs (Decidable<|cmpL (parts x.2.1) (parts y.2.1)<0)
def Fb(l:List Dl):Prop:=l.Pairwise ltC
def Fc x:¬ltC x x:=by unfold ltC;rw[jP];omega
def QY{x y z}(h:ltC x y)(g:ltC y z):ltC x z:=mg h g
def afx:∀{l m},Fb l->Fb m->(∀c,c∈l↔c∈m)->l=m:=by
 intro l;induction l with
 | nil =>
   intro m _ _ h;cases m with
   | nil=>rfl
   | cons d m=>exact absurd ((h d).2 aS) aS
 | cons c l k =>
   intro m b f h;cases m with
   | nil=>exact absurd ((h c).1 aS) aS
   | cons d m =>
     unfold Fb at b f;rw[Fl] at b f;have i:c=d:=by
      have a:c=d\/c∈m:=by simpa using(h c).1 aS
      have j:d=c\/d∈l:=by simpa using(h d).2 aS
      rcases a with e|a
      .exact e
      .rcases j with e|j
       .exact e.symm
       .exact absurd (QY (b.1 d j)<|f.1 c a) (Fc c)
     subst i;rw[k b.2 f.2 λq=>?_];constructor
     .intro g;have:q=c\/q∈m:=by simpa using(h q).1 (by simp[g])
      rcases this with e|a
      .subst e;exact absurd (b.1 q g) (Fc q)
      .exact a
     .intro g;have:q=c\/q∈l:=by simpa using(h q).2 (by simp[g])
      rcases this with e|a
      .subst e;exact absurd (f.1 q g) (Fc q)
      .exact a
def QZ a r c:DP (a::r) c=if ltC a c then a::DP r c else c::a::r:=by
 unfold DP;by_cases h:cmpL (parts a.2.1) (parts c.2.1)<0
 .rw[aN<|show ltC a c from h];simp[h]
 .rw[aJ<|show ¬ltC a c from h];simp[h]
def G4{r n x}:x∈DP r n↔x=n\/x∈r:=by
 induction r with
 | nil=>simp[DP]
 | cons a r b =>
   rw[QZ];split
   .rw[fI,b,fI];constructor
    .rintro(h|h|h)
     .exact .inr (.inl h)
     .exact .inl h
     .exact .inr (.inr h)
    .rintro(h|h|h)
     .exact .inr (.inl h)
     .exact .inl h
     .exact .inr (.inr h)
   .rw[fI]
def NS{r n}(b:Fb r)(c:∀x∈r,x.2.1≠n.2.1):Fb (DP r n):=by
 unfold Fb at b⊢;induction r with
 | nil=>simp[DP]
 | cons a r f =>
   rw[Fl] at b;rw[QZ];split
   .rename_i h;refine Fl.2 ⟨λy hy=>?_,f b.2 λx g=>c x (by simp[g])⟩;rcases G4.1 hy with rfl|hy
    .exact h
    .exact b.1 y hy
   .rename_i h;have d:ltC n a:=by
     have i:cmpL (parts a.2.1) _≠0:=λe=>by
      have:=HX e;exact c a aS (by rw[<-dP a.2.1,this,dP])
     have j:=MQ (parts n.2.1) (parts a.2.1);unfold ltC at h⊢;omega
    refine Fl.2 ⟨λy hy=>?_,Fl.2 b⟩;rcases fI.1 hy with rfl|hy
    .exact d
    .exact QY d (b.1 y hy)
def NT r n:(DP r n).length=r.length+1:=by
 unfold DP;rw[jt,iE,<-En,<-jt,BA]
def IsC(a b:List Nd)(c:Dl):Prop :=
 (c.1=3/\∃x∈a,x.1=c.2.1/\∀y∈b,y.1≠x.1)\/(c.1=1/\∃y∈b,y.1=c.2.1/\∀x∈a,x.1≠y.1)\/(c.1=2/\∃x∈a,∃y∈b,x.1=y.1/\x≠y/\x.1=c.2.1)
def IsC.path{a b c}(h:IsC a b c):(∃x∈a,x.1=c.2.1)\/∃y∈b,y.1=c.2.1:=by
 rcases h with ⟨_,x,d,e,_⟩|⟨_,y,f,e,_⟩|⟨_,x,d,_,_,_,_,e⟩
 .exact .inl ⟨x,d,e⟩
 .exact .inr ⟨y,f,e⟩
 .exact .inl ⟨x,d,e⟩
def PO(l:List Nd):Prop:=l.Pairwise λx y=>cmpL (key x) (key y)<0
def A9{x y}(h:cmpL (key x) (key y)<0):x.1≠y.1:=λe=>by
 unfold key at h;rw[e,jP] at h;omega
def ajy{x y}(a:¬cmpL (key x) (key y)<0)(b:¬0<cmpL (key x) (key y)):x.1=y.1:=by
 have:=HX (show cmpL (key x) (key y)=0 by omega);unfold key at this;rw[<-dP x.1,this,dP]
def afy:∀n a b,a.length+b.length<=n->PO a->PO b->Fb (Dw a b)/\∀c,c∈Dw a b↔IsC a b c:=by
 have ahead:∀{a b k p r},Fb r->(∀c,c∈r↔IsC a b c)->(∀x∈a,cmpL (parts p) (key x)<0)->(∀y∈b,cmpL (parts p) (key y)<0)->Fb (((k,p,()):Dl)::r):=by
  intro a b k p r M N O P;refine Fl.2 ⟨λc v=>?_,M⟩;show cmpL _ _<0
  rcases((N c).1 v).path with ⟨x,Q,e⟩|⟨y,R,e⟩
  .rw[<-e];exact O x Q
  .rw[<-e];exact P y R
 intro n;induction n with
 | zero =>
   intro a b h _ _;obtain rfl:=yG.1 (show a.length=0 by omega);obtain rfl:=yG.1 (show b.length=0 by omega);rw[Dw];exact⟨List.Pairwise.nil,λc=>by simp[IsC]⟩
 | succ n B =>
   intro a b h H G;cases a with
   | nil =>
     cases b with
     | nil=>rw[Dw];exact⟨List.Pairwise.nil,λc=>by simp[IsC]⟩
     | cons y b =>
       have l:=Fl.1 G;obtain⟨w,q⟩:=B [] b (by simp at h⊢;omega) H l.2;rw[Dw];refine⟨ahead w q Bz l.1,λc=>?_⟩;rw[fI,q];obtain⟨S,T,u⟩:=c;simp only[IsC,fI,Y6,false_and,exists_false,and_false,or_false,false_or,Prod.mk.injEq,forall_const,false_implies,implies_true,TT,exists_eq_or_imp];constructor
       .rintro(⟨rfl,rfl⟩|⟨rfl,g,d,rfl⟩)
        .exact⟨rfl,.inl rfl⟩
        .exact⟨rfl,.inr ⟨g,d,rfl⟩⟩
       .rintro⟨rfl,rfl|⟨g,d,rfl⟩⟩
        .exact .inl ⟨rfl,rfl⟩
        .exact .inr ⟨rfl,g,d,rfl⟩
   | cons x a =>
     have m:=Fl.1 H;cases b with
     | nil =>
       obtain⟨w,q⟩:=B a [] (by simp at h⊢;omega) m.2 G;rw[Dw];refine⟨ahead w q m.1 Bz,λc=>?_⟩;rw[fI,q];obtain⟨S,T,u⟩:=c;simp only[IsC,fI,Y6,false_and,exists_false,and_false,or_false,Prod.mk.injEq,forall_const,false_implies,TT,exists_eq_or_imp];constructor
       .rintro(⟨rfl,rfl⟩|⟨rfl,g,d,rfl⟩)
        .exact⟨rfl,.inl rfl⟩
        .exact⟨rfl,.inr ⟨g,d,rfl⟩⟩
       .rintro⟨rfl,rfl|⟨g,d,rfl⟩⟩
        .exact .inl ⟨rfl,rfl⟩
        .exact .inr ⟨rfl,g,d,rfl⟩
     | cons y b =>
       have l:=Fl.1 G;rw[Dw];split
       .rename_i C;obtain⟨w,q⟩:=B a _ (by simp at h⊢;omega) m.2 G;have i:∀z∈y::b,cmpL _ _<0:=λz f=>by
         rcases fI.1 f with rfl|f
         .exact C
         .exact mg C (l.1 z f)
        refine⟨ahead w q m.1 i,λc=>?_⟩;rw[fI,q];constructor
        .rintro(rfl|v)
         .exact .inl ⟨rfl,x,aS,rfl,λz f=>(A9<|i z f).symm⟩
         .rcases v with ⟨k,j,ye,e,hn⟩|⟨k,g,d,e,hn⟩|⟨k,j,ye,g,d,o,s,t⟩
          .exact .inl ⟨k,j,by simp[ye],e,hn⟩
          .refine .inr (.inl ⟨k,g,d,e,λz f=>?_⟩);rcases fI.1 f with rfl|f
           .exact A9 (i g d)
           .exact hn z f
          .exact .inr (.inr ⟨k,j,by simp[ye],g,d,o,s,t⟩)
        .rintro(⟨k,j,ye,e,hn⟩|⟨k,g,d,e,hn⟩|⟨k,j,ye,g,d,o,s,t⟩)
         .rcases fI.1 ye with rfl|ye
          .exact .inl (by rw[e,<-k])
          .exact .inr (.inl ⟨k,j,ye,e,hn⟩)
         .exact .inr (.inr<|.inl ⟨k,g,d,e,λz f=>hn z (by simp[f])⟩)
         .rcases fI.1 ye with rfl|ye
          .exact absurd o (A9<|i g d)
          .exact .inr (.inr<|.inr ⟨k,j,ye,g,d,o,s,t⟩)
       .rename_i I;split
        .rename_i U;obtain⟨w,q⟩:=B _ b (by simp at h⊢;omega) H l.2;have D:cmpL (key y) (key x)<0:=by have:=MQ (key y) (key x);omega
         have i:∀z∈x::a,cmpL _ _<0:=λz f=>by
          rcases fI.1 f with rfl|f
          .exact D
          .exact mg D (m.1 z f)
         refine⟨ahead w q i l.1,λc=>?_⟩;rw[fI,q];constructor
         .rintro(rfl|v)
          .exact .inr (.inl ⟨rfl,y,aS,rfl,λz f=>(A9<|i z f).symm⟩)
          .rcases v with ⟨k,j,ye,e,hn⟩|⟨k,g,d,e,hn⟩|⟨k,j,ye,g,d,o,s,t⟩
           .refine .inl ⟨k,j,ye,e,λz f=>?_⟩;rcases fI.1 f with rfl|f
            .exact A9 (i j ye)
            .exact hn z f
           .exact .inr (.inl ⟨k,g,by simp[d],e,hn⟩)
           .exact .inr (.inr ⟨k,j,ye,g,by simp[d],o,s,t⟩)
         .rintro(⟨k,j,ye,e,hn⟩|⟨k,g,d,e,hn⟩|⟨k,j,ye,g,d,o,s,t⟩)
          .exact .inr (.inl ⟨k,j,ye,e,λz f=>hn z (by simp[f])⟩)
          .rcases fI.1 d with rfl|d
           .exact .inl (by rw[e,<-k])
           .exact .inr (.inr<|.inl ⟨k,g,d,e,hn⟩)
          .rcases fI.1 d with rfl|d
           .exact absurd o.symm (A9<|i j ye)
           .exact .inr (.inr<|.inr ⟨k,j,ye,g,d,o,s,t⟩)
        .rename_i J;obtain⟨w,q⟩:=B a b (by simp at h⊢;omega) m.2 l.2;have A:=ajy I J;have K:key x=key y:=by unfold key;rw[A]
         have E:=λz f=>A9 (m.1 z f);have F:∀z∈b,x.1≠z.1:=λz f=>by rw[A];exact A9 (l.1 z f)
         constructor
         .split
          .exact w
          .exact ahead w q m.1 (λz f=>by
           show cmpL (key x) _<0
           rw[K];exact l.1 z f)
         .intro c;rw[Oi,q];constructor
          .rintro(v|v)
           .split at v
            .cases v
            .rename_i L;obtain rfl:=DD.1 v;exact .inr (.inr ⟨rfl,x,aS,y,aS,A,L,rfl⟩)
           .rcases v with ⟨k,j,ye,e,hn⟩|⟨k,g,d,e,hn⟩|⟨k,j,ye,g,d,o,s,t⟩
            .refine .inl ⟨k,j,by simp[ye],e,λz f=>?_⟩;rcases fI.1 f with rfl|f
             .rw[<-A];exact E j ye
             .exact hn z f
            .refine .inr (.inl ⟨k,g,by simp[d],e,λz f=>?_⟩);rcases fI.1 f with rfl|f
             .exact F g d
             .exact hn z f
            .exact .inr (.inr ⟨k,j,by simp[ye],g,by simp[d],o,s,t⟩)
          .rintro(⟨k,j,ye,e,hn⟩|⟨k,g,d,e,hn⟩|⟨k,j,ye,g,d,o,s,t⟩)
           .rcases fI.1 ye with rfl|ye
            .exact absurd A.symm (hn y aS)
            .exact .inr (.inl ⟨k,j,ye,e,λz f=>hn z (by simp[f])⟩)
           .rcases fI.1 d with rfl|d
            .exact absurd A (hn x aS)
            .exact .inr (.inr<|.inl ⟨k,g,d,e,λz f=>hn z (by simp[f])⟩)
           .rcases fI.1 ye with rfl|ye
            .rcases fI.1 d with rfl|d
             .left;rw[aJ s,DD,t,<-k]
             .exact absurd o (F g d)
            .rcases fI.1 d with rfl|d
             .exact absurd (A.trans o.symm) (E j ye)
             .exact .inr (.inr<|.inr ⟨k,j,ye,g,d,o,s,t⟩)
def ak5(x y:Nd):an (br x.1 y.1) (an (aG x.2.1 y.2.1)<|an (aG x.2.2.1 y.2.2.1)<|an (br x.2.2.2.1 y.2.2.2.1)<|an (br x.2.2.2.2.1 y.2.2.2.2.1) true)=decide (x=y):=by
 obtain⟨a,b,c,d,e,f⟩:=x;obtain⟨g,h,i,j,k,l⟩:=y;unfold an br aG;simp
def Px(a b:List Nd)(c:Dl):Prop :=
 (c.1=3/\∃x∈a,x.1=c.2.1/\∀y∈b,y.1≠x.1)\/(c.1=2/\∃x∈a,∃y∈b,x.1=y.1/\x≠y/\x.1=c.2.1)
def Px.path{a b c}(h:Px a b c):∃x∈a,x.1=c.2.1:=by
 rcases h with ⟨_,x,d,e,_⟩|⟨_,x,d,_,_,_,_,e⟩<;>exact⟨x,d,e⟩
def ab8{a b c}:IsC a b c↔Px a b c\/(c.1=1/\∃y∈b,y.1=c.2.1/\∀x∈a,x.1≠y.1):=by
 constructor
 .rintro(h|h|h)
  .exact .inl (.inl h)
  .exact .inr h
  .exact .inl (.inr h)
 .rintro((h|h)|h)
  .exact .inl h
  .exact .inr (.inr h)
  .exact .inr (.inl h)
def step1(b:List Nd)(t:List Dl)(x:Nd):List Dl:=if(findF b x.1).2.1=false then DP t (3,x.1,()) else if(findF b x.1).1=x then t else DP t (2,x.1,())
def step2(a:List Nd)(t:List Dl)(y:Nd):List Dl:=if(findF a y.1).2.1=false then DP t (1,y.1,()) else t
def JA{l}(b:Ord l) p:((∀x∈l,x.1≠p)/\findF l p=(ZW,false,()))\/∃x∈l,x.1=p/\findF l p=(x,true,()):=by
 by_cases h:∃x∈l,x.1=p
 .obtain⟨x,a,e⟩:=h;exact .inr ⟨x,a,e,AX b a e⟩
 .exact .inl ⟨λx a e=>h ⟨x,a,e⟩,E3 λx a e=>h ⟨x,a,e⟩⟩
def dD{a:Type}{l:List a}{i x z}(b:l[i]?=aa x):z∈l.take (i+1)↔z∈l.take i\/z=x:=by
 rw[wN,b];simp
def fresh{l}(c:Ord l){i x}(d:l[i]?=aa x):∀z∈l.take i,z.1≠x.1:=λz e=>by
 obtain⟨j,a⟩:=bq.1 e;rw[jq] at a;split at a
 .rename_i b;exact A9 (c j i z x b a d)
 .cases a
def ab9{a b}(w:Ord a)(q:Ord b){i x}(g:a[i]?=aa x){t}(A:Fb t)(u:∀c,c∈t↔Px (a.take i) b c) :
  Fb (step1 b t x)/\(step1 b t x).length<=t.length+1/\∀c,c∈step1 b t x↔Px (a.take<|i+1) b c:=by
 have r:∀c∈t,c.2.1≠x.1:=λc p e=>by
  obtain⟨z,d,D⟩:=((u c).1 p).path;exact fresh w g z d (by rw[D,e])
 have f:∀c,Px _ b c->Px _ b c:=λc p=>by
  rcases p with ⟨k,z,d,e,hn⟩|⟨k,z,d,y,h,j,n,o⟩
  .exact .inl ⟨k,z,(dD g).2 (.inl d),e,hn⟩
  .exact .inr ⟨k,z,(dD g).2 (.inl d),y,h,j,n,o⟩
 unfold step1;rcases JA q x.1 with ⟨s,B⟩|⟨y,h,v,B⟩
 .rw[B,aN rfl];refine⟨NS A r,by rw[NT];omega,λc=>?_⟩;rw[G4,u];constructor
  .rintro(rfl|p)
   .exact .inl ⟨rfl,x,(dD g).2 (.inr rfl),rfl,s⟩
   .exact f c p
  .rintro(⟨k,z,d,e,hn⟩|⟨k,z,d,y,h,j,n,o⟩)
   .rcases(dD g).1 d with d|rfl
    .exact .inr (.inl ⟨k,z,d,e,hn⟩)
    .exact .inl (by rw[e,<-k])
   .rcases(dD g).1 d with d|rfl
    .exact .inr (.inr ⟨k,z,d,y,h,j,n,o⟩)
    .exact absurd j.symm (s y h)
 .rw[B,aJ aS];by_cases l:y=x
  .rw[aN l];refine⟨A,ag,λc=>?_⟩;rw[u];refine⟨f c,?_⟩;rintro(⟨k,z,d,e,hn⟩|⟨k,z,d,C,m,j,n,o⟩)
   .rcases(dD g).1 d with d|rfl
    .exact .inl ⟨k,z,d,e,hn⟩
    .exact absurd v (hn y h)
   .rcases(dD g).1 d with d|rfl
    .exact .inr ⟨k,z,d,C,m,j,n,o⟩
    .exact absurd ((q.uniq h m<|by rw[v,j]).symm.trans l).symm n
  .rw[aJ l];refine⟨NS A r,by rw[NT];omega,λc=>?_⟩;rw[G4,u];constructor
   .rintro(rfl|p)
    .exact .inr ⟨rfl,x,(dD g).2 (.inr rfl),y,h,v.symm,λe=>l e.symm,rfl⟩
    .exact f c p
   .rintro(⟨k,z,d,e,hn⟩|⟨k,z,d,C,m,j,n,o⟩)
    .rcases(dD g).1 d with d|rfl
     .exact .inr (.inl ⟨k,z,d,e,hn⟩)
     .exact absurd v (hn y h)
    .rcases(dD g).1 d with d|rfl
     .exact .inr (.inr ⟨k,z,d,C,m,j,n,o⟩)
     .exact .inl (by rw[o,<-k])
def YF(a b m:List Nd)(c:Dl):Prop:=Px a b c\/(c.1=1/\∃y∈m,y.1=c.2.1/\∀x∈a,x.1≠y.1)
def aca{a b}(m:Ord a)(n:Ord b){i y}(g:b[i]?=aa y){t}(s:Fb t)(o:∀c,c∈t↔YF a b (b.take i) c) :
  Fb (step2 a t y)/\(step2 a t y).length<=t.length+1/\∀c,c∈step2 a t y↔YF a b (b.take<|i+1) c:=by
 have f:∀c,YF a b _ c->YF a b _ c:=λc j=>by
  rcases j with h|⟨k,z,d,e,hn⟩
  .exact .inl h
  .exact .inr ⟨k,z,(dD g).2 (.inl d),e,hn⟩
 unfold step2;rcases JA m y.1 with ⟨l,p⟩|⟨x,u,v,p⟩
 .rw[p,aN rfl];have q:∀c∈t,c.2.1≠y.1:=λc j e=>by
   rcases(o c).1 j with h|⟨_,z,d,r,_⟩
   .obtain⟨z,d,r⟩:=h.path;exact l z d (by rw[r,e])
   .exact fresh n g z d (by rw[r,e])
  refine⟨NS s q,by rw[NT];omega,λc=>?_⟩;rw[G4,o];constructor
  .rintro(rfl|j)
   .exact .inr ⟨rfl,y,(dD g).2 (.inr rfl),rfl,l⟩
   .exact f c j
  .rintro(h|⟨k,z,d,e,hn⟩)
   .exact .inr (.inl h)
   .rcases(dD g).1 d with d|rfl
    .exact .inr (.inr ⟨k,z,d,e,hn⟩)
    .exact .inl (by rw[e,<-k])
 .rw[p,aJ aS];refine⟨s,ag,λc=>?_⟩;rw[o];refine⟨f c,?_⟩;rintro(h|⟨k,z,d,e,hn⟩)
  .exact .inl h
  .rcases(dD g).1 d with d|rfl
   .exact .inr ⟨k,z,d,e,hn⟩
   .exact absurd v (hn x u)
def NU a b (p:vI a) (q:vI b):mA (a,b,())=aa ((Pv a b).1,(Pv a b).2,()):=by
 obtain⟨e,K,G⟩:=oB a p;obtain⟨f,L,H⟩:=oB b q;unfold mA;rw[K,L];simp only[ab];rw[show ak _ _ _=aa (!(e&&f)) by cases e<;>cases f<;>rfl,ab];by_cases hv:Valid a/\Valid b
 .obtain rfl:=G.2 hv.1;obtain rfl:=H.2 hv.2;have g:=hv.1.ord;have j:=hv.2.ord;have M:=p.1;have N:=q.1;have small:∀{t m},t.length<=10000->(∀c,c∈t->YF a b m c)->(∀y∈m,y∈b)->SmC t:=λ{t m} Y w hs=>⟨ag,λc r=>by
   rcases w c r with h|⟨_,z,l,e,_⟩
   .obtain⟨z,l,e⟩:=h.path;rw[<-e];have:=(p.2 z l).1;omega
   .rw[<-e];have:=(q.2 z<|hs z l).1;omega⟩
  obtain⟨t,O,P,_⟩:=rE (f:=lX (a,b,())) a (λt i=>((t,i,()),())) _ _ (λt i=>Fb t/\t.length<=i/\∀c,c∈t↔Px _ b c) ag (λt i x B C d D=>by
   obtain⟨s,I,n⟩:=D;obtain⟨E,Q,F⟩:=ab9 g j B s n;refine⟨?_,E,ag,F⟩;have W9:=(p.at B).1;have v:SmC t:=small (m:=[]) ag (λc r=>.inl (by
    rcases(n c).1 r with ⟨k,z,l,e,hn⟩|⟨k,z,l,y,o,R,S,T⟩
    .exact .inl ⟨k,z,DC l,e,hn⟩
    .exact .inr ⟨k,z,DC l,y,o,R,S,T⟩)) Bz
   unfold lX step1;rw[al C,ao B,ab,CF b x.1 q hv.2,d];simp only[ab];rw[ak5,NP t _ v xZ,NP t _ v xZ];cases h:(findF b x.1).2.1 with
   | false=>rfl
   | true =>
     by_cases A:(findF b x.1).1=x
     .rw[dn A,aN A];rfl
     .rw[cm A,aJ A];rfl) (λt _=>by
   unfold lX;rw[aq];rfl) [] ⟨List.Pairwise.nil,aS,λc=>by simp[Px]⟩
  obtain⟨s,I,n⟩:=O;obtain⟨u,U,V,_⟩:=rE (f:=lY (a,b,())) b (λt i=>((t,i,()),())) _ _ (λt i=>Fb t/\t.length<=a.length+i/\∀c,c∈t↔YF a b _ c) ag (λt i y o C d D=>by
   obtain⟨s,I,n⟩:=D;obtain⟨E,Q,F⟩:=aca g j o s n;refine⟨?_,E,ag,F⟩;have W:=(q.at o).1;unfold lY step2;rw[al C,ao o,ab,CF a y.1 p hv.1,d];simp only[ab];rw[NP t _ (small ag (λc r=>(n c).1 r) λy o=>DC o) xZ];cases h:(findF a y.1).2.1<;>rfl) (λt _=>by
   unfold lY;rw[aq];rfl) t ⟨s,ag,λc=>by rw[n];simp[YF]⟩
  obtain⟨X,Z,J⟩:=U;rw[yI] at J;have w:=afy _ a b (bX _) (zU.1 g) (zU.1 j);rw[show(!(true&&true))=false from rfl,ah,P,ab];rw[V,ab];unfold Pv;rw[aN hv,(afx X w.1 λc=>by rw[J,w.2,ab8];rfl)]
 .have:(e&&f)=false:=by
   cases e with
   | false=>rfl
   | true =>
     cases f with
     | false=>rfl
     | true=>exact absurd ⟨G.1 rfl,H.1 rfl⟩ hv
  rw[this];unfold Pv;rw[aJ hv];rfl
def Tb(l:List Dl)(r:l.length<=4096)(j:∀c∈l,c.2.1.length<=4096):ss (l,())=aa (l.flatMap vj,()):=by
 unfold ss;have key:=hM (f:=qn (l,())) l (λd i=>((d,i,()),())) vj _ ag (λi x k n a=>by
  have b:((l.take i).flatMap vj).length<=(l.take i).length*8200:=Dx _ _ _ λc o=>by
   have:=j c (DC o);rw[Im];omega
  rw[dk] at b;have W9:=j x (dW k);have s:=Il x.1;unfold qn;rw[al n,ao k];simp only[ab,a];have hs:(ak (cw 1 x.1) (aa<|cw x.1 3) (aa false):Option Bool)=aa (decide<|1<=x.1/\x.1<=3):=by
   by_cases g:1<=x.1
   .by_cases m:x.1<=3
    .rw[bA g,bA m,dn ⟨g,m⟩];rfl
    .rw[bA g,cR ag,cm ag];rfl
   .rw[cR ag,cm ag];rfl
  rw[hs,ab];have p:(ak (decide<|1<=x.1/\x.1<=3) (ae (idx ([[],[43],[126],[45]]) x.1) λq=>aa ((q,()),())) (aa (([63],()),())):Option _)=aa ((Ej x.1,()),()):=by
   by_cases h:1<=x.1/\x.1<=3
   .rw[dn h,ai,Wh h.1 h.2,ab]
   .rw[cm h,ah];unfold Ej;rw[aJ h]
  rw[p,ab];dsimp only;rw[MY x.2.1 ag,ab];have e:app (app (app (app ((l.take i).flatMap vj)<|Ej x.1) [32])<|ve x.2.1) [10]=(l.take i).flatMap vj++vj x:=by
   unfold vj;simp only[gX,vL]
  rw[e];rw[aH ag,aH (by simp only[gX,jt,iE,pM];omega)];rw[aH<|by simp only[gX,jt,iE,pM,ke];omega,ai,aH (by simp only[gX,jt,iE,pM,ke];omega)];rfl) (by
  unfold qn;rw[aq];rfl)
 rw[show Loop _ _=_ from key,ab]
def WJ{a:Type}(l:List a)(k i:Nat):List a:=if i<=k then l.take i else l.take k++(l.take i).drop (k+1)
def NV{α}{l:List α}{k i y}(a:l[i]?=aa y)(h:i≠k):WJ l k i++[y]=WJ l k (i+1):=by
 have hi:=av a;have e:l.take (i+1)=l.take i++[y]:=by rw[wN,a];rfl
 unfold WJ;by_cases q:i<k
 .rw[aN ag,aN ag,e]
 .rw[aJ ag,aJ ag,e,aav (by rw[dk];omega),vL]
def NW{α}{l:List α}{k}:WJ l k k=WJ l k (k+1):=by
 unfold WJ;rw[aN<|bX _,aJ ag,Fj (by rw[dk];omega),vl]
def Tc{α}{l:List α}{k i}:(WJ l k i).length<=l.length:=by
 unfold WJ;split
 .rw[dk];omega
 .simp;omega
def DA{α}{l:List α}{k}:WJ l k l.length=if k<l.length then cutAt l k else l:=by
 unfold WJ cutAt;by_cases q:k<l.length
 .rw[aJ ag,aN q,yI]
 .rw[aN ag,aJ q,yI]
def JB(s:aW)(id:Tx) b k (g:s.2.2.1.length<=1000000) (c:∀i,i<s.2.2.1.length->aG i b.1=decide (i=k)) :
  Loop (iV (s,id,()) b) (((),(),0,()),([]:List Tx),([]:List cO),())=aa (((),(),(s.2.2.1.length:Int),()),WJ (xQ s.2.2.1.length s.2.2.2.1) k s.2.2.1.length,WJ s.2.2.1 k s.2.2.1.length,()):=by
 have key:=cB (f:=iV (s,id,()) b) s.2.2.1.length
  (λi=>(((),(),i,()),WJ (xQ s.2.2.1.length s.2.2.2.1) k i,WJ s.2.2.1 k i,())) (λi a=>by
   have hx:=fX a;have h:=Tc (l:=s.2.2.1) (k:=k) (i:=i);have e:=Tc (l:=xQ s.2.2.1.length s.2.2.2.1) (k:=k) (i:=i);rw[qg] at e;unfold iV;dsimp only;rw[al a,c i a,az ag];by_cases q:i=k
   .rw[dn q];subst q;rw[<-NW,<-NW];rfl
   .rw[cm q,ao hx,ab,show fits _=true from aH cJ,A4,ab,
     show ∀d,fits (plus _<|@len Tx [d])=true from λd=>aH cJ,<-NV hx q,<-NV (S3 a) q]
    rfl) (by
   unfold iV;rw[aq];rfl)
 exact key
def Br(s:aW)(id:Tx)(d:s.2.2.1.length<=100000)(b:s.2.2.2.2.1.length<=50000):mG (s,id,())=aa (Wf s id,()):=by
 unfold mG Wf;rw[E7 s id ag,ab];unfold DO;cases h:E6 s.2.2.1 id with
 | none =>
   have e:=DA (l:=xQ s.2.2.1.length s.2.2.2.1) (k:=s.2.2.1.length);rw[qg,aJ ag] at e;dsimp only;rw[JB s id _ s.2.2.1.length ag<|λi a=>by rw[ar ag,cm ag],ab,e,DA,aJ ag];exact ob (uL _ id 0 b) rfl
 | some i =>
   obtain⟨x,c,_⟩:=A3 h;have a:=av c;have e:=DA (l:=xQ s.2.2.1.length s.2.2.2.1) (k:=i);rw[qg,aN a] at e;dsimp only;rw[JB s id _ i ag<|λj f=>by exact gO.2 ag,ab,e,DA,aN a];exact ob (uL _ id 0 b) rfl
def Ko e:bR (e,())=aa (js e,()):=rfl
def z7{α}(a:α->Tx){l d p}{i:Nat}{x}(c:l[i]?=aa x)(e:a x=p)(f:∀j y,j<i->l[j]?=aa y->a y≠p):vJ a l d p=x:=by
 have h:l.find? (λx=>decide (a x=p))=aa x:=by
  rw[aau];obtain⟨g,rfl⟩:=hR.1 c;exact⟨dn e,i,g,rfl,λj b=>by simpa using f j _ b (fX ag)⟩
 unfold vJ;rw[h];rfl
def NX{α}(a:α->Tx){l d p}(h:∀x∈l,a x≠p):vJ a l d p=d:=by
 unfold vJ;rw[Tu.2 λx b=>by simpa using h x b];rfl
def Pf{b:Type}(a:b->Tx)(l:List b)(id:Tx)(n:Int):Prop:=(∃(k:Nat) (x:b),l[k]?=aa x/\a x=id/\(∀j y,j<k->l[j]?=aa y->a y≠id)/\n=k)\/((∀x∈l,a x≠id)/\n=-1)
def Pf.vJ{α}{a:α->Tx}{l id n}(h:Pf a l id n) d:∃b,ak (aU n 0) (aa (d,false,())) (ae (idx l n) λy=>aa (y,true,()))=aa (Go.Ge.vJ a l d id,b,()):=by
 rcases h with ⟨k,x,c,e,f,rfl⟩|⟨hn,rfl⟩
 .refine⟨true,?_⟩;rw[aC ag,ah,ao c,ab,z7 a c e f]
 .refine⟨false,?_⟩;rw[NX a hn];rfl
def aaa{α f}(a:α->Tx) l (id:Tx) (t:l.length<=1000000)
  (g:∀c i,f ((c,i,()),())=ak (aU i<|len l) (ae (idx l i) λy=>ak (br (a y) id) (aa<|.inr (1,(i,i,()),())) (aa<|.inl ((c,aw .i64 i 1,()),()))) (aa<|.inr (0,(c,i,()),()))) :
  ∃n,ae (Loop f ((0,0,()),())) (λk=>ak (cK k.1 0) (aa ((-1:Int),())) (aa (k.2.1.1,())))=aa (n,())/\Pf a l id n:=by
 rcases eL (f:=f) l (λi=>((0,i,()),())) (λ_ y=>decide (a y=id)) (λi _=>(1,(i,i,()),())) _ ag (λi y b d m=>by
  rw[g,al d,ai,ao b,ab,dt,dw,m];by_cases q:a y=id<;>simp[q]) (by rw[g,aq,ah]) with ⟨i,y,b,o,p,h⟩|⟨hn,h⟩
 .refine⟨i,?_,.inl ⟨i,y,b,fU o,λj z e r=>wM (p j z e r),rfl⟩⟩;rw[h];rfl
 .refine⟨-1,?_,.inr ⟨λx s=>?_,rfl⟩⟩
  .rw[h];rfl
  .obtain⟨i,d⟩:=bq.1 s;exact wM (hn i x d)
def NY(s:aW)(id:Tx)(a:s.2.1.length<=1000000):∃n,wg (s,id,())=aa (n,())/\Pf (λx=>x.1) s.2.1 id n:=aaa _ s.2.1 id a λc i=>rfl
def NZ(s:aW)(id:Tx)(a:s.1.length<=1000000):∃n,wi (s,id,())=aa (n,())/\Pf (λx=>x.1) s.1 id n:=aaa _ s.1 id a λc i=>rfl
def Ip(s:aW)(id:Tx)(a:s.2.1.length<=1000000):∃b,ox (s,id,())=aa (vJ (·.1) s.2.1 Pw id,b,()):=by
 obtain⟨n,h,c⟩:=NY s id a;unfold ox;rw[h];exact c.vJ Pw
def Iq(s:aW)(id:Tx)(a:s.1.length<=1000000):∃b,rC (s,id,())=aa (vJ (·.1) s.1 FQ id,b,()):=by
 obtain⟨n,h,c⟩:=NZ s id a;unfold rC;rw[h];exact c.vJ FQ
def afz{α S f} key l id n (hn:Pf key l id n) (g:l.length<=1000000) (mk:List α->Int->S)
  (hs:∀r (i:Nat) y,l[i]?=aa y->r.length<=1000000->f (mk r i)=aa (.inl<|mk (if i=n then r else r++[y])<|aw .i64 i 1))
  (c:∀r,f (mk r (l.length:Int))=aa (.inr<|mk r (l.length:Int))):Loop f (mk [] 0)=aa (mk (Ik key l id) (l.length:Int)):=by
 obtain⟨k,e,h⟩:∃k,(∀i,i<l.length->(i=n↔i=k))/\Ik key l id=WJ l k l.length:=by
  rcases hn with ⟨k,x,a,c,j,rfl⟩|⟨d,rfl⟩
  .exact⟨k,λi _=>ag,by rw[DA,aN (av a),NN key a c j]⟩
  .exact⟨l.length,λi b=>ag,by rw[DA,aJ ag,zY key d]⟩
 rw[h];have key:=cB (r:=mk (WJ l k l.length) l.length) l.length (λi=>mk _ i) (λi b=>by
  have a:=fX b;rw[hs _ i _ a<|gi Tc g,az ag];by_cases q:i=k
  .rw[aN<|(e i b).2 q];subst q;rw[<-NW]
  .rw[aJ<|λz=>q ((e i b).1 z),NV a q]) (c _)
 exact key
def Wk(s:aW)(id:Tx)(a:s.2.1.length<=1000000):mH (s,id,())=aa ((s.1,(Ik (·.1) s.2.1 id,s.2.2)),()):=by
 obtain⟨n,h,c⟩:=NY s id a;unfold mH;rw[h,ab,afz _ s.2.1 id n c a (λr i=>(((),i,()),r,())) (λr i y b d=>by
  unfold ri;rw[al<|av b,ao b,ab,show fits _=true from aH cJ];by_cases q:i=n
  .rw[au q,aN q];rfl
  .rw[ar q,aJ q];rfl) (λr=>by unfold ri;rw[aq];rfl),ab]
def Wl(s:aW)(id:Tx)(a:s.1.length<=1000000):mI (s,id,())=aa ((Ik (·.1) s.1 id,s.2),()):=by
 obtain⟨n,h,c⟩:=NZ s id a;unfold mI;rw[h,ab,afz _ s.1 id n c a (λr i=>(((),i,()),r,())) (λr i y b d=>by
  unfold rj;rw[al<|av b,ao b,ab,show fits _=true from aH cJ];by_cases q:i=n
  .rw[au q,aN q];rfl
  .rw[ar q,aJ q];rfl) (λr=>by unfold rj;rw[aq];rfl),ab]
def uM{α}(a:α->Tx) l p:(Ik a l p).length<=l.length:=by
 unfold Ik;split
 .apply zX
 .apply bX
def Ir(s:aW)(x:lC)(d:s.2.1.length<=100000):rA (s,x,())=aa ((s.1,(pL (·.1) (Ik (·.1) s.2.1 x.1) x,s.2.2)),()):=by
 have b:=uM (λy=>y.1) s.2.1 x.1;unfold rA;rw[Wk s x.1 ag,ab];generalize Ik _ s.2.1 x.1=l at b;have c:=lF (λy=>y.1) l x.1;have h:=mm (f:=sJ (s,x,()) ((s.1,l,s.2.2),())) _ l x.1 ag (λi=>((i,()),())) _ _ (λi y a=>by
  have hi:=av a;unfold sJ;rw[al hi,ao a,ab,az ag];cases fM y.1 x.1<;>rfl) (by unfold sJ;rw[aq];rfl)
 have e:(if di (λy=>y.1) l x.1<l.length then((((di (λy=>y.1) l x.1:Nat):Int),()),()) else((l.length,()),()))=((((di (λy=>y.1) l x.1:Nat):Int),()),()):=by
  split
  .rfl
  .rw[show di _ l x.1=l.length by omega]
 rw[h,e,K9];exact ajx l _ x c ag (λm=>aa ((s.1,m,s.2.2),()))
def Is(s:aW)(x:AL)(d:s.1.length<=100000):rB (s,x,())=aa ((pL (·.1) (Ik (·.1) s.1 x.1) x,s.2),()):=by
 have b:=uM (λy=>y.1) s.1 x.1;unfold rB;rw[Wl s x.1 ag,ab];generalize Ik _ s.1 x.1=l at b;have c:=lF (λy=>y.1) l x.1;have h:=mm (f:=sN (s,x,()) ((l,s.2),())) _ l x.1 ag (λi=>((i,()),())) _ _ (λi y a=>by
  have hi:=av a;unfold sN;rw[al hi,ao a,ab,az ag];cases fM y.1 x.1<;>rfl) (by unfold sN;rw[aq];rfl)
 have e:(if di (λy=>y.1) l x.1<l.length then((((di (λy=>y.1) l x.1:Nat):Int),()),()) else((l.length,()),()))=((((di (λy=>y.1) l x.1:Nat):Int),()),()):=by
  split
  .rfl
  .rw[show di _ l x.1=l.length by omega]
 rw[h,e,K9];exact ajx l _ x c ag (λm=>aa ((m,s.2),()))
def zA:nR:=(0,[],0,[],())
def zS:aW:=([],[],[],[],[],())
def z8{s}(h:qf s)(e:Tx){given}(o:pK given)(a:Tx) d (A:a.length<=100000):ou (s,e,given,a,d,())=aa (crS s e given a d):=by
 have L:=h.ll;have M:=K8 h;unfold ou crS;rw[oy given o.small (λx B=>by have:=o.2 x B;omega),ab];dsimp only;by_cases r:eT given=0
 rotate_left
 .rw[aN r,ar r];rfl
 rw[aJ<|λq=>q r,au r];have C:(ak (nt<|br a []) (ae (mW (a,())) λN=>aa (nt<|aG N.1 0))<|some false)=aa (decide<|¬a=[]/\¬((Ju a).2=0/\jf (Ju a).1=true)):=by
  by_cases q:a=[]
  .rw[ck q,aV,ah,cm λk=>k.1 q]
  .rw[aY q,aI,ai,CH];by_cases k:(Ju a).2=0/\jf (Ju a).1=true
   .rw[aN k,cm λz=>z.2 k];rfl
   .rw[aJ k,dn ⟨q,k⟩];rfl
 rw[C,ab];by_cases t:a≠[]/\¬CJ a
 .rw[aN t,dn (show ¬a=[]/\¬((Ju a).2=0/\jf (Ju a).1=true) from t)];rfl
 rw[aJ t,cm (show ¬(¬a=[]/\¬((Ju a).2=0/\jf (Ju a).1=true)) from t)];by_cases n:e≠[]/\(aR (iA s) e).2.1≠0
 .rw[aN n,aY n.1,fF s e h,ab,ar n.2];rfl
 rw[aJ n];have E:(ak (nt<|br e []) (ae (eP (s,e,())) λF=>ak (nt<|aG F.2.1 0) (ae (bR (F.2.1,())) λO=>aa (1,(([]),()),O.1,s,())) (aa (0,(F.1,()),zA,zS,())))
   (aa (0,(([]),()),zA,zS,())))=aa (0,(jB s e,()),zA,zS,()):=by
  unfold jB;by_cases q:e=[]
  .rw[ck q,aV,ah,aN q]
  .rw[aY q,fF s e h,ab,au (BB λk=>n ⟨q,k⟩),aJ q];rfl
 refine ob E ?_;rw[ Km s h,ab];rw[wq _ [] given (Dq h) o.small (λx B=>by have:=o.2 x B;omega),ab];by_cases c3:pD (iA s) [] given=0
 rotate_left
 .rw[aN c3,ar c3];rfl
 rw[aJ<|λq=>q c3,au c3,ab];dsimp only;rw[AV _ _ ag,ab];by_cases u:(dE (iA s) d).2.1=0
 rotate_left
 .rw[aN u,ar u];rfl
 rw[aJ<|λq=>q u,au u];generalize jB s e=p;generalize (dE _ d).1=id;have i:cw 16 (len (dB s.2.2.1 p).1)=decide (16<=(dB s.2.2.1 p).1.length):=by unfold len;apply gO.2;omega
 by_cases j:p≠[]/\(dB s.2.2.1 p).2=0/\16<=(dB s.2.2.1 p).1.length
 .rw[aN j,aY j.1,Dn _ _ ag,ab];dsimp only;rw[au j.2.1,i,dn j.2.2];rfl
 rw[aJ j];by_cases g:a≠[]/\(Bn s p).2≠0
 .have q:=λq=>g.2 (by unfold Bn;rw[aN q]);have v:Bn s p=mN s.2.2.1 s.2.2.2.1 p:=by unfold Bn;rw[aJ q]
  have G:ak (ak (aG (dB s.2.2.1 p).2 0) (cw 16<|len (dB s.2.2.1 p).1) false)=λ(x y:Option (Nat×(List Nd×aj)×nR×aW×aj))=>y:=by
   by_cases l:(dB s.2.2.1 p).2=0
   .rw[au l,i,cm λk=>j ⟨q,l,k⟩];rfl
   .rw[ar l];rfl
  rw[aN g,aY q,Dn _ _ ag,ab];rw[show ak (ak _ _ false)=_ from G,aY g.1,A5 s p ag,ab];rw[v] at g⊢;rw[ar g.2];rfl
 rw[aJ g];have H:∀(f:Nat×_×nR×aW×aj->Option (aW×nR×aj)),
   ae (ak (nt<|br p []) (ae (mY (s.2.2.1,_)) λK=>ak (ak (aG K.2.1 0) (cw 16<|len K.1) false) (ae (bR (5,())) λc=>aa (1,(([]),()),c.1,s,()))
    (ae (ak (nt<|br a []) (ae (l9 _) λc=>ak (nt<|aG c.2.1 0) (ae (bR (c.2.1,())) λm=>aa (1,(([]),()),m.1,s,())) (aa (0,(c.1,()),zA,_)))<|some (0,(([]),()),zA,zS,())) λc =>
     ak (cK c.1 0) (aa (0,(c.2.1.1,()),c.2.2.1,c.2.2.2.1,())) (aa (1,(c.2.1.1,()),c.2.2.1,c.2.2.2.1,()))))<|some (0,_)) f =
   f (0,((if a=[] then [] else(Bn s p).1),()),zA,_):=λf=>by
  by_cases q:p=[]
  .rw[ck q,aV,ah,ab,show(if a=[] then [] else(Bn s p).1)=[] by unfold Bn;split<;>rfl]
  .have v:Bn s p=mN s.2.2.1 s.2.2.2.1 p:=by unfold Bn;rw[aJ q]
   have G:ak (ak (aG (dB s.2.2.1 p).2 0) (cw 16<|len (dB s.2.2.1 p).1) false)=λ(x y:Option (Nat×(List Nd×aj)×nR×aW×aj))=>y:=by
    by_cases l:(dB s.2.2.1 p).2=0
    .rw[au l,i,cm λk=>j ⟨q,l,k⟩];rfl
    .rw[ar l];rfl
   rw[aY q,Dn _ _ ag,ab];rw[show ak _=_ from G];by_cases b:a=[]
   .rw[ck b,aN b];rfl
   .rw[aY b,A5 s p ag,aJ b,v,ab,au (BB λk=>g ⟨b,by rw[v];exact k⟩)];rfl
 refine(H _).trans ?_;rw[cV,ai];have fin:∀D,D.length<=100000->ae (tF _) (λm=>ae (sB (s,(id,p,given,m.1,len D,0,true,()),_)) λI=>aa (I.1,((0:Int),id,(0:Int),([]:Tx),()),())) =
   aa (Jv s (id,p,given,_) D,_):=λD P=>by
  rw[Qm D ag,ab];exact ob (S4 s _ D ag) rfl
 by_cases b:a=[]
 .rw[aJ<|show ¬(a≠[]/\(mj (Bn s p).1 a).2≠0) from λk=>k.1 b,ck b,ai,NI,ab,ab];rw[cV,ai,show Wd id p given a=(id,p,given,_) by unfold Wd NK;rw[aN b],show NK a=WI 1024 by unfold NK;rw[aN b]];exact fin _ (by rw[E1];decide)
 .have J:(Bn s p).2=0:=BB λk=>g ⟨b,k⟩;rw[aY b,ah,aJ b,NC (Du J) a,ab];by_cases w:(mj (Bn s p).1 a).2=0
  .rw[au w,aV,ah,ab,aJ λk=>k.2 w];rw[ show Wd id p given a=(id,p,given,_) by unfold Wd NK;rw[aJ b],show NK a=a by unfold NK;rw[aJ b]];exact fin a A
  .rw[ar w,aN ⟨b,w⟩];rfl
def Bs s (h:qf s):ng (s,())=aa (x7 s,()):=by
 unfold ng;rw[xy 2 _ h.ajr];rfl
def Bt s (h:qf s):nh (s,())=aa (Dp s,()):=by
 unfold nh;rw[xy 1 _ h.ajs];rfl
def xR s (ref:Tx) (h:qf s):sL (s,ref,())=aa (aR (x7 s) ref):=by
 refine ob (Bs s h) ?_;exact ob (oD (x7 s) ref (Dr h) (by have:=S1 h;omega)) rfl
def N0 s (ref:Tx) (h:qf s):AF (s,ref,())=aa (aR (Dp s) ref):=by
 refine ob (Bt s h) ?_;exact ob (oD (Dp s) ref (Dv h) (by have:=La h;omega)) rfl
def Q0 s id:Bq s id=(vJ (·.1) s.2.1 Pw id).2.2.1:=by
 unfold Bq vJ;cases s.2.1.find? _<;>rfl
def Wm s id:YD s id=(vJ (·.1) s.1 FQ id).2.2.2.1:=by
 unfold YD vJ;cases s.1.find? _<;>rfl
def Bu{s}(h:qf s) k:uG (s,k,())=aa (wK s k,()):=ob (xy k _ h.ajv) rfl
def N1{k l}:k∈Ps k l↔k∈l:=by
 unfold Ps;by_cases q:k∈l
 .simp
 .simp
def acb{e:Type}{a:e->Tx}{l:List e}{id}{i k:Nat}{x y}(f:l[i]?=aa x)(g:a x=id)(h:∀j z,j<i->l[j]?=aa z->a z≠id)(b:l[k]?=aa y)(c:a y=id)(d:∀j z,j<k->l[j]?=aa z->a z≠id):x=y:=by
 rcases Ll i k with q|q|q
 .exact absurd g (d i x q f)
 .subst q;rw[f] at b;exact aF b
 .exact absurd c (h k y q b)
def lH(s:aW)(id:Tx)(C:s.2.2.2.2.1.length<=1000000):dh (s,id,())=aa (tV s id,())/\fw (s,id,())=aa (tV s id,()):=by
 have g:(∃(k:Nat) (x:xE),s.2.2.2.2.1[k]?=aa x/\x.1=id/\(∀j y,j<k->s.2.2.2.2.1[j]?=aa y->y.1≠id)/\dh (s,id,())=aa (x.2.1,()))\/((∀x∈s.2.2.2.2.1,x.1≠id)/\dh (s,id,())=aa (0,())):=by
  unfold dh;rcases eL (f:=fu (s,_)) s.2.2.2.2.1 (λi=>((0,i,()),(),id,())) (λ_ y=>decide (y.1=id)) (λi _=>(1,(i,i,()),(),id,())) _ ag (λi y a b p=>by
   unfold fu qF;rw[al b,ai,ao a,ab,ab,dt,dw,p];by_cases q:y.1=id<;>simp[q]) (by unfold fu;rw[aq,ah]) with ⟨i,y,a,g,r,h⟩|⟨hn,h⟩
  .refine .inl ⟨i,y,a,fU g,λj z c t=>wM (r j z c t),?_⟩;rw[h,ab];dsimp only;rw[show cK 1 0=false from rfl,ah,aC ag,ah,ao a,ab]
  .refine .inr ⟨λx d=>?_,?_⟩
   .obtain⟨i,b⟩:=bq.1 d;exact wM (hn i x b)
   .rw[h,ab];rfl
 have v:(∃(k:Nat) (x:xE),s.2.2.2.2.1[k]?=aa x/\x.1=id/\(∀j y,j<k->s.2.2.2.2.1[j]?=aa y->y.1≠id)/\fw (s,id,())=aa (x.2.1,()))\/((∀x∈s.2.2.2.2.1,x.1≠id)/\fw (s,id,())=aa (0,())):=by
  unfold fw;rcases eL (f:=nI (s,id,())) s.2.2.2.2.1 (λi=>((0,i,()),())) (λ_ y=>decide (y.1=id)) (λi y=>(1,(y.2.1,i,()),())) _ ag (λi y a b p=>by
   unfold nI;rw[al b,ai,ao a,ab,dt,dw,ab,p];by_cases q:y.1=id<;>simp[q]) (by unfold nI;rw[aq,ah]) with ⟨i,y,a,g,r,h⟩|⟨hn,h⟩
  .refine .inl ⟨i,y,a,fU g,λj z c t=>wM (r j z c t),?_⟩;rw[h];rfl
  .refine .inr ⟨λx d=>?_,?_⟩
   .obtain⟨i,b⟩:=bq.1 d;exact wM (hn i x b)
   .rw[h];rfl
 have e:∀n,dh _=aa (n,())->tV s id=n:=λn h=>by unfold tV;rw[h]
 rcases g with ⟨k,x,d,o,w,l⟩|⟨o,l⟩
 .rcases v with ⟨A,y,a,m,B,u⟩|⟨m,_⟩
  .obtain rfl:=acb d o w a m B;rw[e _ l];exact⟨l,u⟩
  .exact absurd o (m x<|dW d)
 .rcases v with ⟨A,y,a,m,_⟩|⟨_,u⟩
  .exact absurd m (o y<|dW a)
  .rw[e _ l];exact⟨l,u⟩
def ctA(s:aW)(a:Tx)(d:Int):aW×nR×aj :=
 if(aR (iA s) a).2.1≠0 then(s,js (aR (iA s) a).2.1,()) else
 if 0<d/\1000<=tV s (aR (iA s) a).1 then(s,js 5,()) else
 if d<0/\tV s (aR (iA s) a).1<1 then(s,js 11,()) else
 (S5 s (aR (iA s) a).1<|aw .i64 (tV s (aR (iA s) a).1) d,(0,(aR (iA s) a).1,aw .i64 (tV s (aR (iA s) a).1) d,[],()),())
def JC{s}(h:qf s)(e:s.2.2.2.2.1.length<=50000)(a:Tx) d:pj (s,a,d,())=aa (ctA s a d):=by
 obtain⟨f,_⟩:=lH s (aR _ a).1 ag;unfold ctA;refine ob (jQ s a h) ?_;by_cases c:(aR (iA s) a).2.1=0
 rotate_left
 .rw[ar c,aN c];rfl
 rw[au c,aJ λq=>q c];refine ob f ?_;have g:ak (aU 0 d) (cw 1000<|tV s (aR (iA s) a).1) false=decide (0<d/\1000<=tV s (aR (iA s) a).1):=by
  rw[ qS];exact(Bool.decide_and _ _).symm
 have i:ak (aU d 0) (aU (tV s (aR (iA s) a).1) 1) false=decide (d<0/\tV s (aR (iA s) a).1<1):=by
  rw[ qS];exact(Bool.decide_and _ _).symm
 rw[g,i];by_cases q:0<d/\1000<=tV s (aR (iA s) a).1
 .rw[dn q,aN q];rfl
 rw[cm q,aJ q];by_cases b:d<0/\tV s (aR (iA s) a).1<1
 .rw[dn b,aN b];rfl
 rw[cm b,aJ b];exact ob (CM s _ _ ag) rfl
def Kp{s}(h:qf s)(b:s.2.2.2.2.1.length<=50000)(a:Tx):yZ (s,a,())=aa (ctA s a 1):=by
 obtain⟨_,d⟩:=lH s (aR _ a).1 ag;unfold ctA;refine ob (fF s a h) ?_;by_cases c:(aR (iA s) a).2.1=0
 rotate_left
 .rw[ar c,aN c];rfl
 rw[au c,aJ λq=>q c];refine ob d ?_;by_cases q:1000<=tV s (aR (iA s) a).1
 .rw[bA q,aN ⟨aD,q⟩];rfl
 rw[cR ag,aJ λk=>q k.2];exact ob (uL s _ _ ag) rfl
def G5{s}(h:qf s)(b:s.2.2.2.2.1.length<=50000)(a:Tx):vt (s,a,())=aa (ctA s a<|-1):=by
 obtain⟨_,d⟩:=lH s (aR _ a).1 ag;unfold ctA;refine ob (fF s a h) ?_;by_cases c:(aR (iA s) a).2.1=0
 rotate_left
 .rw[ar c,aN c];rfl
 rw[au c,aJ λq=>q c];refine ob d ?_;rw[aJ λk=>absurd k.1 aD];by_cases q:tV s (aR (iA s) a).1<1
 .rw[aT q,aN ⟨aD,q⟩];rfl
 rw[aC ag,aJ (λk=>q k.2),show ∀n,cH .i64 n 1=aw .i64 n (-1) from λn=>by unfold cH aw;rw[Int.sub_eq_add_neg]];exact ob (uL s _ _ ag) rfl
def acd(s:aW)(a:Tx):aW×nR×aj :=
 if(aR (x7 s) a).2.1≠0 then(s,js (aR (x7 s) a).2.1,()) else
 if ∃x∈s.1,x.2.2.1=(aR (x7 s) a).1 then(s,js 7,()) else
 ((s.1,(Ik (·.1) s.2.1 (aR (x7 s) a).1,s.2.2)),Ed (aR (x7 s) a).1,())
def Iu{s}(h:qf s)(a:Tx):sM (s,a,())=aa (acd s a):=by
 have k:=h.il;have l:=h.bl;unfold sM acd;rw[xR s a h,ab];by_cases b:(aR (x7 s) a).2.1=0
 rotate_left
 .rw[aN b,ar b];rfl
 rw[aJ<|λq=>q b,au b];generalize p:aR _ a=j;rcases eL (f:=nJ (s,_) j) s.1 (λi=>((i,()),zA,zS,())) (λ_ y=>decide _) _ _ ag (λi y c d m=>by
  unfold nJ;rw[al d,ai,ao c,ab,dt,dw,m];by_cases q:y.2.2.1=j.1
  .rw[dn q];rfl
  .rw[cm q,aJ aD,aJ aD]) (by unfold nJ;rw[aq,ah]) with ⟨i,y,c,n,_,g⟩|⟨hn,g⟩
 .refine ob g ?_;rw[aN ⟨y,dW c,fU n⟩];rfl
 .refine ob g ?_;rw[aJ (by
   rintro⟨x,o,e⟩;obtain⟨i,d⟩:=bq.1 o;exact wM (hn i x d) e)]
  rw[ Wk s _ ag];rfl
def G6 s (ref:Tx) (h:qf s):qy (s,ref,())=aa (acd s ref):=by
 have m:=h.il;have n:=h.bl;unfold qy acd;dsimp only;rw[Bm s ref h,ab];by_cases d:(aR (x7 s) ref).2.1=0
 rotate_left
 .rw[aN d,ar d];rfl
 rw[aJ<|λq=>q d,au d];generalize (aR _ ref).1=id;rcases eL (f:=l6 (s,_)) s.1 (λi=>((0,i,()),id,())) (λ_ y=>decide (y.2.2.1=id)) (λi _=>(1,(i,i,()),id,())) _ ag (λi y a b e=>by
  unfold l6;rw[al b,ai,ao a,ab,dt,dw,e];by_cases q:y.2.2.1=id<;>simp[q]) (by unfold l6;rw[aq];rfl) with ⟨i,y,a,g,_,c⟩|⟨hn,c⟩
 .rw[c,aN ⟨y,dW a,fU g⟩];rfl
 .rw[c,ab,aJ (by
   rintro⟨y,a,k⟩;obtain⟨i,b⟩:=bq.1 a;have:=hn i y b;simp[k] at this)]
  rw[ cY ag];rcases eL (f:=l7 (s,_)) s.2.1 (λi=>((0,i,()),(),id,())) (λ_ y=>decide (y.1=id)) (λi _=>(1,(i,i,()),(),id,())) _ ag (λi y a b e=>by
   unfold l7 dO;rw[al b,ai,ao a,ab,ab,dt,dw,e];by_cases q:y.1=id<;>simp[q]) (by unfold l7;rw[aq];rfl) with ⟨i,y,a,g,o,c⟩|⟨hn,c⟩
  .rw[c,ab,NN _ a (fU g) λj z l p=>wM (o j z l p)];unfold bp;rw[Ds s.2.1 i (av a) ag];rfl
  .rw[c];rw[ zY _ λx r k=>by
    obtain⟨i,b⟩:=bq.1 r;have:=hn i x b;simp[k] at this]
   rfl
def xS s (id:Tx) (h:qf s):∃b,pd (s,id,())=aa (vJ (·.1) s.2.1 Pw id,b,()):=by
 unfold pd;rcases eL (f:=qz (s,id,())) s.2.1 (λi=>((false,i,()),(([]),_),())) (λ_ y=>decide _) _ _ (by have:=h.il;omega) (λi y a c k=>by
  have g:=dW a;unfold qz;rw[al c,ao a,ab,dt,k];by_cases q:y.1=id
  .rw[dn q,rL _ (h.rQ y g).small,rM _ (by have:=(h.it y g).1;omega)];rfl
  .rw[cm q];rfl) (by unfold qz;rw[aq];rfl) with ⟨i,y,a,l,m,d⟩|⟨hn,d⟩
 .rw[d,z7 _ a (fU l) λj z e n=>wM (m j z e n)];exact⟨true,rfl⟩
 .rw[d,NX _ λx o=>by
   obtain⟨i,c⟩:=bq.1 o;exact wM (hn i x c)]
  exact⟨false,rfl⟩
def za s (id:Tx) (h:qf s) (c:∀x∈s.1,xF x.2.2.2.2.2.1):∃b,rz (s,id,())=aa (vJ (·.1) s.1 FQ id,b,()):=by
 have l:=h.bl;unfold rz;rcases eL (f:=sF (s,_)) s.1 (λi=>((0,i,()),id,())) (λ_ y=>decide (y.1=id)) (λi _=>(1,(i,i,()),id,())) _ ag (λi y a d m=>by
  unfold sF;rw[al d,ai,ao a,ab,dt,dw,m];by_cases q:y.1=id<;>simp[q]) (by unfold sF;rw[aq,ah]) with ⟨i,y,a,n,o,e⟩|⟨hn,e⟩
 .have k:=dW a;rw[e,ab,z7 _ a (fU n) λj z g p=>wM (o j z g p)];rw[ ao a,ab,rL _ (h.bn y k).small,rM _ (by have:=(c y k).1;omega)];exact⟨true,rfl⟩
 .rw[e,NX _ λx r=>by
   obtain⟨i,d⟩:=bq.1 r;exact wM (hn i x d)]
  exact⟨false,rfl⟩
def ace(s:aW)(a:Tx):aW×nR×aj :=
 if(aR (Dp s) a).2.1≠0 then(s,js (aR (Dp s) a).2.1,()) else
 if 0<tV s (YD s (aR (Dp s) a).1)\/Ee (Ik (·.1) s.1 (aR (Dp s) a).1,s.2) (YD s (aR (Dp s) a).1)=true then(s,js 7,()) else
 (Wf (Ik (·.1) s.1 (aR (Dp s) a).1,s.2)<|YD s (aR (Dp s) a).1,Ed (aR (Dp s) a).1,())
def Iw{s}(d:qf s)(l:∀x∈s.1,xF x.2.2.2.2.2.1)(p:s.2.2.2.2.1.length<=50000)(a:Tx):sG (s,a,())=aa (ace s a):=by
 have r:=d.bl;have t:=d.il;have u:=d.ll;unfold sG ace;dsimp only;rw[NM s a d,ab];by_cases e:(aR (Dp s) a).2.1=0
 rotate_left
 .rw[aN e,ar e];rfl
 rw[aJ<|λq=>q e,au e,aV,ah];obtain⟨y,c,g⟩:=QQ e;obtain⟨x,v,rfl⟩:=S6 c;have g:x.1=(aR _ a).1:=g;generalize (aR _ a).1=id at g;obtain⟨b,w⟩:=za s id d l;rw[w,ab,cY ag,ai];rw[<-Wm];generalize YD s id=h;rcases eL (f:=nG (s,_)) s.1 (λi=>((0,i,()),id,())) (λ_ y=>decide (y.1=id)) (λi _=>(1,(i,i,()),id,())) _ ag (λi y c m A=>by
  unfold nG;dsimp only;rw[al m,ai,aE ag ef,ai,ao c,ab,dt,dw,A];by_cases q:y.1=id<;>simp[q]) (by unfold nG;rw[aq,ah]) with ⟨j,y,c,B,C,D⟩|⟨n,_⟩
 rotate_left
 .obtain⟨i,m⟩:=bq.1 v;have:=n i x m;simp[g] at this
 rw[D,ab];dsimp only;rw[show cK 1 0=false from rfl,ah,bA ag,ai];unfold du;rw[Ds s.1 j (av c) ag,<-NN (λz=>z.1) c (fU B) (λi z o E=>wM (C i z o E)),ab,ab];rw[(lH s h ag).1,ab];have F:=uM (λz=>z.1) s.1 id;by_cases q:0<tV s h
 .rw[aT q,aN (.inl q)];rfl
 .rw[aC ag,aI,ai,Wb _ _ xZ xZ xZ,ab,ab];cases G:Ee _ h with
  | true =>
    rw[aN<|.inr rfl];rfl
  | false =>
    rw[aJ<|by rintro(k|k);exact q k;cases k];exact ob (Ei _ h xZ ag) rfl
def Ix{s}(h:qf s)(e:s.2.2.2.2.1.length<=50000)(a:Tx):sP (s,a,())=aa (ace s a):=by
 have f:=h.bl;have g:=h.il;have i:=h.ll;unfold sP ace;rw[N0 s a h,ab];by_cases c:(aR (Dp s) a).2.1=0
 rotate_left
 .rw[aN c,ar c];rfl
 rw[aJ<|λq=>q c,au c];generalize (aR _ a).1=id;have j:=uM (λz=>z.1) s.1 id;obtain⟨b,l⟩:=Iq s id ag;rw[l,ab,Wl s id ag,ab];rw[<-Wm,(lH s _ ag).2,ab];generalize YD s id=d;by_cases q:0<tV s d
 .rw[aT q,aN (.inl q)];rfl
 .rw[aC ag,aI,ai,G3 _ d xZ xZ xZ,ab,ab];cases m:Ee _ d with
  | true =>
    rw[aN<|.inr rfl];rfl
  | false =>
    rw[aJ<|by rintro(k|k);exact q k;cases k];exact ob (Br _ d xZ ag) rfl
def Iy s (image:Tx) (given:List Tx) (a:Tx) d (h:qf s) (l:given.length<=4294967296) :
  sE (s,image,given,a,d,())=aa (crB s image given a d):=by
 have v:=h.bl;unfold sE crB;have m:aU 64 (@len UInt8 a)=decide (64<a.length):=by unfold len;apply gO.2;omega
 rw[vb given l,ab,m];by_cases e:eT given=0
 rotate_left
 .rw[aN<|.inl e,ar e];rfl
 by_cases i:64<a.length
 .rw[aN<|.inr i,au e,dn i];rfl
 rw[aJ<|by rintro(q|q);exact q e;exact i q,au e,cm i,aV,aI,dt];have n:(ak (nt<|decide<|image=[]) (ae (mX (s,image,())) λt=>aa ((t.2.1,()),(([]:Tx),given,t.1,([]:Tx),a,([]:List Item),()),()))<|some ((0,()),(([]),given,([]),([]),a,([]),()),())) =
   aa (((if image=[] then 0 else(aR (x7 s) image).2.1),()),(([]),given,E9 s image,([]),a,([]),()),()):=by
  unfold E9;by_cases q:image=[]
  .rw[dn q,aV,ah,aN q,aN q]
  .rw[cm q,aI,ai,Bm s image h,ab,aJ q,aJ q]
 rw[show _=_ from n,ab];have c:(image≠[]/\(aR (x7 s) image).2.1≠0)↔¬((if image=[] then 0 else(aR (x7 s) image).2.1)=0):=by
  by_cases q:image=[]
  .simp
  .simp
 by_cases c3:(if image=[] then 0 else(aR (x7 s) image).2.1)=0
 rotate_left
 .rw[aN<|c.2 c3];simp only[ ah,ab,ar c3];rw[(λq=>aJ q.1)<|c.2 c3];rfl
 rw[aJ<|λq=>c.1 q c3,au c3];simp only[ai];rw[Bp s h,ab,sW _ [] given (Dv h) l,ab,ab];by_cases j:pD (Dp s) [] given=0
 rotate_left
 .rw[aN j];simp only[ ah,ab,ar j];rfl
 rw[aJ<|λq=>q j,au j];simp only[ai,ab];rw[show gP i64 d 16777215=We d from rfl,H8,ab,ab];by_cases f:(dE (Dp s)<|We d).2.1=0
 rotate_left
 .rw[aN f,ar f];rfl
 rw[aJ<|λq=>q f,au f];simp only[aV,ah];obtain⟨w,o⟩:=xS s _ h;rw[o,ab];have g:((((((ak (decide<|image=[]) (((),(([]),([]),([]),([]),([]),()),()):aj×lC×aj) ((),(vJ (·.1) s.2.1 Pw<|E9 s image,()))).2).1).2).2).1)=(if image=[] then [] else Bq s (E9 s image)):=by
  by_cases q:image=[]
  .rw[dn q,ai,aN q]
  .rw[cm q,ah,aJ q];rw[Q0]
 rw[show _=_ from g];rw[show gP i64 _ 16777215=Eg d from rfl,Kn s _ _ h,ab];have b:=QW s (if image=[] then [] else Bq s (E9 s image)) [] (Eg d);generalize crG s _ [] _=r at b;by_cases k:r.2.1.1=0
 rotate_left
 .rw[aN k,ar k];rfl
 rw[aJ<|λq=>q k,au k,aV,ah];obtain⟨_,_,p⟩:=Cr f;rw[Ef r.1 _ (by rw[b];omega) l aS<|λy u=>by rw[b] at u;exact p _ (Z7 u),ab,b]
def Iz{s}(h:qf s)(a:Tx){given}(g:pK given)(i:Tx) d:sK (s,a,given,i,d,())=aa (crI s a given i d):=by
 have m:=h.il;have n:=S1 h;unfold sK crI;rw[oy given g.small (λx b=>by have:=g.2 x b;omega),ab];dsimp only;rw[show aU 64 _=decide (64<i.length) by unfold len;apply gO.2;omega];by_cases c:eT given≠0\/64<i.length
 .rw[aN c];by_cases q:eT given=0
  .rw[au q,dn (c.resolve_left λk=>k q)];rfl
  .rw[ar q];rfl
 rw[aJ c,au (BB λk=>c (.inl k)),cm λk=>c (.inr k)];by_cases e:a≠[]/\(aR (iA s) a).2.1≠0
 .rw[aN e,aY e.1,fF s a h,ab,ar e.2];rfl
 rw[aJ e];have j:(ak (nt<|br a []) (ae (eP (s,a,())) λl=>ak (nt<|aG l.2.1 0) (ae (iz (l.2.1,())) λo=>aa (1,(([]),()),o.1,s,())) (aa (0,(l.1,()),zA,zS,())))
   (aa (0,(([]),()),zA,zS,())))=aa (0,((if a=[] then [] else(aR (iA s) a).1),()),zA,zS,()):=by
  by_cases q:a=[]
  .rw[ck q,aV,ah,aN q]
  .rw[aY q,fF s a h,ab,au (BB λk=>e ⟨q,k⟩),aJ q];rfl
 refine ob j ?_;generalize (if a=[] then [] else(aR _ a).1)=p;rw[ Bs s h,ab];rw[wq _ [] given (Dr h) g.small (λx b=>by have:=g.2 x b;omega),ab];by_cases c3:pD (x7 s) [] given=0
 rotate_left
 .rw[aN c3,ar c3];rfl
 rw[aJ<|λq=>q c3,au c3,ab];dsimp only;rw[AV _ _ ag,ab];by_cases f:(dE (x7 s) d).2.1=0
 rotate_left
 .rw[aN f,ar f];rfl
 obtain⟨_,_,r⟩:=Cr f;rw[aJ<|λq=>q f,au f,Ir s _ ag];rw[zY _ λx b=>r _ (Z4 b)];rfl
def IA{s}(h:qf s)(a:Tx){given}(j:pK given)(l:Tx) d:sO (s,a,given,l,d,())=aa (crB s a given l d):=by
 have t:=h.il;have u:=h.bl;have v:=La h;unfold sO crB;rw[oy given j.small (λx e=>by have:=j.2 x e;omega),ab];dsimp only;rw[show aU 64 _=decide (64<l.length) by unfold len;apply gO.2;omega];by_cases f:eT given≠0\/64<l.length
 .rw[aN f];by_cases q:eT given=0
  .rw[au q,dn (f.resolve_left λk=>k q)];rfl
  .rw[ar q];rfl
 rw[aJ f,au (BB λk=>f (.inl k)),cm λk=>f (.inr k)];by_cases g:a≠[]/\(aR (x7 s) a).2.1≠0
 .rw[aN g,aY g.1,xR s a h,ab,ar g.2];rfl
 rw[aJ g];have o:(ak (nt<|br a []) (ae (sL (s,a,())) λm=>ak (nt<|aG m.2.1 0) (ae (gq (m.2.1,())) λp=>aa (1,(([]),([]),()),p.1,s,()))
   (ae (ox (s,m.1,())) λp=>aa (0,(m.1,p.1.2.2.1,()),zA,zS,())))
   (aa (0,(([]),([]),()),zA,zS,())))=aa (0,(E9 s a,(if a=[] then [] else Bq s (E9 s a)),()),zA,zS,()):=by
  unfold E9;by_cases q:a=[]
  .rw[ck q,aV,ah,aN q,aN q]
  .obtain⟨b,w⟩:=Ip s (aR _ a).1 ag;rw[aY q,xR s a h,ab,au (BB λk=>g ⟨q,k⟩),aJ q,aJ q,w,Q0];rfl
 refine ob o ?_;generalize (if a=[] then [] else Bq s _)=top;rw[cV,ai,Bt s h,ab];rw[wq _ [] given (Dv h) j.small (λx e=>by have:=j.2 x e;omega),ab];by_cases c3:pD (Dp s) [] given=0
 rotate_left
 .rw[aN c3,ar c3];rfl
 rw[aJ<|λq=>q c3,au c3,aV,ah,ab];dsimp only;rw[show gP i64 d 16777215=We d from rfl,show gP i64 _ 16777215=Eg d from rfl,AV _ _ ag,ab];by_cases i:(dE (Dp s)<|We d).2.1=0
 rotate_left
 .rw[aN i,ar i];rfl
 obtain⟨_,_,y⟩:=Cr i;have c:=QW s top [] (Eg d);rw[aJ<|λq=>q i,au i,aV,ah,z8 h top G2 [] _ aD,Z8,ab];generalize crG s top [] _=r at c;by_cases n:r.2.1.1=0
 rotate_left
 .rw[aN n,ar n];rfl
 rw[aJ<|λq=>q n,au n,aV,ah,Is r.1 _ (by rw[c];omega),ab];rw[c,zY _ λx e=>y _ (Z7 e)]
def yE{α}(a:α->Tx){l} d {id} (h:∃x∈l,a x=id):a (vJ a l d id)=id/\vJ a l d id∈l:=by
 unfold vJ;cases b:l.find? λx=>decide (a x=id) with
 | none =>
   obtain⟨x,c,e⟩:=h;have:=Tu.1 b x c;simp[e] at this
 | some y=>exact⟨by simpa using Y8 b,TA b⟩
def ais(a:List AL)(id:Tx):Option (List Item)->List AL
 | none=>a
 | some l=>pL (·.1) (Ik (·.1) a id) (id,((vJ (·.1) a FQ id).2.1,((vJ (·.1) a FQ id).2.2.1,((vJ (·.1) a FQ id).2.2.2.1,((vJ (·.1) a FQ id).2.2.2.2.1,l,())))))
def ait(a:List lC)(id:Tx):Option (List Item)->List lC
 | none=>a
 | some l=>pL (·.1) (Ik (·.1) a id) (id,((vJ (·.1) a Pw id).2.1,((vJ (·.1) a Pw id).2.2.1,((vJ (·.1) a Pw id).2.2.2.1,l,()))))
def itA(s:aW)(c:jh):aW×nR×aj :=
 if ¬c.2.1∈lG c then(s,js 1,()) else
 if(aR (wK s c.2.1) c.2.2.1).2.1≠0 then(s,js (aR (wK s c.2.1) c.2.2.1).2.1,()) else
 if c.2.1=1 then((ais s.1 (aR (wK s c.2.1) c.2.2.1).1 (itF (vJ (·.1) s.1 FQ (aR (wK s c.2.1) c.2.2.1).1).2.2.2.2.2.1 c (aR (wK s c.2.1) c.2.2.1).1).1,s.2),((itF (vJ (·.1) s.1 FQ (aR (wK s c.2.1) c.2.2.1).1).2.2.2.2.2.1 c (aR (wK s c.2.1) c.2.2.1).1).2,()))
 else((s.1,(ait s.2.1 (aR (wK s c.2.1) c.2.2.1).1 (itF (vJ (·.1) s.2.1 Pw (aR (wK s c.2.1) c.2.2.1).1).2.2.2.2.1 c (aR (wK s c.2.1) c.2.2.1).1).1,s.2.2)),((itF (vJ (·.1) s.2.1 Pw (aR (wK s c.2.1) c.2.2.1).1).2.2.2.2.1 c (aR (wK s c.2.1) c.2.2.1).1).2,()))
def afA{s}(h:qf s)(g:∀x∈s.1,xF x.2.2.2.2.2.1)(c:jh)(o:c.1=9\/c.1=10)(n:c.2.2.2.2.2.1.length<=1048576):AB (s,c,())=aa (itA s c):=by
 have p:=h.bl;have r:=h.il;unfold itA;refine ob (QV c) (ob (A7 (lG c) c.2.1 (by have:=NJ c;omega)) ?_);dsimp only;by_cases m:c.2.1∈lG c
 rotate_left
 .rw[cm m,aN m];rfl
 rw[dn m,aJ λq=>q m];refine ob (Jy h _) (ob (mM (wK s c.2.1) c.2.2.1 (Dz h _) (by have:=Dy h c.2.1;omega)) ?_);by_cases i:(aR (wK s c.2.1) c.2.2.1).2.1=0
 rotate_left
 .rw[ar i,aN i];rfl
 rw[au i,aJ λq=>q i];have b:=zZ i;generalize (aR _ c.2.2.1).1=id at b;rcases NR o m with k|k
 .obtain⟨j,d⟩:=yE (λz=>z.1) FQ (show ∃x∈s.1,x.1=id by
   rcases b with ⟨_,q⟩|⟨q,_⟩|⟨q,_⟩
   .exact q
   .omega
   .omega)
  rw[aN k,au k];obtain⟨t,f⟩:=za s id h g;refine ob f ?_;unfold ais;generalize vJ _ s.1 FQ id=x at j d;have u:=(g x d).1;unfold itF;by_cases a:c.1=10
  .rw[aN a,au a,ai];refine ob (Jo _ _ xZ) ?_;dsimp only;by_cases e:(E0 x.2.2.2.2.2.1 c.2.2.2.2.2.2.1).2=0
   .rw[aJ<|λq=>q e,au e,aV,ah]
   .rw[aN e,ar e,aI,ai];rfl
  .rw[aJ a,ar a,ah];refine ob (Jp _ _ _ xZ n) ?_;dsimp only;by_cases e:(nq x.2.2.2.2.2.1 c.2.2.2.2.2.2.1 c.2.2.2.2.2.1).2=0
   .rw[aJ<|λq=>q e,au e,aV,ah];have l:=NQ x.2.2.2.2.2.1 c.2.2.2.2.2.2.1 c.2.2.2.2.2.1;refine ob (Eh s _ ag (by dsimp only;exact(h.bn x d).small) xZ) ?_;dsimp only;rw[j];rfl
   .rw[aN e,ar e,aI,ai];rfl
 .obtain⟨j,d⟩:=yE _ Pw (show ∃x∈s.2.1,x.1=id by
   rcases b with ⟨q,_⟩|⟨_,q⟩|⟨q,_⟩
   .omega
   .exact q
   .omega)
  rw[aJ ag,ar ag];obtain⟨t,f⟩:=xS s id h;refine ob f ?_;unfold ait;generalize vJ _ s.2.1 Pw id=x at j d;have u:=(h.it x d).1;unfold itF;by_cases a:c.1=10
  .rw[aN a,au a];refine ob (Jo _ _ xZ) ?_;by_cases e:(E0 x.2.2.2.2.1 c.2.2.2.2.2.2.1).2=0
   .rw[aJ<|λq=>q e,au e,aV,ah]
   .rw[aN e,ar e,aI,ai];rfl
  .rw[aJ a,ar a];refine ob (Jp _ _ _ xZ n) ?_;by_cases e:(nq x.2.2.2.2.1 c.2.2.2.2.2.2.1 c.2.2.2.2.2.1).2=0
   .rw[aJ<|λq=>q e,au e];have l:=NQ x.2.2.2.2.1 c.2.2.2.2.2.2.1 c.2.2.2.2.2.1;refine ob (CN s _ ag ((h.rQ x d).small) xZ) ?_;rw[j];rfl
   .rw[aN e,ar e];rfl
end Go.Ge
