import Derived.Test.YtcebnmppipejfaaGreatDoorPlF
set_option linter.unusedSectionVars false
set_option linter.unusedVariables false
set_option linter.unusedSimpArgs false
set_option linter.defProp false
noncomputable section
open Option renaming some->ab,none->ah
open Go.IntKind (i64)
namespace Go.Ge
variable [Lp]
def Az(q:ay)(f:Option Nd->Option Nd):Prop:=(∃c,∀s,f s=c)\/(∀s,f s=Pp q s)\/(∀s,f s=s)
def QY(q:ay)(s:Option Nd):Pp q (Pp q s)=Pp q s:=by
 cases s with
 | none=>rfl
 | some x =>
   show Pp q (if x.2.1=2 then ab x else ab (gg 493 q))=if x.2.1=2 then ab x else ab (gg 493 q)
   by_cases h:x.2.1=2
   .rw[aX h];show(if x.2.1=2 then ab x else ab (gg 493 q))=_
    rw[aX h]
   .rw[aR h];rfl
def Az.comp{q:ay}{f g:Option Nd->Option Nd}(b:Az q f)(a:Az q g):Az q (λs=>f (g s)):=by
 rcases b with ⟨c,d⟩|b|b
 .exact .inl ⟨c,λs=>d _⟩
 .rcases a with ⟨c,d⟩|a|a
  .exact .inl ⟨Pp q c,λs=>by show f (g s)=_;rw[b,d]⟩
  .exact .inr (.inl λs=>by show f (g s)=_;rw[b,a,QY])
  .exact .inr (.inl λs=>by show f (g s)=_;rw[b,a])
 .rcases a with ⟨c,d⟩|a|a
  .exact .inl ⟨c,λs=>by show f (g s)=_;rw[b,d]⟩
  .exact .inr (.inl λs=>by show f (g s)=_;rw[b,a])
  .exact .inr (.inr λs=>by show f (g s)=_;rw[b,a])
def Az.akP{q:ay}{f:Option Nd->Option Nd}(a:Az q f)(s:Option Nd):f (f s)=f s:=by
 rcases a with ⟨c,b⟩|a|a
 .rw[b,b]
 .rw[a,a,QY]
 .rw[a,a]
def YR(q:ay)(p:Pt):Az q (λs=>acw q s p):=by
 unfold acw;by_cases a:(bR p).1=0/\(bR p).2.1≠[]
 .simp only[aX a];unfold ahw;by_cases b:q=(jm p<|aP (bR p).2.1).1
  .simp only[aX b];exact .inl ⟨_,λ_=>rfl⟩
  .simp only[aR b];by_cases c:du (parts q) (bR p).2.1=true/\(jm p<|aP (bR p).2.1).2.1≠2
   .simp only[aX c];exact .inl ⟨_,λ_=>rfl⟩
   .simp only[aR c];by_cases d:du (bR p).2.1 (parts q)=true/\q≠[]
    .simp only[aX d];exact .inr (.inl λ_=>rfl)
    .simp only[aR d];exact .inr (.inr λ_=>rfl)
 .simp only[aR a];exact .inr (.inr λ_=>rfl)
def V3(q:ay):∀(ps:List Pt),Az q (λs=>ps.foldl (acw q) s):=by
 intro ps;induction ps with
 | nil=>exact .inr (.inr λ_=>rfl)
 | cons p r a=>exact a.comp (YR q p)
def V4(q:ay)(a:List Pt):Az q (afu q a):=by
 unfold afu;by_cases h:a.any (Pq q)=true
 .simp only[aX h];exact .inl ⟨_,λ_=>rfl⟩
 .simp only[aR h];exact .inr (.inr λ_=>rfl)
def afw{l:List Nd}(b:Valid l){a:List Pt}(c:ic a=true):(mu l a).2=0\/(mu l a).2=5:=by
 have d:mu l a=yR a (a.foldl uW l):=by unfold mu;rw[aX b,aX c]
 rw[d];exact V1 a _ c (yl a l b)
def acy{l:List Nd}(d:Valid l){a:List Pt}(b:ic a=true)(e:(mu l a).2=0):mu (mu l a).1 a=((mu l a).1,0)\/(mu (mu l a).1 a).2=5:=by
 obtain⟨c,f⟩:=YQ d b e;rcases afw c b with h|h
 .left;obtain⟨g,i⟩:=YQ c b h;have:(mu (mu l a).1 a).1=(mu l a).1:=ajf g.ord c.ord λq=>by
   rw[i,f];exact((V3 q a).comp<|V4 q a).akP (Kj l q)
  exact Fw this h
 .exact .inr h
def Dy(s:ay):List Pt×Int:=match fh (s,()) with
 | some (l,e,_)=>(l,e)
 | none=>([],10)
def K0(s:ay):fh (s,())=ab ((Dy s).1,(Dy s).2,())/\S3 (Dy s).1:=by
 obtain⟨d,e,a,b,c,_⟩:=afg s;unfold Dy;rw[a];exact⟨rfl,ahu b c⟩
def jE(l:List Nd)(s:ay):List Nd×Int:=if(Dy s).2=0 then mu l (Dy s).1 else([],10)
def QZ{l:List Nd}(a:Valid l)(s:ay):jN (l,s,())=ab ((jE l s).1,(jE l s).2,()):=by
 obtain⟨b,c⟩:=K0 s;rw[acr b c a];unfold jE;by_cases h:(Dy s).2=0
 .rw[aX h,aX h]
 .rw[aR h,aR h]
def Im{l:List Nd}(c:Valid l)(s:ay):((jE l s).2=0/\Valid (jE l s).1/\(jE (jE l s).1 s=((jE l s).1,0)\/(jE (jE l s).1 s).2=5))\/((jE l s).2≠0/\(jE l s).1=[]):=by
 unfold jE;by_cases h:(Dy s).2=0
 .rw[aX h];simp only[aX h];rcases afv c (Dy s).1 with ⟨a,b⟩|⟨a,b,_⟩
  .exact .inl ⟨a,(YQ c b a).1,acy c b a⟩
  .exact .inr ⟨a,b⟩
 .rw[aR h];exact .inr ⟨aK,rfl⟩
def sJ:List ay->List Nd->List Nd×Int
 | [],t=>(t,0)
 | s::r,t=>if(jE t s).2=0 then sJ r (jE t s).1 else([],(jE t s).2)
def acz:∀(r:List ay) (s:ay) (t u:List Nd),sJ r t=(u,0)->sJ (r++[s]) t=if(jE u s).2=0 then((jE u s).1,0) else([],(jE u s).2):=by
 intro r;induction r with
 | nil =>
   intro s t u h;have:t=u:=congrArg Prod.fst h;subst this;rfl
 | cons a r c =>
   intro s t u h;rw[JJ];unfold sJ at h⊢;by_cases b:(jE t a).2=0
   .rw[aX b] at h⊢;exact c s _ u h
   .rw[aR b] at h;exact absurd (congrArg Prod.snd h) b
def ahy(r:List ay)(s:r.length<=1000):p6 (r,())=ab ((sJ r []).1,(sJ r []).2,()):=by
 have key:∀(d i:Nat) (t:List Nd),i+d=r.length->Valid t->∃z,Loop (gn (r,())) ((([]:List Nd),(0:Int),t,(i:Int),()),())=ab z /\
   (((sJ (r.drop i) t).2=0/\z.1=0/\z.2.1.2.2.1=(sJ (r.drop i) t).1)\/((sJ (r.drop i) t).2≠0/\z.1=1/\z.2.1.1=(sJ (r.drop i) t).1/\z.2.1.2.1=(sJ (r.drop i) t).2)):=by
  intro d;induction d with
  | zero =>
    intro i t o l;obtain rfl:i=r.length:=ai;rw[Lk];have p:gn (r,()) ((([]:List Nd),(0:Int),t,(r.length:Int),()),())=ab (.inr (0,(([]:List Nd),(0:Int),t,(r.length:Int),()),())):=by
     unfold gn;dsimp only;rw[aw,af]
    exact⟨(0,(([]:List Nd),(0:Int),t,(r.length:Int),()),()),by rw[aT,p];rfl,.inl ⟨rfl,rfl,rfl⟩⟩
  | succ d q =>
    intro i t o l;have hx:r[i]?=ab r[i]:=ik ai;rw[y8 ai];unfold sJ;have j:gn (r,()) ((([]:List Nd),(0:Int),t,(i:Int),()),())=ab (if(jE t r[i]).2=0 then .inl ((([]:List Nd),(0:Int),(jE t r[i]).1,((i+1:Nat):Int),()),()) else .inr (1,(([]:List Nd),(jE t r[i]).2,t,(i:Int),()),())):=by
     unfold gn;dsimp only;rw[aq<|show i<r.length by omega,ae,au hx,aa,QZ l,aa,aL ai];dsimp only;by_cases f:(jE t r[i]).2=0
     .rw[aE f,aX f];rfl
     .rw[ax f,aR f];rfl
    by_cases f:(jE t r[i]).2=0
    .rw[aX f] at j⊢;have m:Valid (jE t r[i]).1:=by
      rcases Im l r[i] with ⟨_,h,_⟩|⟨h,_⟩
      .exact h
      .exact absurd f h
     obtain⟨z,n,k⟩:=q (i+1) _ ai m;exact⟨z,by rw[aT,j];exact n,k⟩
    .rw[aR f] at j⊢;exact⟨(1,(([]:List Nd),(jE t r[i]).2,t,(i:Int),()),()),by rw[aT,j];rfl,.inr ⟨f,rfl,rfl,rfl⟩⟩
 have g:Valid []:=Av YG.1;obtain⟨z,n,k⟩:=key r.length 0 [] ai g;rw[zR] at k;unfold p6;rw[show Loop (gn (r,())) ((([]:List Nd),(0:Int),([]:List Nd),(0:Int),()),())=_ from n,aa];rcases k with ⟨a,b,c⟩|⟨a,b,c,e⟩
 .rw[b,c,a];rfl
 .rw[b,c,e];rfl
def Q0(b:ay)(k:b.length<=100000):v7 (b,())=ab (decide (b.length=512/\∀x∈b,x=0),()):=by
 have e0:∀y:UInt8,aS (u8 y) 0=decide (y=0):=λy=>DT (n:=0);have h:=afm (f:=qB (b,())) b (λi=>((false,(i:Int),()),())) (λx=>!decide _) _ _ (λi x a=>by
  have hi:=aF a;unfold qB;rw[aq hi,ae,au a,aa,e0,aL ai];cases decide (x=0)<;>rfl) (by
  unfold qB;rw[aw,af]) b.length 0 ai
 unfold v7;rcases h with ⟨j,x,_,a,g,_,c⟩|⟨l,c⟩
 .rw[show Loop _ ((false,(0:Int),()),())=_ from c,aa,fv,af];have d:x≠0:=by simpa using g
  rw[cL λq:b.length=512/\∀x∈b,x=0=>d (q.2 x<|eQ a)]
 .rw[show Loop _ ((false,(0:Int),()),())=_ from c,aa,b9,ae];have e:∀x∈b,x=0:=λx a=>by
   obtain⟨i,hi⟩:=bz.1 a
   grind
  have:aS (len b) 512=decide (b.length=512/\∀x∈b,x=0):=by
   unfold aS len
   grind
  grind
def acA(b:ay)(m:b.length<=100000):v8 (b,())=ab (decide (1024<=b.length/\b.length % 512=0/\∀x∈b,x=0),()):=by
 have e0:∀y:UInt8,aS (u8 y) 0=decide (y=0):=λy=>DT (n:=0);have h:=afm (f:=qC (b,())) b (λi=>((false,(i:Int),()),())) (λx=>!decide _) _ _ (λi x a=>by
  have hi:=aF a;unfold qC;rw[aq hi,ae,au a,aa,e0,aL ai];cases decide (x=0)<;>rfl) (by
  unfold qC;rw[aw,af]) b.length 0 ai
 unfold v8;dsimp only;by_cases g:1024<=b.length
 case neg =>
  rw[aO<|by rw[bE];omega,aG,af,aa,ae,cL λq:1024<=b.length/\b.length % 512=0/\∀x∈b,x=0=>g q.1]
 rw[aJ<|by rw[bE];omega,aA,ae,show aS 512 0=false from rfl,af,show jQ _ 512=((b.length % 512:Nat):Int) from rfl];by_cases k:b.length % 512=0
 case neg =>
  rw[ax ai,aA,aa,ae,cL λq:1024<=b.length/\b.length % 512=0/\∀x∈b,x=0=>k q.2.1]
 rw[aE ai,aG,aa,af];rcases h with ⟨j,x,_,a,l,_,c⟩|⟨o,c⟩
 .rw[show Loop _ ((false,(0:Int),()),())=_ from c,aa,fv,af];have d:x≠0:=by simpa using l
  rw[cL λq:1024<=b.length/\b.length % 512=0/\∀x∈b,x=0=>d (q.2.2 x<|eQ a)]
 .rw[show Loop _ ((false,(0:Int),()),())=_ from c,aa,b9,ae];have e:∀x∈b,x=0:=λx a=>by
   obtain⟨i,hi⟩:=bz.1 a
   grind
  grind
abbrev PS:=(ay×(List Pt×(Bool×(al×al))))×(List Pt×al)
def ps0(r:ay)(a:List Pt):PS:=((r,([]:List Pt),false,(),()),a,())
def Q1(r:ay)(out:List Pt)(w:r.length<=8192):∃p f g,bP ((),rd r (out.length:Int),())=ab ((p,f,()),g,()) /\
  ((f=false/\∃b z,g=DY (out.length:Int) b/\eK (ps0 r out)=ab (.inr z)/\((z.1=0/\b=true)\/(z.1=1/\z.2.1.2.1=out/\z.2.1.2.2.1=!b))) \/
   (f=true/\∃h,g=rd h ((out.length+1:Nat):Int)/\h.length+512<=r.length/\out.length<64/\eK (ps0 r out)=ab (.inl<|ps0 h<|out++[p]))):=by
 by_cases c:r.length<512
 .refine⟨_,_,_,M7 r out.length c,.inl ⟨rfl,true,(0,ps0 r out),rfl,?_,.inl ⟨rfl,rfl⟩⟩⟩;unfold eK ps0;dsimp only;rw[ea<|by rw[bE];omega,af]
 have i:(r.take 512).length=512:=by rw[kC];omega
 have d:inside (0:Int) (512:Int) (len r)=true:=aV aK aK (by rw[bE];omega);by_cases j:∀x∈r.take 512,x=0
 .refine⟨_,_,_,Ic r out.length ai ai j,.inl ⟨rfl,_,(1,(r,out,decide (1024<=r.length/\r.length % 512=0/\∀x∈r,x=0),(),()),out,()),rfl,?_,.inr ⟨rfl,rfl,bb⟩⟩⟩;unfold eK ps0;dsimp only;rw[bO<|by rw[bE];omega,ae,d,ae,show sub r 0 (minus 512 0)=r.take 512 from hU r 512,Q0 _ ai,aa,dD (⟨i,j⟩:(r.take 512).length=512/\∀x∈r.take 512,x=0),ae,acA r ai,aa]
 have e:=λb=>GL r (out.length:Int) b;obtain⟨x,o,n,s⟩:=aai _ i;have t3:=(take_same _ i).trans n;have t:(r.drop 512).length=r.length-512:=pP;unfold bP eK ps0;dsimp only[rd] at e⊢;rw[aG,aA,ae,af,aJ (by rw[bE];omega),af,d,ae,show sub r 0 (minus 512 0)=r.take 512 from hU r 512];rw[MM _ ai,aa,bO (a:=512) (by rw[bE];omega),ae,ae,Q0 _ ai,aa];rw[cL (λq:(r.take 512).length=512/\∀x∈r.take 512,x=0=>j q.2),af,af,ae,ae,n,t3,aa,aa,aV aK (by rw[bE];omega) (sF _),ae,show sub r 512 (minus _ 512)=r.drop 512 from mC r 512 ai];by_cases l:o=0
 case neg =>
  rw[ax l,aA,ae,e,aa];exact⟨_,_,_,rfl,.inl ⟨rfl,_,_,rfl,rfl,.inr ⟨rfl,rfl,rfl⟩⟩⟩
 rw[aE l,aG,af];have m:=s l;obtain⟨u,y⟩:=m.2.2.2.1;obtain⟨k,v⟩:=adf u;rw[v];by_cases A:8192<k
 .rw[aO<|by rw[bE];omega,ae,e,aa,aO ai];exact⟨_,_,_,rfl,.inl ⟨rfl,_,_,rfl,rfl,.inr ⟨rfl,rfl,rfl⟩⟩⟩
 have B:=VE k;rw[aJ (a:=8192) ai,show nf _=_ from VI k ai,aa];rw[show aH .i64 512 _=_ from xc (a:=512) ai];by_cases C:(r.drop 512).length<k
 .rw[aO<|by rw[bE];omega,ae,e,aa,aO (by rw[bE];omega)];exact⟨_,_,_,rfl,.inl ⟨rfl,_,_,rfl,rfl,.inr ⟨rfl,rfl,rfl⟩⟩⟩
 .rw[aJ<|by rw[bE];omega,af,VF k ai,aa,e8 ai ai];by_cases D:(r.drop 512).length<k+vF k
  .rw[aO<|by rw[bE];omega,ae,e,aa,aO (a:=len r) (by rw[bE];omega)];exact⟨_,_,_,rfl,.inl ⟨rfl,_,_,rfl,rfl,.inr ⟨rfl,rfl,rfl⟩⟩⟩
  .rw[aJ<|by rw[bE];omega,af,aJ (by rw[bE];omega)];by_cases E:64<=out.length
   .rw[bO ai,ae,e,aa,bO (by rw[bE];omega)];exact⟨_,_,_,rfl,.inl ⟨rfl,_,_,rfl,rfl,.inr ⟨rfl,rfl,rfl⟩⟩⟩
   .rw[ea ai,af,aa,e8 ai ai,aV ai (by rw[bE];omega) (sF _),ae,aV ai ai (by rw[bE];omega),ae];rw[show sub _ 0 _=(r.drop 512).take k from hU _ k,show _+_=((k+vF k:Nat):Int) by omega,mC _ _ ai,aL ai];rw[ea<|by rw[bE];omega];have es:sub r 512 (minus ((512+k:Nat):Int) 512)=(r.drop 512).take k:=by
     unfold sub minus
     grind
    refine⟨_,_,_,rfl,.inr ⟨rfl,_,rfl,?_,ai,?_⟩⟩
    .grind
    .rw[show aH .i64 512 _=_ from xc (a:=512) ai,es];rw[show ao _ _ _=ab false from rfl];rw[aa,aA,ae,af,aV aK ai (by rw[bE];omega),ae,bo (by simp only[jC,nQ];omega),ae,aa];rw[show aH .i64 512 _=_ from xc (a:=512) ai,aV ai (by rw[bE];omega) (sF _),ae,mC r _ ai,yy];rfl
def acB:∀(m:Nat) (r:ay) (out:List Pt) (p:Pt),r.length<=m->r.length<=8192->out.length<=63 ->
  ∃(c:List Pt) (d:Pt) (b:Int×Bool) (z:Nat×PS),Loop iF (((),(),true,()),p,out,rd r ((out.length+1:Nat):Int),())=ab (((),(),false,()),d,c,DY b.1 b.2,()) /\
   Loop eK (ps0 r<|out++[p])=ab z/\((z.1=0/\b.2=true)\/(z.1=1/\z.2.1.2.1=c/\z.2.1.2.2.1=!b.2)):=by
 intro m;induction m using Nat.strongRecOn with
 | _ m h =>
   intro r out p x i j;obtain⟨e,k,l,f,n⟩:=Q1 r _ i;have hlen:((out++[p]).length:Int)=((out.length+1:Nat):Int):=bb;rw[hlen] at f;have a:=QN p out _ ai f;rcases n with ⟨rfl,b,z,rfl,q,s⟩|⟨rfl,g,rfl,y,A,t⟩
   .refine⟨out++[p],e,(((out++[p]).length:Int),b),z,?_,by rw[aT,q];rfl,s⟩;rw[aT,a];show Loop _ _=_
    rw[aT,wI];rfl
   .obtain⟨o,d,b,z,u,v,w⟩:=h g.length ai g (out++[p]) e (cp _) ai ai;exact⟨o,d,b,z,by rw[aT,a];exact u,by rw[aT,t];exact v,w⟩
def Q2(s:ay):mh (s,())=fh (s,()):=by
 by_cases f:8192<s.length
 .rw[QO s f];unfold mh uc;dsimp only;rw[aO<|by rw[bE];omega,ae,aa];rfl
 obtain⟨p,v,w,g,h⟩:=Q1 s [] ai;have fin:∀(b:Int×Bool) (o:List Pt),(ag (iM ((),DY b.1 b.2,())) λa=>ao a.1.1 (ab _) (ab (o,_)))=ab (if b.2=true then(([]:List Pt),(10:Int),()) else(o,(0:Int),())):=λb o=>by
  obtain⟨x,i⟩:=b;cases i<;>rfl
 have parts:∀(o:List Pt) (b:Bool) (z:Nat×PS),Loop eK (ps0 s [])=ab z->((z.1=0/\b=true)\/(z.1=1/\z.2.1.2.1=o/\z.2.1.2.2.1=!b))->mh (s,())=ab (if b=true then _ else _):=λo b z j k=>by
  unfold mh uc;dsimp only;rw[aJ<|by rw[bE];omega,af,show Loop eK ((s,_),_)=_ from j,aa];rcases k with ⟨c,d⟩|⟨c,d,l⟩
  .rw[c,b9,ae,aa,d];rfl
  .rw[c,fv,af,aa,d,l];cases b<;>rfl
 unfold fh;dsimp only;rw[aJ<|by rw[bE];omega,show bP ((),(true,s,(0:Int),_),())=_ from g,aa];rcases h with ⟨rfl,b,z,rfl,m,n⟩|⟨rfl,e,rfl,y,A,q⟩
 .rw[aT,wI];show _=(ag (iM _) λa=>ao a.1.1 _ _)
  rw[fin (_,b),parts [] b z (by rw[aT,m];rfl) n]
 .obtain⟨o,B,b,z,r,t,u⟩:=acB e.length e [] p (cp _) ai bb;rw[show Loop iF _=_ from r,aa];rw[fin b o];exact parts o b.2 z (by rw[aT,q];exact t) u
def xz(s:ay):nj (s,())=ab (if(Dy s).2=0/\ic (Dy s).1=true then 0 else 10,()):=by
 obtain⟨d,e⟩:=K0 s;unfold nj;rw[Q2 s,d,aa];rw[Cx _ e,aa];by_cases a:(Dy s).2=0
 .rw[aE a];by_cases c:ic (Dy s).1=true
  .rw[c,aX ⟨a,rfl⟩];rfl
  .have b:ic (Dy s).1=false:=by simpa using c
   rw[b,aR λq:(Dy s).2=0/\false=true=>Bool.noConfusion q.2];rfl
 .rw[ax a,aR λq:(Dy s).2=0/\ic (Dy s).1=true=>a q.1];rfl
def V5{l:List Nd}(b:Valid l){a:List Pt}(c:¬ic a=true):mu l a=([],10):=by unfold mu;rw[aX b,aR c]
def E5(a:List aD)(id:Tx):Option Nat:=a.findIdx? λx=>decide (x.1=id)
def BC(a:List aD)(id:Tx):Int:=match E5 a id with|some i=>(i:Int)|none=>-1
def Nz{a:List aD}{id:Tx}{i:Nat}{x:aD}(b:a[i]?=ab x)(c:x.1=id)(d:∀(j:Nat) (y:aD),j<i->a[j]?=ab y->decide (y.1=id)=false):E5 a id=ab i:=by
 unfold E5;rw[ac5]
 grind
def GO{a:List aD}{id:Tx}(c:∀(i:Nat) (x:aD),a[i]?=ab x->decide (x.1=id)=false):E5 a id=none:=by
 unfold E5;rw[adb];intro x b;obtain⟨i,d⟩:=bz.1 b
 grind
def yS{a:List aD}{id:Tx}{i:Nat}(h:E5 a id=ab i):∃x,a[i]?=ab x/\x.1=id:=by
 unfold E5 at h;rw[ac5] at h
 grind
def K1{a:List aD}{id:Tx}:(∃i,E5 a id=ab i)↔∃x∈a,x.1=id:=by
 constructor
 .rintro⟨i,h⟩;obtain⟨x,b,c⟩:=yS h
  grind
 .rintro⟨x,b,c⟩;cases h:E5 a id with
  | some i=>exact⟨i,rfl⟩
  | none =>
    unfold E5 at h
    grind
def afx{a:List aD}{id:Tx}:BC a id<0↔¬∃x∈a,x.1=id:=by
 rw[<-K1];unfold BC
 grind
def Q3{f:(Int×Int×al)×al->Option (((Int×Int×al)×al)⊕(Nat×(Int×Int×al)×al))}(a:List aD)(id:Tx)(n:a.length<=1000000)
  (d:∀c i:Int,f ((c,i,()),())=ao (ba i<|len a) (ag (idx a i) λy=>ao (bH y.1 id) (ab<|.inr (1,(i,i,()),())) (ab<|.inl ((c,aH .i64 i 1,()),()))) (ab<|.inr (0,(c,i,()),()))) :
  ag (Loop f (((0:Int),(0:Int),()),())) (λe=>ao (de e.1 0) (ab ((-1:Int),())) (ab (e.2.1.1,())))=ab (BC a id,()):=by
 rcases iK (f:=f) a (λi=>(((0:Int),i,()),())) (λ_ x=>decide (x.1=id)) (λi x=>(1,((i:Int),(i:Int),()),())) (0,((0:Int),len a,()),()) ai (λi x b g j=>by
  rw[d,aq g,ae,au b,aa,ew,j];by_cases h:x.1=id<;>simp[bH,h]) (by rw[d,aw,af];rfl) with ⟨i,x,b,k,l,h⟩|⟨m,h⟩
 .rw[h,aa];unfold BC;rw[Nz b (iq k) l];rfl
 .rw[h,aa];unfold BC;rw[GO m];rfl
def NA(a:List aD)(id:Tx)(b:a.length<=1000000):Aq (a,id,())=ab (BC a id,()):=Q3 a id b λc i=>rfl
def NB(s:az)(id:Tx)(a:s.2.2.1.length<=1000000):mi (s,id,())=ab (BC s.2.2.1 id,()):=Q3 s.2.2.1 id a λc i=>rfl
def BD(ls:List aD):Nat->Tx->List aD->List aD×Int
 | n,id,acc=>match E5 ls id with
   | none=>([],3)
   | some i=>match n,ls[i]? with
     | 0,_=>([],5)
     | n+1,ab x=>if x.2.1=[] then(acc++[x],0) else BD ls n x.2.1 (acc++[x])
     | _,ah=>([],3)
def bj(ls:List aD)(id:Tx):List aD×Int:=BD ls 16 id []
def YS(a:List aD)(c:Tx)(d:a.length<=1000000):∀(n:Nat) (id:Tx) (acc:List aD) (k:Nat),n+k=16->acc.length<=k ->
  ∃f g j,Loop (lH (a,c,())) ((id,([]:List aD),(0:Int),(),(k:Int),()),acc,())=ab (1,(f,(BD a n id acc).1,(BD a n id acc).2,g),j):=by
 intro n;induction n with
 | zero =>
   intro id acc k l m;rw[aT];unfold lH;dsimp only;rw[bO ai,ae,NA a id d,aa];unfold BD BC;cases h:E5 a id with
   | none=>exact⟨_,_,_,rfl⟩
   | some i =>
     dsimp only;rw[aJ ai,af,aE ai,ae];simp_all
 | succ n o =>
   intro id acc k l m;rw[aT];unfold lH;dsimp only;rw[bO ai,ae,NA a id d,aa];unfold BD BC;cases h:E5 a id with
   | none=>exact⟨_,_,_,rfl⟩
   | some i =>
     obtain⟨x,e,p⟩:=yS h;dsimp only;rw[aJ ai,af,ax ai,af,au e,aa,show fits (plus (@len aD acc)<|@len aD ([x]:List aD))=true from bo (by show _+1<=_;omega),ae,aa,e];dsimp only;rw[cZ];by_cases b:x.2.1=[]
     .rw[dD b,ae,aX b];exact⟨_,_,_,rfl⟩
     .rw[cL b,af,aR b,aa,aL ai];have:=o x.2.1 (acc++[x]) (k+1) ai (by rw[jB];show _+1<=_;omega);exact this
def Q4(a:List aD)(id:Tx)(b:a.length<=1000000):p8 (a,id,())=ab ((bj a id).1,(bj a id).2,()):=by
 unfold p8;obtain⟨d,e,f,h⟩:=YS a id b 16 id [] 0 rfl (cp _);have c:Loop (lH (a,id,())) ((id,([]:List aD),(0:Int),(),(0:Int),()),([]:List aD),())=_:=h;rw[c,aa];rfl
def ahA{ls:List aD}:∀{n:Nat} {id:Tx} {acc:List aD},(∀x∈acc,x∈ls)->(∀x∈(BD ls n id acc).1,x∈ls)/\(BD ls n id acc).1.length<=n+acc.length:=by
 intro n;induction n with
 | zero =>
   intro id acc h;unfold BD
   grind
 | succ n a =>
   intro id acc h;unfold BD;cases b:E5 ls id with
   | none=>simp
   | some i =>
     grind
def pB{ls:List aD}{id:Tx}:(∀x∈(bj ls id).1,x∈ls)/\(bj ls id).1.length<=16:=by
 obtain⟨a,b⟩:=ahA (ls:=ls) (n:=16) (id:=id) (acc:=[]) Fm;exact⟨a,by unfold bj;simpa using b⟩
def YT{l:List Nd}(a:Valid l)(s:ay):ud (l,s,())=ab ((jE l s).1,(jE l s).2,()):=by
 obtain⟨d,e⟩:=K0 s;obtain⟨v,f,g⟩:=tk l (gJ a);unfold ud;rw[f,aa,g.2 a];rw[aG,af,xz s,aa,Q2 s,d];unfold jE;by_cases b:(Dy s).2=0
 .rw[aX b];by_cases c:ic (Dy s).1=true
  .rw[aX (⟨b,c⟩:(Dy s).2=0/\ic (Dy s).1=true),show nt (aS 0 0)=false from rfl,af,aa,YN l _ (gJ a) e,aa]
  .rw[aR (λq:(Dy s).2=0/\ic (Dy s).1=true=>c q.2),V5 a c];rfl
 .rw[aR b,aR λq:(Dy s).2=0/\ic (Dy s).1=true=>b q.1];rfl
def acC(a:List Tx)(s:a.length<=1000000):yg (a,())=ab ((sJ a []).1,(sJ a []).2,()):=by
 unfold yg;have key:∀(r:List Tx) (t:List Nd) (k:Nat),a=a.take k++r->k+r.length=a.length->Valid t->∃q,(Loop (gI (a,())) ((([]:List Nd),(0:Int),t,(k:Int),()),())=ab (1,(([]:List Nd),(sJ r t).2,q),())/\(sJ r t).1=[]) \/
   ∃l m n,Loop (gI (a,())) ((([]:List Nd),(0:Int),t,(k:Int),()),())=ab (0,(l,m,(sJ r t).1,n),())/\(sJ r t).2=0:=by
  intro r;induction r with
  | nil =>
    intro t k o b e;rw[nQ,Fv] at b;refine⟨((t,(k:Int),()):List Nd×Int×al),.inr ⟨[],0,((k:Int),()),?_,rfl⟩⟩;rw[aT];unfold gI;rw[b,aw,af];rfl
  | cons d r p =>
    intro t k o b e;rw[jC] at b;have hx:a[k]?=ab d:=by
     grind
    have step:gI (a,()) ((([]:List Nd),(0:Int),t,(k:Int),()),())=ab (if(jE t d).2=0 then .inl ((([]:List Nd),(0:Int),(jE t d).1,((k+1:Nat):Int),()),()) else .inr (1,(([]:List Nd),(jE t d).2,t,(k:Int),()),())):=by
     unfold gI;dsimp only;rw[aq ai,ae,au hx,aa,YT e d,aa,aL ai];by_cases c:(jE t d).2=0
     .rw[aE c,aG,af,aX c]
     .rw[ax c,aA,ae,aR c]
    rw[aT,step];unfold sJ;by_cases c:(jE t d).2=0
    .rw[aX c,aX c];have f:Valid (jE t d).1:=by
      rcases Im e d with ⟨_,h,_⟩|⟨h,_⟩
      .exact h
      .grind
     exact p (jE t d).1 (k+1) (by rw[Er,hx];simpa using o) ai f
    .grind
 have g:Valid []:=Av YG.1;obtain⟨q,⟨h,i⟩|⟨l,m,n,h,i⟩⟩:=key a [] 0 bb bb g
 .have j:Loop (gI (a,())) ((([]:List Nd),(0:Int),([]:List Nd),(0:Int),()),())=_:=h;rw[j,aa,i];rfl
 .have j:Loop (gI (a,())) ((([]:List Nd),(0:Int),([]:List Nd),(0:Int),()),())=_:=h;rw[j,aa,i];rfl
def sK(ls:List aD)(a:List Tx)(id:Tx):Tx:=match E5 ls id with|some i=>(a[i]?).getD []|none=>[]
def eg(ls:List aD)(a:List Tx)(id:Tx):List Nd×Int :=
 if(bj ls id).2=0 then sJ ((bj ls id).1.reverse.map λx=>sK ls a x.1) [] else([],(bj ls id).2)
def YU(s:az)(i:Nat):wg (s,(i:Int),())=ab ((s.2.2.2.1[i]?).getD [],()):=by
 unfold wg;dsimp only;by_cases h:i<s.2.2.2.1.length
 .have hx:s.2.2.2.1[i]?=ab s.2.2.2.1[i]:=ik h;rw[aq h,ae,au hx,aa,hx];rfl
 .have hx:s.2.2.2.1[i]?=none:=Lb ai;rw[aJ fi,af,hx];rfl
def E6(s:az)(id:Tx)(g:s.2.2.1.length<=1000000):mj (s,id,())=ab ((eg s.2.2.1 s.2.2.2.1 id).1,(eg s.2.2.1 s.2.2.2.1 id).2,()):=by
 obtain⟨h,b⟩:=pB (ls:=s.2.2.1) (id:=id);unfold mj eg;rw[Q4 _ id g,aa];by_cases a:(bj s.2.2.1 id).2=0
 .rw[aE a,aG,af,aX a];generalize (bj s.2.2.1 id).1=c at h b;generalize k:(c,(bj s.2.2.1 id).2,())=q;have d:q.1=c:=by rw[<-k]
  have key:∀(n:Nat) (acc:List Tx),n<=c.length->acc.length+n<=1000->∃z,Loop (mR (s,id,()) q) (((),(n:Int)-1,()),acc,())=ab (z,(acc++(c.take n).reverse.map λx=>sK s.2.2.1 s.2.2.2.1 x.1,())):=by
   intro n;induction n with
   | zero =>
     intro acc _ _;refine⟨((),((0:Nat):Int)-1,()),?_⟩;rw[aT];unfold mR;dsimp only;rw[ea ai,af];simp[dq]
   | succ n l =>
     intro acc m o;obtain⟨x,e⟩:∃x,c[n]?=ab x:=⟨_,ik (show n<c.length by omega)⟩;obtain⟨i,j⟩:=K1.2 ⟨x,h x (eQ e),rfl⟩;have hd:sK s.2.2.1 s.2.2.2.1 x.1=(s.2.2.2.1[i]?).getD []:=by unfold sK;rw[j]
     obtain⟨z,f⟩:=l (acc++[sK s.2.2.1 s.2.2.2.1 x.1]) ai (by rw[jB];show _+1+n<=_;omega);refine⟨z,?_⟩;have step:mR (s,id,()) q (((),(n:Int),()),acc,())=ab (.inl (((),(n:Int)-1,()),acc++[sK s.2.2.1 s.2.2.2.1 x.1],())):=by
      unfold mR;dsimp only;rw[bO ai,ae,d,au e,aa,NB s x.1 g,aa];rw[show BC s.2.2.1 x.1=(i:Int) by unfold BC;rw[j],YU s i,aa,<-hd];rw[show fits (plus (@len Tx acc)<|@len Tx ([sK s.2.2.1 s.2.2.2.1 x.1]:List Tx))=true from bo (by show _+1<=_;omega),ae,dL ai ai];rfl
     rw[show((n+1:Nat):Int)-1=(n:Int) by omega,aT,step];refine za f ?_;rw[Er,e];simp
  obtain⟨z,f⟩:=key c.length [] (cp _) jA;have hlen:da .i64 (len c) 1=(c.length:Int)-1:=dL fi fi;rw[hlen,f,aa];rw[Es,Bx,acC _ (by rw[ux,P4];omega),aa]
 .rw[ax a,aA,ae,aR a]
def sr(s:Tx):Prop:=(Dy s).2=0/\ic (Dy s).1=true
structure E7 (ls:List aD) (ds:List Tx):Prop where
 same:ds.length=ls.length
 chain:∀x∈ls,(bj ls x.1).2=0
 each:∀(i:Nat) (x:aD) (d:Tx),ls[i]?=ab x->ds[i]?=ab d->x.2.2.2.2.2.2.1=true/\x.2.2.2.2.2.1=0/\x.2.2.2.2.1=(d.length:Int)/\x.2.2.2.1=ku d/\sr d/\(eg ls ds x.1).2=0
open Classical in
def S6(s:az)(C:s.2.2.1.length<=100)(A:∀d∈s.2.2.2.1,d.length<=8192):∃b,jk (s,())=ab (b,())/\(b=true↔E7 s.2.2.1 s.2.2.2.1):=by
 have l:p9 (s.2.2.1,())=ab (if(∀x∈s.2.2.1,(bj s.2.2.1 x.1).2=0) then 0 else 2,()):=by
  unfold p9;rcases iK (f:=pv (s.2.2.1,())) s.2.2.1 (λi=>(((0:Int),i,()),())) (λ_ x=>decide ((bj s.2.2.1 x.1).2≠0)) (λi x=>(1,((2:Int),(i:Int),()),())) (0,((0:Int),len s.2.2.1,()),()) ai (λi x c m w=>by
   unfold pv;dsimp only;rw[aq m,ae,au c,aa,Q4 _ x.1 ai,aa,w];by_cases h:(bj s.2.2.1 x.1).2=0
   .rw[aE h];simp[h,nt,ao]
   .rw[ax h];simp[h,nt,ao]) (by unfold pv;dsimp only;rw[aw,af];rfl) with ⟨i,x,c,y,_,h⟩|⟨z,h⟩
  .rw[h,aa,aR λq=>by simp[q x<|eQ c] at y];rfl
  .rw[h,aa,aX λx c=>by
   obtain⟨i,m⟩:=bz.1 c;have:=z i x m;simpa using this];rfl
 unfold jk;rw[l,aa];by_cases e:s.2.2.2.1.length=s.2.2.1.length
 .rw[aE<|show @len Tx s.2.2.2.1=@len aD s.2.2.1 by unfold len;omega,aG,aA,ae,aa];by_cases g:∀x∈s.2.2.1,(bj s.2.2.1 x.1).2=0
  .rw[aX g,show nt (aS (0:Int) 0)=false from rfl,af];obtain⟨j,n⟩:∃j:Nat->aD->Prop,∀i x,j i x↔¬∃d,s.2.2.2.1[i]?=ab d/\x.2.2.2.2.2.2.1=true/\x.2.2.2.2.2.1=0/\x.2.2.2.2.1=(d.length:Int)/\x.2.2.2.1=ku d/\sr d/\(eg s.2.2.1 s.2.2.2.1 x.1).2=0:=⟨_,λ_ _=>gf⟩;rcases iK (f:=gV (s,())) s.2.2.1 (λi=>((false,i,()),())) (λi x=>decide (j i x)) (λi x=>(1,(false,(i:Int),()),())) (0,(false,len s.2.2.1,()),()) ai (λi x c m w=>by
    obtain⟨d,a⟩:∃d,s.2.2.2.1[i]?=ab d:=⟨_,ik (show i<s.2.2.2.1.length by omega)⟩;have B:=A d (eQ a);unfold gV;dsimp only;rw[aq m,ae,aq ai,ae,au c,aa,au a,aa,aa,HO d ai,aa,aa,xz d,aa,E6 s x.1 ai,aa,w];have k:j i x↔¬(x.2.2.2.2.2.2.1=true/\x.2.2.2.2.2.1=0/\x.2.2.2.2.1=(d.length:Int)/\x.2.2.2.1=ku d/\sr d/\(eg s.2.2.1 s.2.2.2.1 x.1).2=0):=by
     grind
    by_cases o:x.2.2.2.2.2.2.1=true
    rotate_left
    .rw[aX<|dD<|k.2 λq=>o q.1,show x.2.2.2.2.2.2.1=false by simpa using o];rfl
    rw[o,aG,af];by_cases p:x.2.2.2.2.2.1=0
    .rw[aE p,aG,af];by_cases r:x.2.2.2.2.1=(d.length:Int)
     .rw[show aS x.2.2.2.2.1 (@len UInt8 d)=true from aE r,aG,af,cZ];by_cases t:x.2.2.2.1=ku d
      .rw[dD t,aG,af];by_cases u:sr d
       .rw[aX<|show(Dy d).2=0/\ic (Dy d).1=true from u,show nt (aS (0:Int) 0)=false from rfl,af];by_cases v:(eg s.2.2.1 s.2.2.2.1 x.1).2=0
        .rw[aE v,aG,af,aR (by rw[TP];exact λq=>k.1 q ⟨o,p,r,t,u,v⟩)]
        .rw[ax v,aA,ae,aX (dD<|k.2 λq=>v q.2.2.2.2.2)]
       .rw[aR<|show ¬((Dy d).2=0/\ic (Dy d).1=true) from u,show nt (aS (10:Int) 0)=true from rfl,ae,aX (dD<|k.2 λq=>u q.2.2.2.2.1)]
      .rw[cL t,aA,ae,aX (dD<|k.2 λq=>t q.2.2.2.1)]
     .rw[show aS x.2.2.2.2.1 (@len UInt8 d)=false from ax r,aA,ae,aX (dD<|k.2 λq=>r q.2.2.1)]
    .rw[ax p,aA,ae,aX (dD<|k.2 λq=>p q.2.1)]) (by
    unfold gV;dsimp only;rw[aw,af,af];rfl) with ⟨i,x,c,y,_,h⟩|⟨z,h⟩
   .rw[h,aa];refine⟨false,rfl,λq=>(by cases q),λq=>?_⟩;obtain⟨d,a⟩:∃d,s.2.2.2.1[i]?=ab d:=⟨_,ik (show i<s.2.2.2.1.length by have:=aF c;omega)⟩;exact absurd ⟨d,a,q.each i x d c a⟩ ((n i x).1<|iq y)
   .rw[h,aa];refine⟨true,rfl,λ_=>⟨e,g,λi x d c a=>?_⟩,λ_=>rfl⟩
    grind
  .rw[aR g,show nt (aS (2:Int) 0)=true from rfl,ae];exact⟨false,rfl,λq=>(by cases q),λq=>absurd q.chain g⟩
 .rw[ax<|show @len Tx s.2.2.2.1≠@len aD s.2.2.1 by unfold len;omega,aA,aG,af,aa,ae];exact⟨false,rfl,λq=>(by cases q),λq=>absurd q.same e⟩
structure BdS (s:az):Prop where
 ll:s.2.2.1.length<=40
 il:s.2.1.length<=40
 bl:s.1.length<=40
 xl:∀x∈s.2.2.1,BdL x
 xi:∀x∈s.2.1,BdI x
 xb:∀x∈s.1,BdB x
 dl:∀d∈s.2.2.2.1,d.length<=8192
 ml:s.2.2.2.2.1.length<=1000000
def BdS.akQ{s:az}(h:BdS s):BdX (0,s.2.2.1,[],[],()) :=
 ⟨⟨h.ll,λx a=>(h.xl x a).2.2.1,bb,λx a=>(by cases a),bb,λx a=>(by cases a)⟩,h.xl,λx a=>(by cases a),λx a=>(by cases a)⟩
def BdS.akR{s:az}(h:BdS s):BdX (0,[],s.2.1,[],()) :=
 ⟨⟨bb,λx a=>(by cases a),h.il,λx a=>(h.xi x a).2.1,bb,λx a=>(by cases a)⟩,λx a=>(by cases a),h.xi,λx a=>(by cases a)⟩
def BdS.akS{s:az}(h:BdS s):BdX (0,[],[],s.1,()) :=
 ⟨⟨bb,λx a=>(by cases a),bb,λx a=>(by cases a),h.bl,λx a=>(h.xb x a).2.1⟩,λx a=>(by cases a),λx a=>(by cases a),h.xb⟩
def Q5(s:az)(x:bN):Prop:=x.2.2.1=[]\/∃y∈s.2.2.1,y.1=x.2.2.1
def zC(s:az)(x:eP):Prop:=(x.2.2.1=[]\/∃y∈s.2.1,y.1=x.2.2.1)/\∃y∈s.2.2.1,y.1=x.2.2.2.1
def S7(s:az)(x:fX):Prop:=(∃y∈s.2.2.1,y.1=x.1)/\1<=x.2.1/\x.2.1<=1000
structure NC (s:az):Prop where
 b:As 1 (0,[],[],s.1,())
 i:As 2 (0,[],s.2.1,[],())
 l:As 3 (0,s.2.2.1,[],[],())
 lays:E7 s.2.2.1 s.2.2.2.1
 aji:s.2.2.2.2.1.length<=32
 tops:∀x∈s.2.1,Q5 s x
 refs:∀x∈s.1,zC s x
 Yv:∀x∈s.2.2.2.2.1,S7 s x
 aiy:(s.2.2.2.2.1.map (·.1)).Pairwise λx y=>ft x y=true
def ajj{p:Prop}[Decidable p](h:p):¬decide (¬p)=true:=by simpa using h
def ajk{p:Prop}[Decidable p](h:¬p):decide (¬p)=true:=dD h
def afy(s:az)(x:eP)(b:s.2.1.length<=1000000)(c:Bool):∃q,Loop (ox (s,()) x) ((c,(0:Int),()),())=ab ((c||s.2.1.any (λy=>decide (y.1=x.2.2.1)),q),()):=by
 obtain⟨t,_,h,j⟩:=zr (f:=ox (s,()) x) s.2.1 (λ(c:Bool) i=>((c,i,()),())) (λc _ y=>c||decide (y.1=x.2.2.1)) (λc=>((c,(s.2.1.length:Int),()),())) (λ_ _=>True) ai (λc i y d b e _=>by
  refine⟨?_,trivial⟩;unfold ox;rw[aq b,ae,e];cases c with
  | true=>rfl
  | false =>
    rw[af,au d,aa,cZ];by_cases q:y.1=x.2.2.1<;>simp[q,dq]) (λc _=>by
  unfold ox;rw[aw,af];rfl) c trivial
 refine⟨((s.2.1.length:Int),()),h.trans ?_⟩;have:t=(c||s.2.1.any λy=>decide (y.1=x.2.2.1)):=by
  have key:∀(l:List bN) (k:Nat) (c:Bool),(l.zipIdx k).foldl (λa p=>a||decide (p.1.1=x.2.2.1)) c=(c||l.any λy=>decide (y.1=x.2.2.1)):=by
   intro l;induction l with
   | nil=>intro k c;simp
   | cons y r g=>intro k c;rw[List.zipIdx_cons,Zz,g];simp[ZD]
  grind
 grind
open Classical in
def Q6(s:az)(h:BdS s):∃b,ka (s,())=ab (b,())/\(b=true↔NC s):=by
 have R:=h.ll;obtain⟨S,T,K⟩:=Cl 1 (0,[],[],s.1,()) (.inl rfl) rfl h.akS;obtain⟨U,V,L⟩:=Cl 2 (0,[],s.2.1,[],()) (.inr<|.inl rfl) rfl h.akR;obtain⟨W,X,M⟩:=Cl 3 (0,s.2.2.1,[],[],()) (.inr<|.inr rfl) rfl h.akQ;obtain⟨N,Y,O⟩:=S6 s ai h.dl;have F:ba (32:Int) (@len fX s.2.2.2.2.1)=decide (32<s.2.2.2.2.1.length):=by unfold ba len;apply gX.2;omega
 unfold ka;rw[T,aa,EZ (by rw[V,aa]),EZ (by rw[X,aa]),EZ (by rw[Y,aa]),F];by_cases n:S=0
 rotate_left
 .rw[ax n];exact⟨false,rfl,λq=>(by cases q),λq=>absurd (K.2 q.b) n⟩
 by_cases r:U=0
 rotate_left
 .rw[aE n,ax r];exact⟨false,rfl,λq=>(by cases q),λq=>absurd (L.2 q.i) r⟩
 by_cases u:W=0
 rotate_left
 .rw[aE n,aE r,ax u];exact⟨false,rfl,λq=>(by cases q),λq=>absurd (M.2 q.l) u⟩
 by_cases A:N=true
 rotate_left
 .have:N=false:=by simpa using A
  rw[aE n,aE r,aE u,this];exact⟨false,rfl,λq=>(by cases q),λq=>absurd (O.2 q.lays) A⟩
 by_cases P:32<s.2.2.2.2.1.length
 .rw[aE n,aE r,aE u,A,dD P];exact⟨false,rfl,λq=>(by cases q),λq=>by have:=q.aji;omega⟩
 rw[aE n,aE r,aE u,A,cL P];have e:∀id,mi (s,id,())=ab (BC s.2.2.1 id,()):=λid=>NB s id ai;have g:∀id,ba (BC s.2.2.1 id) 0=decide (¬∃y∈s.2.2.1,y.1=id):=λid=>by unfold ba;exact gX.2 afx
 rcases iK (f:=ow (s,())) s.2.1 (λi=>((false,i,()),())) (λ_ x=>decide (¬Q5 s x)) (λi x=>(1,(false,(i:Int),()),())) (0,(false,len s.2.1,()),()) (by have:=h.il;omega) (λi x d o v=>by
  unfold ow;rw[aq o,ae,au d,aa,cZ,v];by_cases q:x.2.2.1=[]
  .rw[dD q,aG,af,aR (ajj<|show Q5 s x from .inl q)]
  .rw[cL q,aA,ae,aa,e,aa,g];by_cases z:∃y∈s.2.2.1,y.1=x.2.2.1
   .rw[cL<|λw=>w z,af,aR (ajj<|show Q5 s x from .inr z)]
   .rw[dD z,ae,aX (ajk<|show ¬Q5 s x by rintro(w|w);exact q w;exact z w)]) (by
  unfold ow;dsimp only;rw[aw,af];rfl) with ⟨i,x,d,B,_,j⟩|⟨Q,j⟩
 .rw[j,aa];exact⟨false,rfl,λq=>(by cases q),λq=>absurd (q.tops x<|eQ d) (iq B)⟩
 have t1:∀x∈s.2.1,Q5 s x:=λx d=>by
  obtain⟨i,o⟩:=bz.1 d
  grind
 rw[j,aa];rcases iK (f:=oz (s,())) s.1 (λi=>((false,i,()),())) (λ_ x=>decide (¬zC s x)) (λi x=>(1,(false,(i:Int),()),())) (0,(false,len s.1,()),()) (by have:=h.bl;omega) (λi x d o v=>by
  obtain⟨q,Z⟩:=afy s x (by have:=h.il;omega) (bH x.2.2.1 []);unfold oz;rw[aq o,ae,au d,aa,Z,aa,v];rw[EZ<|by rw[e,aa,g]];have G:(bH x.2.2.1 []||s.2.1.any λy=>decide (y.1=x.2.2.1))=decide (x.2.2.1=[]\/∃y∈s.2.1,y.1=x.2.2.1):=by
   rw[cZ,Bool.decide_or]
   grind
  rw[G];by_cases m:x.2.2.1=[]\/∃y∈s.2.1,y.1=x.2.2.1
  .by_cases p:∃y∈s.2.2.1,y.1=x.2.2.2.1
   .rw[dD m,cL (λw=>w p),aR (ajj<|show zC s x from⟨m,p⟩)];rfl
   .rw[dD m,dD p,aX (ajk<|show ¬zC s x from λw=>p w.2)];rfl
  .rw[cL m,aX (ajk<|show ¬zC s x from λw=>m w.1)];rfl) (by
  unfold oz;dsimp only;rw[aw,af];rfl) with ⟨i,x,d,B,_,j⟩|⟨Q,j⟩
 .rw[j,aa];exact⟨false,rfl,λq=>(by cases q),λq=>absurd (q.refs x<|eQ d) (iq B)⟩
 have t2:∀x∈s.1,zC s x:=λx d=>by
  obtain⟨i,o⟩:=bz.1 d
  grind
 rw[j,aa];obtain⟨t,c⟩:∃t:Nat->fX->Prop,∀i x,t i x↔¬(S7 s x/\∀(k:Nat) (y:fX),k+1=i->s.2.2.2.2.1[k]?=ab y->ft y.1 x.1=true):=⟨_,λ_ _=>gf⟩;rcases iK (f:=oA (s,())) s.2.2.2.2.1 (λi=>((false,i,()),())) (λi x=>decide (t i x)) (λi x=>(1,(false,(i:Int),()),())) (0,(false,len s.2.2.2.2.1,()),()) (by have:=h.ml;omega) (λi x d o v=>by
  unfold oA;dsimp only;rw[aq o,ae,au d,aa,e,aa,g,v];by_cases m:∃y∈s.2.2.1,y.1=x.1
  rotate_left
  .rw[dD m,ae,aX (dD<|(c i x).2 λw=>m w.1.1)]
  rw[cL<|λw=>w m,af];by_cases p:1<=x.2.1
  rotate_left
  .rw[aO ai,ae,aX (dD<|(c i x).2 λw=>p w.1.2.1)]
  rw[aJ ai,af];by_cases H:x.2.1<=1000
  rotate_left
  .rw[aO ai,ae,aX (dD<|(c i x).2 λw=>H w.1.2.2)]
  rw[aJ ai,af];cases i with
  | zero =>
    rw[show ba (0:Int) ((0:Nat):Int)=false from rfl,af,aR (by rw[TP,c];exact λw=>w ⟨⟨m,p,H⟩,λk y I=>ai⟩)]
  | succ k =>
    obtain⟨y,C⟩:∃y,s.2.2.2.2.1[k]?=ab y:=⟨_,ik (show k<s.2.2.2.2.1.length by omega)⟩;rw[aO ai,ae,dL ai ai,show((k+1:Nat):Int)-1=(k:Int) by omega,au C,aa];by_cases E:ft y.1 x.1=true
    .rw[E,aG,af,aR (by
     rw[TP,c];refine λw=>w ⟨⟨m,p,H⟩,λk' y' I D=>?_⟩;obtain rfl:k'=k:=ai;rw[C] at D;obtain rfl:=aQ D;exact E)]
    .rw[show ft y.1 x.1=false by simpa using E,aA,ae,aX (dD<|(c _ x).2 λw=>E (w.2 k y rfl C))]) (by
  unfold oA;dsimp only;rw[aw,af];rfl) with ⟨i,x,d,B,_,j⟩|⟨Q,j⟩
 .rw[j,aa];refine⟨false,rfl,λq=>(by cases q),λq=>absurd ⟨q.Yv x<|eQ d,λk y I C=>?_⟩ ((c i x).1<|iq B)⟩;subst I;exact M3.1 q.aiy k y.1 x.1 (by rw[Ep,C];rfl) (by rw[Ep,d];rfl)
 rw[j,aa];have J:∀(i:Nat) (x:fX),s.2.2.2.2.1[i]?=ab x->S7 s x/\∀(k:Nat) (y:fX),k+1=i->s.2.2.2.2.1[k]?=ab y->ft y.1 x.1=true:=λi x d=>by
  grind
 refine⟨true,rfl,λ_=>⟨K.1 n,L.1 r,M.1 u,O.1 A,ai,t1,t2,λx d=>?_,M3.2 λi a b v hb=>?_⟩,λ_=>rfl⟩
 .obtain⟨i,o⟩:=bz.1 d
  grind
 .grind
def ND{b:Type}{p:b->Bool}:∀{l:List b} {x:b},x∈l.takeWhile p->p x=true:=by
 intro l;induction l with
 | nil=>intro x h;cases h
 | cons a r c =>
   intro x h;rw[TO] at h;split at h
   .rename_i d;rcases lW.1 h with rfl|h
    .exact d
    .exact c h
   .cases h
section
variable {α:Type} (key:α->Tx)
def nx(l:List α)(x:α):List α:=l.takeWhile (λy=>ft (key y) (key x))++[x]++l.dropWhile (λy=>ft (key y) (key x))
def cK(l:List α)(p:Tx):Nat:=(l.takeWhile λy=>ft (key y) p).length
def vm(l:List α):Prop:=(l.map key).Pairwise λx y=>ft x y=true
def pC(l:List α)(p:Tx):cK key l p<=l.length:=by
 unfold cK;have:=congrArg List.length (El (p:=λy:α=>ft (key y) p) (l:=l));rw[jB] at this;omega
def AA(l:List α)(x:α):l.take (cK key l<|key x)=l.takeWhile (λy=>ft (key y) (key x))/\l.drop (cK key l<|key x)=l.dropWhile (λy=>ft (key y) (key x)):=by
 have e:=El (p:=λy:α=>ft (key y) (key x)) (l:=l);refine⟨?_,?_⟩
 .unfold cK
  conv=>lhs;rw[<-e]
  rw[adw];rw[e]
 .unfold cK
  conv=>lhs;rw[<-e]
  rw[List.drop_left'];rw[e]
def tm(l:List α)(x:α)(a:l.length<=1000000):uJ l ((cK key l (key x):Nat):Int) [x]=ab (nx key l x):=by
 have b:=pC key l (key x);unfold uJ nx;rw[show inside 0 ((cK key l (key x):Nat):Int) (len l)=true from aV aK ai fi,bo (by simp only[jC,nQ];omega)];rw[qJ,(AA key l x).1,(AA key l x).2];rfl
def tn{S R:Type}{f:S->Option (S⊕R)}(l:List α)(p:Tx)(z:l.length<=1000000)(g:Int->S)(c:Nat->R)(d:R)
  (t:∀(i:Nat) (y:α),l[i]?=ab y->f (g (i:Int))=ab (if ft (key y) p=true then .inl (g ((i+1:Nat):Int)) else .inr (c i))) (u:f (g (l.length:Int))=ab (.inr d)) :
  Loop f (g 0)=ab (if cK key l p<l.length then c (cK key l p) else d):=by
 have m:∀k:Nat,k<=l.length->(∀(j:Nat) (y:α),j<k->l[j]?=ab y->ft (key y) p=true)->(∀y,l[k]?=ab y->ft (key y) p=false)->cK key l p=k:=by
  intro k n o q;have e:l.takeWhile (λy=>ft (key y) p)=l.take k:=by
   clear t u
   revert k
   induction l with
   | nil=>intro k n _ _;simp
   | cons a r A =>
     intro k n o q;cases k with
     | zero=>rw[TO,q a rfl];rfl
     | succ k =>
       rw[TO,o 0 a ai rfl,aX rfl,Zr,A (by simp at z;omega) k (by simp at n;omega) (λj y v b=>o (j+1) y ai b) λy b=>q y b]
  unfold cK;rw[e,kC];omega
 rcases iK (f:=f) l g (λ_ y=>!ft (key y) p) (λi _=>c i) d ai (λi y b w D=>by
  rw[t i y b];cases ft (key y) p<;>rfl) u with ⟨i,x,hx,B,v,h⟩|⟨C,h⟩
 .have w:=aF hx;have:=m i ai (λj y s b=>by simpa using v j y s b) (λy b=>by
   rw[hx] at b;obtain rfl:=aQ b;simpa using B)
  rw[h,this,aX w]
 .have:=m l.length (cp _) (λj y _ b=>by simpa using C j y b) (λy b=>by rw[Lb<|cp _] at b;cases b);rw[h,this,aR ai]
def Io(l:List α)(x:α):(nx key l x).Perm (x::l):=by
 unfold nx;have e:=El (p:=λy:α=>ft (key y) (key x)) (l:=l);have h:(l.takeWhile (λy=>ft (key y) (key x))++[x]++l.dropWhile λy=>ft (key y) (key x)).Perm (x::(l.takeWhile (λy=>ft (key y) (key x))++l.dropWhile λy=>ft (key y) (key x))):=by
  rw[uw];exact List.perm_middle
 rw[e] at h;exact h
def V6{l:List α}{x y:α}:y∈nx key l x↔y=x\/y∈l:=by rw[(Io key l x).mem_iff,lW]
def V7(l:List α)(x:α):(nx key l x).length=l.length+1:=by rw[(Io key l x).length_eq,jC]
def vm.inj{l:List α}(h:vm key l){x y:α}(f:x∈l)(g:y∈l)(e:key x=key y):x=y:=by
 unfold vm at h;rw[TX] at h;obtain⟨i,a⟩:=bz.1 f;obtain⟨j,b⟩:=bz.1 g;have c:=aF a;have d:=aF b;rw[ik c] at a;rw[ik d] at b;obtain rfl:=aQ a;obtain rfl:=aQ b;rcases P5 i j with q|q|q
 .have:=Dr.1 h i j c d q;rw[e,kq] at this;cases this
 .subst q;rfl
 .have:=Dr.1 h j i d c q;rw[e,kq] at this;cases this
def ahB{l:List α}(h:vm key l){x:α}(f:∀y∈l,key y≠key x):vm key (nx key l x):=by
 unfold vm at h⊢;rw[TX] at h⊢;unfold nx;have e:=El (p:=λy:α=>ft (key y) (key x)) (l:=l);have hA:∀y∈l.takeWhile (λy=>ft (key y) (key x)),ft (key y) (key x)=true:=λy hy=>ND (p:=λy=>ft (key y) (key x)) hy;have g:∀y∈l.dropWhile (λy=>ft (key y) (key x)),ft (key x) (key y)=true:=by
  clear e hA;induction l with
  | nil=>intro y hy;cases hy
  | cons a r i =>
    intro y hy;rw[Ov] at hy;rw[TR] at h;split at hy
    .exact i h.2 (λz j=>f z (va _ j)) y hy
    .rename_i k;have c:ft (key x) (key a)=true:=by
      rcases C9 (key a) (key x) with q|q|q
      .exact absurd q k
      .exact absurd q (f a<|pI ..)
      .exact q
     rcases lW.1 hy with rfl|hy
     .exact c
     .exact C8 c (h.1 y hy)
 rw[<-e] at h;rw[adk] at h;obtain⟨m,n,o⟩:=h;rw[uw,adk];refine⟨m,?_,λa c b d=>?_⟩
 .rw[Zo,TR];exact⟨g,n⟩
 .rw[Zo] at d;rcases lW.1 d with rfl|d
  .exact hA a c
  .exact o a c b d
def u7(l:List α)(p:Tx):List α:=l.filter λx=>decide (key x≠p)
def ahC{l:List α}{p:Tx}{x:α}:x∈u7 key l p↔x∈l/\key x≠p:=by unfold u7;rw[y9,TP]
def K2(l:List α)(p:Tx):(u7 key l p).Sublist l:=List.filter_sublist
def V8{l:List α}{p:Tx}(h:∀x∈l,key x≠p):u7 key l p=l:=by
 unfold u7;rw[Hj];intro x a;exact dD (h x a)
def ahD{l:List α}(h:vm key l){i:Nat}{x:α}(b:l[i]?=ab x):l.take i++l.drop (i+1)=u7 key l (key x):=by
 unfold vm at h;rw[TX] at h;have a:=aF b;have hd:l.drop i=x::l.drop (i+1):=by
  rw[y8 a];rw[ik a] at b;rw[aQ b]
 have d:l=l.take i++(x::l.drop (i+1)):=by rw[<-hd,BI]
 rw[d,adk,TR] at h;obtain⟨_,⟨e,_⟩,f⟩:=h;unfold u7
 conv=>rhs;rw[d]
 rw[Lj,List.filter_cons,aR bb]
 congr 1
 .symm;rw[Hj];intro y c;exact dD (EL<|f y c x<|pI ..)
 .symm;rw[Hj];intro y c;exact dD λq=>EL (e y c) q.symm
end
abbrev tp:=Int×Tx×Int×Tx×al
def iS(e:Int):tp:=(e,[],0,[],())
def xA(id:Tx):tp:=(0,id,0,[],())
def xK(s:az):List Nm:=s.2.1.flatMap ofI
def eN(s:az):List Nm:=s.2.2.1.flatMap ofL
def Bh(s:az):List Nm:=s.1.flatMap ofB
structure AB (s:az):Prop where
 ll:s.2.2.1.length<=40
 il:s.2.1.length<=40
 bl:s.1.length<=40
 ln:∀x∈s.2.2.1,sa x.2.2.1
 pJ:∀x∈s.2.1,sa x.2.1
 bn:∀x∈s.1,sa x.2.1
 it:∀x∈s.2.1,BB x.2.2.2.2.1
def BdS.hd{s:az}(h:BdS s):AB s:=⟨h.ll,h.il,h.bl,λx a=>(h.xl x a).2.2.1,λx a=>(h.xi x a).2.1,λx a=>(h.xb x a).2.1,λx a=>(h.xi x a).2.2.2⟩
def AB.ajl{s:az}(h:AB s):FewB (0,s.2.2.1,[],[],()):=⟨h.ll,h.ln,bb,λx a=>(by cases a),bb,λx a=>(by cases a)⟩
def AB.ahE{s:az}(h:AB s):FewB (0,[],s.2.1,[],()):=⟨bb,λx a=>(by cases a),h.il,h.pJ,bb,λx a=>(by cases a)⟩
def AB.ahF{s:az}(h:AB s):FewB (0,[],[],s.1,()):=⟨bb,λx a=>(by cases a),bb,λx a=>(by cases a),h.bl,h.bn⟩
def Ip{s:az}(h:AB s):Small (eN s):=Db 3 _ h.ajl
def Q7{s:az}(h:AB s):Small (xK s):=Db 2 _ h.ahE
def aau{s:az}(h:AB s):(eN s).length<=40:=iU (lT Sw _) h.ll
def ahG{s:az}(h:AB s):(xK s).length<=40:=iU (lT KO _) h.il
def tq(s:az)(h:AB s):lB (s,())=ab (eN s,()):=by
 unfold lB;rw[vT 3 _ h.ajl,aa];rfl
def zD(s:az)(h:AB s):gG (s,())=ab (xK s,()):=by
 unfold gG;rw[vT 2 _ h.ahE,aa];rfl
def fW(s:az)(a:Tx)(h:AB s):dF (s,a,())=ab (aW (eN s) a):=by
 unfold dF;rw[tq s h,aa,mJ _ _ (Ip h) (by have:=aau h;omega),aa]
def Bi(s:az)(a:Tx)(h:AB s):iH (s,a,())=ab (aW (xK s) a):=by
 unfold iH;rw[zD s h,aa,mJ _ _ (Q7 h) (by have:=ahG h;omega),aa]
def rn(l:List Tx)(h:l.length<=4294967296):bc (l,())=ab (l,()):=w8 l h
def rp(l:List Item)(h:l.length<=4294967296):bQ (l,())=ab (l,()):=by
 unfold bQ;rw[cN h];rfl
def NF(s:az)(x:bN)(p:s.2.1.length<=1000000)(v:x.2.1.length<=4294967296)(l:x.2.2.2.2.1.length<=4294967296)(m:∀y∈s.2.1,y.1≠x.1) :
  ix (s,x,())=ab ((s.1,(nx (·.1) s.2.1 x,s.2.2)),()):=by
 obtain⟨w,b,c⟩:=s;obtain⟨a,d,e,g,j,u⟩:=x;dsimp only at p v l m;unfold ix;dsimp only;rw[rn _ v,aa,rp _ l,aa];unfold ef;rw[aa,cN ai,ae];have r:Loop (fe ((w,b,c),(a,d,e,g,j,u),())) (((0:Int),(0:Int),()),(),a,())=ab (0,((0:Int),len b,()),(),a,()):=by
  rcases iK (f:=fe ((w,b,c),(a,d,e,g,j,u),())) b (λi=>(((0:Int),i,()),(),a,())) (λ_ y=>decide (y.1=a)) (λi _=>(1,((i:Int),(i:Int),()),(),a,())) (0,((0:Int),len b,()),(),a,()) ai (λi y n l A=>by
   unfold fe ef;rw[aq l,ae,au n,aa,aa,cZ,ew,A];by_cases q:y.1=a<;>simp[q]) (by unfold fe;dsimp only;rw[aw,af];rfl) with ⟨i,y,n,B,_,_⟩|⟨_,h⟩
  .grind
  .exact h
 rw[r,aa];rw[b9,ae,show cu (0:Int) (-1)=false from rfl,af,aa];have o:=tn (f:=qt (((),()),b,())) (·.1) b a p (λi=>(((0:Int),i,()),(),(a,d,e,g,j,u),())) (λi=>(1,((i:Int),(i:Int),()),(),(a,d,e,g,j,u),()))
  (0,((0:Int),(b.length:Int),()),(),(a,d,e,g,j,u),()) (λi y n=>by
   have l:=aF n;unfold qt ef;dsimp only;rw[aq l,ae,aM ai fi,ae,au n,aa,aa,aa,aL ai];cases ft y.1 a<;>rfl) (by unfold qt;dsimp only;rw[aw,af])
 rw[o,aa];have k:=tm (·.1) b ((a,d,e,g,j,u):bN) p;unfold bG;by_cases z:cK (λy:bN=>y.1) b a<b.length
 .rw[aX z];dsimp only;rw[show de 1 0=false from rfl,af,aJ ai,af];rw[show uJ b ((cK (λy:bN=>y.1) b a:Nat):Int) [((a,d,e,g,j,u):bN)]=_ from k,aa]
 .rw[aR z];have t:cK (λy:bN=>y.1) b a=b.length:=by have:=pC (λy:bN=>y.1) b a;omega
  rw[b9,ae,aO aK,ae];rw[bE,<-t,show uJ b ((cK (λy:bN=>y.1) b a:Nat):Int) [((a,d,e,g,j,u):bN)]=_ from k,aa]
def xB(s:az)(id:Tx)(h:AB s):∃r,mf (s,id,())=ab r/\(∀x∈s.2.1,vm (·.1) s.2.1->x.1=id->r=(x,true,())):=by
 unfold mf;rcases iK (f:=qx (s,id,())) s.2.1 (λi=>((false,i,()),(([]:Tx),([]:List Tx),([]:Tx),([]:Tx),([]:List Item),()),())) (λ_ y=>decide (y.1=id)) (λi y=>(1,(true,(i:Int),()),y,())) (0,(false,len s.2.1,()),(([]:Tx),([]:List Tx),([]:Tx),([]:Tx),([]:List Item),()),()) (by have:=h.il;omega) (λi y a d k=>by
  have e:=eQ a;unfold qx;rw[aq d,ae,au a,aa,cZ,k];by_cases q:y.1=id
  .rw[dD q,ae,rn _ (h.pJ y e).small,aa,rp _ (by have:=(h.it y e).1;omega),aa];rfl
  .rw[cL q,af];rfl) (by unfold qx;dsimp only;rw[aw,af];rfl) with ⟨i,y,a,l,_,b⟩|⟨m,b⟩
 .rw[b,aa];refine⟨(y,true,()),rfl,λx c g j=>?_⟩;rw[g.inj (λz:bN=>z.1) c (eQ a)<|j.trans (iq l).symm]
 .rw[b,aa];refine⟨_,rfl,λx c g j=>?_⟩;obtain⟨i,d⟩:=bz.1 c
  grind
def crI(s:az)(b:Tx)(a:List Tx)(c:Tx)(d:Int):az×tp×al :=
 if jd a≠0\/64<c.length then(s,iS 1,()) else
 if b≠[]/\(aW (eN s) b).2.1≠0 then(s,iS (aW (eN s) b).2.1,()) else
 if mH (xK s) [] a≠0 then(s,iS<|mH (xK s) [] a,()) else
 if(cD (xK s) d).2.1≠0 then(s,iS (cD (xK s) d).2.1,()) else
 ((s.1,(nx (·.1) s.2.1 ((cD (xK s) d).1,a,(if b=[] then [] else(aW (eN s) b).1),c,[],()),s.2.2)),xA (cD (xK s) d).1,())
def ahH{s:az}{x:bN}(a:x∈s.2.1):((x.1,x.2.1,()):Nm)∈xK s:=by
 unfold xK;rw[Lh];exact⟨x,a,by unfold ofI;exact zO.2 rfl⟩
def GP(s:az)(c:Tx)(a:List Tx)(b:Tx)(d:Int)(h:AB s)(k:a.length<=4294967296)(n:s.2.1.length<=1000000) :
  qv (s,c,a,b,d,())=ab (crI s c a b d):=by
 unfold qv crI;have l:ba (64:Int) (@len UInt8 b)=decide (64<b.length):=by unfold ba len;apply gX.2;omega
 rw[rh a k,aa,l];by_cases c1:jd a=0
 rotate_left
 .rw[aX<|.inl c1,ax c1];rfl
 by_cases c2:64<b.length
 .rw[aX<|.inr c2,aE c1,dD c2];rfl
 rw[aR<|by rintro(q|q);exact q c1;exact c2 q,aE c1,cL c2,aG,aA,ae,af,cZ];have g:=oh (xK s) [] a (Q7 h) k;have e:=Df (xK s) d;have rest:∀t:Tx,(ag (ao (aS (0:Int) 0) (ag (gG (s,())) λ(j:(List Nm)×al)=>ag (gu (j.1,([]:Tx),a,())) λ(f:Int×al)=>ab ((f.1,()),()))<|some (((0:Int),()),())) λ(j:(Int×al)×al)=>ag (ao (aS j.1.1 (0:Int))
   (ag (gG (s,())) λ(f:(List Nm)×al)=>ag (gH (f.1,d,())) λ(i:Tx×Int×al)=>ab ((i.2.1,()),(i.1,((a,t,b,([]:List Item),()):List Tx×Tx×Tx×List Item×al)),()))
   (ab ((j.1.1,()),(([]:Tx),a,t,b,([]:List Item),()),()))) λ(f:(Int×al)×bN×al)=>ao (nt<|aS f.1.1 (0:Int))
   (ag (jg (f.1.1,())) λ(i:tp×al)=>ab (s,i.1,()))
   (ag (ix (s,f.2.1,())) λ(i:az×al)=>ab (i.1,((0:Int),f.2.1.1,(0:Int),([]:Tx),()),()))) =
   ab (if mH (xK s) [] a≠0 then(s,iS<|mH (xK s) [] a,()) else
    if(cD (xK s) d).2.1≠0 then(s,iS (cD (xK s) d).2.1,()) else
    ((s.1,(nx (·.1) s.2.1 ((cD (xK s) d).1,a,t,b,[],()),s.2.2)),xA (cD (xK s) d).1,())):=by
  intro t;rw[show aS (0:Int) 0=true from rfl,ae,zD s h,aa];rw[g,aa,aa];by_cases c4:mH (xK s) [] a=0
  rotate_left
  .rw[aX c4,ax c4,af,aa];rw[ax c4,aA,ae];rfl
  rw[aR<|λq=>q c4,aE c4,ae,aa];rw[e,aa,aa];by_cases c5:(cD (xK s) d).2.1=0
  rotate_left
  .rw[aX c5,ax c5,aA,ae];rfl
  rw[aR<|λq=>q c5,aE c5,aG,af];obtain⟨_,_,m⟩:=GC c5;rw[NF s _ n k bb<|λy o=>m _ (ahH o),aa];rfl
 by_cases c3:c=[]
 .rw[dD c3,aG,af,aa,aR (λq=>q.1 c3),aX c3];simp_all
 .rw[cL c3,aA,ae,fW s c h,aa,aa,aR c3];by_cases c6:(aW (eN s) c).2.1=0
  .simp_all
  .rw[aX ⟨c3,c6⟩,ax c6,af,aa];rw[ax c6,af,aa];rw[ax c6,aA,ae];rfl
set_option maxRecDepth 100000
abbrev dK:=((List<|Sb×(List Sb)×Sb×Sb×Sb×(List<|Sb×Sb×Sb×al)×al)×(List<|Sb×(List Sb)×Sb×Sb×(List<|Sb×Sb×Sb×al)×al)×(List<|Sb×Sb×(List Sb)×Sb×Int×Int×Bool×al)×(List Sb)×(List<|Sb×Int×al)×al)
abbrev S8:=((List<|Sb×(List Sb)×Sb×Sb×Sb×(List<|Sb×Sb×Sb×al)×al)×(List<|Sb×(List Sb)×Sb×Sb×(List<|Sb×Sb×Sb×al)×al)×(List<|Sb×Sb×(List Sb)×Sb×Int×Int×Bool×al)×al×(List<|Sb×Int×al)×al)
abbrev mv:=(Sb×(List Sb)×Sb×Sb×Sb×(List<|Sb×Sb×Sb×al)×al)
abbrev NG:=(Sb×Sb×(List Sb)×Sb×Int×Int×Bool×al)
abbrev mw:=(Int×Sb×Int×Sb×al)
abbrev oE:=(Int×Int×Sb×Sb×(List Sb)×Sb×Sb×Int×al)
abbrev S9:=(Sb×(List Sb)×Sb×Sb×(List<|Sb×Sb×Sb×al)×al)
abbrev Ta:=((Int×al)×S8×(List Sb)×al)
abbrev NH:=(Sb×Sb×Sb×al)
abbrev qS:=(Int×Int×al)
abbrev GQ:=(ay×((List ay)×(ay×(ay×(ay×((List<|ay×(ay×(ay×al)))×al))))))
abbrev K3:=(Sb×(List Sb)×al)
abbrev K4:=(Nat×qS×Sb×al)
abbrev GR:=(Bool×Int×al)
abbrev aav:=((al×Int×al)×(List Sb)×al)
abbrev alF:=((Nat×(Int×al)×S8×(List Sb)×al))
abbrev K5:=(qS×Sb×al)
abbrev aaw:=(Nat×GR×al)
abbrev aax:=((Int×al)×(al×al×al)×(List<|Int)×al)
abbrev aay:=((al×Int×al)×(List mw)×dK×al)
def bX(l:List GQ)(x:(Int×((List GQ)×al))):Option (List GQ):=uJ l x.1 x.2.1
def cH(l:List GQ)(x:(Int×(Int×al))):Option (List GQ):=HI l x.1 x.2.1
def pD(x:dK×Sb×al):Option (mw×al) :=
 ag (dF (x.1,x.2.1,())) (λa=>ao (nt<|aS a.2.1 0)
 (ag (ez (a.2.1,())) λc=>ab (c.1,()))
 (ag (iI (x.1,a.1,())) λc=>ag (mq (x.1,a.1,())) λd=>ao (nt<|aS d.2.1 0)
 (ag (ez (d.2.1,())) λb=>ab (b.1,()))
 (ag (jl (x.1,c.1.2.1,())) λb=>ao (nt<|aS b.2.1 0)
 (ag (ez (b.2.1,())) λe=>ab (e.1,()))
 (ag (qA (b.1,d.1,())) λe=>ag (vY (e.1,())) λf=>ab (((0:Int),a.1,(0:Int),f.1,()),())))))
def kx(x:Int×al):Option (mw×al) :=
 ab ((x.1,([]:ay),(0:Int),([]:ay),()),())
def ky(x:dK×al):Option ((List K3)×al) :=
 ag (qN ((1:Int),((0:Int),([]:List NG),([]:List S9),x.1.1,()),())) (λa=>ab (a.1,()))
def dC(x:(List mv)×al):Option ((List mv)×al) :=
 bif fits (len x.1) then ab (x.1,()) else ah
def jo(x:dK×mv×al)(a:qS×Sb×al):Option (K5⊕K4) :=
 ao (ba a.1.2.1<|len x.1.1)
 (ao (within a.1.2.1<|len x.1.1)
 (ag (idx x.1.1 a.1.2.1) λb=>ao (bH b.1 a.2.1)
 (ab<|Sum.inr (1,(a.1.2.1,a.1.2.1,()),a.2.1,()))
 (ab<|Sum.inl ((a.1.1,aH i64 a.1.2.1 1,()),a.2.1,())))
 ah)
 (ab<|Sum.inr (0,(a.1.1,a.1.2.1,()),a.2.1,()))
def ss(x:dK×mv×al)(a:qS×mv×al):Option ((qS×mv×al)⊕(Nat×qS×mv×al)) :=
 ao (ba a.1.2.1<|len x.1.1)
 (ao (within a.1.2.1<|len x.1.1)
 (ag (idx x.1.1 a.1.2.1) λb=>ao (nt<|ft b.1 a.2.1.1)
 (ab<|Sum.inr (1,(a.1.2.1,a.1.2.1,()),a.2.1,()))
 (ab<|Sum.inl ((a.1.1,aH i64 a.1.2.1 1,()),a.2.1,())))
 ah)
 (ab<|Sum.inr (0,(a.1.1,a.1.2.1,()),a.2.1,()))
def su(b:(al×al)×(List mv)×al)(a:qS×mv×al):Option ((qS×mv×al)⊕(Nat×qS×mv×al)) :=
 ao (ba a.1.2.1<|len b.2.1)
 (ao (within a.1.2.1<|len b.2.1)
 (ag (idx b.2.1 a.1.2.1) λc=>ao (nt<|ft c.1 a.2.1.1)
 (ab<|Sum.inr (1,(a.1.2.1,a.1.2.1,()),a.2.1,()))
 (ab<|Sum.inl ((a.1.1,aH i64 a.1.2.1 1,()),a.2.1,())))
 ah)
 (ab<|Sum.inr (0,(a.1.1,a.1.2.1,()),a.2.1,()))
def kf(x:dK×mv×al):Option (dK×al) :=
 ao (fits<|len x.1.1)
 (ag (Loop (jo x) (((0:Int),(0:Int),()),x.2.1.1,())) λd=>ao (de d.1 0)
 (ag (bc (x.2.1.2.1,())) λa=>ag (bQ (x.2.1.2.2.2.2.2.1,())) λe=>ag (Loop (ss x) (((0:Int),(0:Int),()),(x.2.1.1,a.1,x.2.1.2.2.1,x.2.1.2.2.2.1,x.2.1.2.2.2.2.1,e.1,x.2.1.2.2.2.2.2.2),())) λc=>ao (de c.1 0)
 (ag (bX x.1.1 ((((len x.1.1,()),()).1).1,([c.2.2.1]:List mv),())) λb=>ab ((b,x.1.2.1,x.1.2.2.1,x.1.2.2.2.1,x.1.2.2.2.2.1,x.1.2.2.2.2.2),()))
 (ag (bX x.1.1 (((ao (ba c.2.1.1 0)
 ((len x.1.1,()),())
 ((c.2.1.1,()),())).1).1,([c.2.2.1]:List mv),())) λb=>ab ((b,x.1.2.1,x.1.2.2.1,x.1.2.2.2.1,x.1.2.2.2.2.1,x.1.2.2.2.2.2),())))
 (ag (ao (cu 0 d.2.1.1)
 (ag (cH x.1.1 (d.2.1.1,aH i64 d.2.1.1 1,())) λa=>ab (((),()),a,()))
 (ab (((),()),x.1.1,()))) λa=>ag (bc (x.2.1.2.1,())) λe=>ag (bQ (x.2.1.2.2.2.2.2.1,())) λc=>ag (Loop (su a) (((0:Int),(0:Int),()),(x.2.1.1,e.1,x.2.1.2.2.1,x.2.1.2.2.2.1,x.2.1.2.2.2.2.1,c.1,x.2.1.2.2.2.2.2.2),())) λb=>ao (de b.1 0)
 (ag (bX a.2.1 ((((len a.2.1,()),()).1).1,([b.2.2.1]:List mv),())) λf=>ab ((f,x.1.2.1,x.1.2.2.1,x.1.2.2.2.1,x.1.2.2.2.2.1,x.1.2.2.2.2.2),()))
 (ag (bX a.2.1 (((ao (ba b.2.1.1 0)
 ((len a.2.1,()),())
 ((b.2.1.1,()),())).1).1,([b.2.2.1]:List mv),())) λf=>ab ((f,x.1.2.1,x.1.2.2.1,x.1.2.2.2.1,x.1.2.2.2.2.1,x.1.2.2.2.2.2),()))))
 ah
def lL(x:dK×Sb×(List Sb)×Sb×Int×al):Option (dK×mw×al) :=
 ag (fD (x.2.2.1,())) (λg=>ao (ao (nt<|nt<|aS g.1 0)
 (ba 64<|len x.2.2.2.1)
 true)
 (ag (kx ((1:Int),())) λb=>ab (x.1,b.1,()))
 (ag (ao (nt<|bH x.2.1 ([]:ay))
 (ag (iH (x.1,x.2.1,())) λb=>ab ((b.2.1,()),(([]:ay),x.2.2.1,b.1,([]:ay),x.2.2.2.1,([]:List NH),()),()))
 (ab (((0:Int),()),(([]:ay),x.2.2.1,([]:ay),([]:ay),x.2.2.2.1,([]:List NH),()),()))) λb=>ag (ao (aS b.1.1 0)
 (ag (ky (x.1,())) λe=>ag (gu (e.1,([]:ay),x.2.2.1,())) λa=>ab ((a.1,()),()))
 (ab ((b.1.1,()),()))) λe=>ag (ao (aS e.1.1 0)
 (ag (ky (x.1,())) λa=>ag (gH (a.1,jR i64 x.2.2.2.2.1 16777215,())) λc=>ab ((c.2.1,()),(c.1,b.2.1.2),()))
 (ab ((e.1.1,()),b.2.1,()))) λa=>ao (nt<|aS a.1.1 0)
 (ag (kx (a.1.1,())) λc=>ab (x.1,c.1,()))
 (ag (mf (x.1,a.2.1.2.2.1,())) λc=>ag (hL (x.1,(((((ao (bH x.2.1 ([]:ay))
 ((),(([]:ay),([]:List Sb),([]:ay),([]:ay),([]:List NH),()),())
 ((),c.1,())).2).1).2).2).1,([]:List Sb),([]:ay),jR i64 (mz i64 x.2.2.2.2.1 24) 16777215,())) λd=>ao (nt<|aS d.2.1.1 0)
 (ag (kx (d.2.1.1,())) λf=>ab (x.1,f.1,()))
 (ag (kf (d.1,(a.2.1.1,a.2.1.2.1,a.2.1.2.2.1,d.2.1.2.1,a.2.1.2.2.2.2),())) λf=>ab (f.1,((0:Int),a.2.1.1,(0:Int),d.2.1.2.1,()),())))))
def wm(x:dK×Sb×al):Option (Sb×Int×al) :=
 ag (ky (x.1,())) (λb=>ag (iG (b.1,x.2.1,())) λa=>ab (a.1,a.2.1,()))
def sv(x:dK×Sb×al)(a:qS×Sb×al):Option (K5⊕K4) :=
 ao (ba a.1.2.1<|len x.1.1)
 (ag (idx x.1.1 a.1.2.1) λb=>ao (bH b.1 a.2.1)
 (ab<|Sum.inr (1,(a.1.2.1,a.1.2.1,()),a.2.1,()))
 (ab<|Sum.inl ((a.1.1,aH i64 a.1.2.1 1,()),a.2.1,())))
 (ab<|Sum.inr (0,(a.1.1,a.1.2.1,()),a.2.1,()))
def rq(x:dK×Sb×al):Option (mv×Bool×al) :=
 ag (Loop (sv x) (((0:Int),(0:Int),()),x.2.1,())) (λb=>ao (de b.1 0)
 (ab ((([]:ay),([]:List Sb),([]:ay),([]:ay),([]:ay),([]:List NH),()),false,()))
 (ao (ba b.2.1.1 0)
 (ab ((([]:ay),([]:List Sb),([]:ay),([]:ay),([]:ay),([]:List NH),()),false,()))
 (ag (idx x.1.1 b.2.1.1) λa=>ag (bc (a.2.1,())) λc=>ag (bQ (a.2.2.2.2.2.1,())) λd=>ab ((a.1,c.1,a.2.2.1,a.2.2.2.1,a.2.2.2.2.1,d.1,a.2.2.2.2.2.2),true,()))))
def nO(x:dK×Sb×al)(a:qS×Sb×al):Option (K5⊕K4) :=
 ao (ba a.1.2.1<|len x.1.1)
 (ao (within a.1.2.1<|len x.1.1)
 (ag (idx x.1.1 a.1.2.1) λb=>ao (bH b.1 a.2.1)
 (ab<|Sum.inr (1,(a.1.2.1,a.1.2.1,()),a.2.1,()))
 (ab<|Sum.inl ((a.1.1,aH i64 a.1.2.1 1,()),a.2.1,())))
 ah)
 (ab<|Sum.inr (0,(a.1.1,a.1.2.1,()),a.2.1,()))
def sw(x:dK×Sb×al):Option (dK×mw×al) :=
 ag (wm (x.1,x.2.1,())) (λc=>ao (nt<|aS c.2.1 0)
 (ag (kx (c.2.1,())) λa=>ab (x.1,a.1,()))
 (ag (rq (x.1,c.1,())) λa=>ao (fits<|len x.1.1)
 (ag (Loop (nO x) (((0:Int),(0:Int),()),c.1,())) λf=>ao (de f.1 0)
 (ag (dB (x.1,a.1.2.2.2.1,())) λd=>ag (ao (nt<|ba 0 d.1)
 (ag (px ((x.1.1,x.1.2.1,x.1.2.2.1,x.1.2.2.2.1,x.1.2.2.2.2.1,x.1.2.2.2.2.2),a.1.2.2.2.1,())) λe=>ab e.1)
 (ab true)) λe=>ao e
 (ag (kx ((7:Int),())) λb=>ab (x.1,b.1,()))
 (ag (jO ((x.1.1,x.1.2.1,x.1.2.2.1,x.1.2.2.2.1,x.1.2.2.2.2.1,x.1.2.2.2.2.2),a.1.2.2.2.1,())) λb=>ab (b.1,((0:Int),c.1,(0:Int),([]:ay),()),())))
 (ag (ao (cu 0 f.2.1.1)
 (ag (cH x.1.1 (f.2.1.1,aH i64 f.2.1.1 1,())) λd=>ab (((),()),d,()))
 (ab (((),()),x.1.1,()))) λd=>ag (dB (x.1,a.1.2.2.2.1,())) λe=>ag (ao (nt<|ba 0 e.1)
 (ag (px ((d.2.1,x.1.2.1,x.1.2.2.1,x.1.2.2.2.1,x.1.2.2.2.2.1,x.1.2.2.2.2.2),a.1.2.2.2.1,())) λb=>ab b.1)
 (ab true)) λb=>ao b
 (ag (kx ((7:Int),())) λg=>ab (x.1,g.1,()))
 (ag (jO ((d.2.1,x.1.2.1,x.1.2.2.1,x.1.2.2.2.1,x.1.2.2.2.2.1,x.1.2.2.2.2.2),a.1.2.2.2.1,())) λg=>ab (g.1,((0:Int),c.1,(0:Int),([]:ay),()),()))))
 ah))
def gb(x:(List<|Int)×Int×al)(a:qS×al):Option ((qS×al)⊕(Nat×qS×al)) :=
 ao (ba a.1.2.1<|len x.1)
 (ag (idx x.1 a.1.2.1) λb=>ao (aS x.2.1 b)
 (ab<|Sum.inr (1,(a.1.2.1,a.1.2.1,()),()))
 (ab<|Sum.inl ((a.1.1,aH i64 a.1.2.1 1,()),())))
 (ab<|Sum.inr (0,(a.1.1,a.1.2.1,()),()))
def iC(x:(List<|Int)×Int×al):Option (Int×al) :=
 ag (Loop (gb x) (((0:Int),(0:Int),()),())) (λa=>ao (de a.1 0)
 (ab ((-1:Int),()))
 (ab (a.2.1.1,())))
def dc(x:(List<|Int)×Int×al):Option (Bool×al) :=
 ag (iC (x.1,x.2.1,())) (λa=>ab (cu 0 a.1,()))
def xC(x:oE×(List<|Int)×al):Option ((List<|Int)×al) :=
 ag (dc (x.2.1,x.1.2.1,())) (λa=>ao a.1
 (ab (([x.1.2.1]:List (Int)),()))
 (ab (([]:List (Int)),())))
def iJ(x:oE×al):Option ((List<|Int)×al) :=
 ao (((ao (aS x.1.1 2)
 ((aS x.1.1 2,()),())
 ((((ao (aS x.1.1 11)
 ((aS x.1.1 11,()),())
 ((aS x.1.1 12,()),())).1).1,()),())).1).1)
 (ab (([(1:Int),2,3]:List (Int)),()))
 (ao (aS x.1.1 7)
 (ab (([(2:Int),3]:List (Int)),()))
 (ao (aS x.1.1 8)
 (ab (([(1:Int),2]:List (Int)),()))
 (ao (((ao (aS x.1.1 1)
 ((aS x.1.1 1,()),())
 ((((ao (aS x.1.1 3)
 ((aS x.1.1 3,()),())
 ((((ao (aS x.1.1 4)
 ((aS x.1.1 4,()),())
 ((((ao (aS x.1.1 5)
 ((aS x.1.1 5,()),())
 ((aS x.1.1 6,()),())).1).1,()),())).1).1,()),())).1).1,()),())).1).1)
 (ab (([(3:Int)]:List (Int)),()))
 (ao (((ao (aS x.1.1 9)
 ((aS x.1.1 9,()),())
 ((aS x.1.1 10,()),())).1).1)
 (ag (xC (x.1,([(1:Int),2]:List (Int)),())) λa=>ab (a.1,()))
 (ao (((ao (aS x.1.1 13)
 ((aS x.1.1 13,()),())
 ((((ao (aS x.1.1 14)
 ((aS x.1.1 14,()),())
 ((aS x.1.1 15,()),())).1).1,()),())).1).1)
 (ag (xC (x.1,([(1:Int),2,3]:List (Int)),())) λa=>ab (a.1,()))
 (ab (([]:List (Int)),())))))))
def fa(x:Int×al):Option (mw×al) :=
 ab ((x.1,([]:ay),(0:Int),([]:ay),()),())
def qb(x:dK×Int×al):Option ((List K3)×al) :=
 ag (qN (x.2.1,((0:Int),x.1.2.2.1,x.1.2.1,x.1.1,()),())) (λa=>ab (a.1,()))
def wo(x:dK×oE×al):Option (dK×mw×al) :=
 ag (iJ (x.2.1,())) (λf=>ag (dc (f.1,x.2.1.2.1,())) λg=>ao (nt g.1)
 (ag (fa ((1:Int),())) λe=>ab (x.1,e.1,()))
 (ag (qb (x.1,x.2.1.2.1,())) λe=>ag (iG (e.1,x.2.1.2.2.1,())) λd=>ao (nt<|aS d.2.1 0)
 (ag (fa (d.2.1,())) λa=>ab (x.1,a.1,()))
 (ao (aS x.2.1.2.1 1)
 (ag (rq (x.1,d.1,())) λa=>ao (aS x.2.1.1 10)
 (ag (lA (a.1.2.2.2.2.2.1,x.2.1.2.2.2.2.2.2.1,())) λb=>ao (nt<|aS b.2.1 0)
 (ag (fa (b.2.1,())) λc=>ab (x.1,c.1,()))
 (ab (x.1,((0:Int),d.1,(0:Int),b.1,()),())))
 (ag (lz (a.1.2.2.2.2.2.1,x.2.1.2.2.2.2.2.2.1,x.2.1.2.2.2.2.2.1,())) λb=>ao (nt<|aS b.2.1 0)
 (ag (fa (b.2.1,())) λc=>ab (x.1,c.1,()))
 (ag (kf (x.1,(a.1.1,a.1.2.1,a.1.2.2.1,a.1.2.2.2.1,a.1.2.2.2.2.1,b.1,a.1.2.2.2.2.2.2),())) λc=>ab (c.1,((0:Int),d.1,(0:Int),([]:ay),()),()))))
 (ag (mf (x.1,d.1,())) λa=>ao (aS x.2.1.1 10)
 (ag (lA (a.1.2.2.2.2.1,x.2.1.2.2.2.2.2.2.1,())) λb=>ao (nt<|aS b.2.1 0)
 (ag (fa (b.2.1,())) λc=>ab (x.1,c.1,()))
 (ab (x.1,((0:Int),d.1,(0:Int),b.1,()),())))
 (ag (lz (a.1.2.2.2.2.1,x.2.1.2.2.2.2.2.2.1,x.2.1.2.2.2.2.2.1,())) λb=>ao (nt<|aS b.2.1 0)
 (ag (fa (b.2.1,())) λc=>ab (x.1,c.1,()))
 (ag (ix (x.1,(a.1.1,a.1.2.1,a.1.2.2.1,a.1.2.2.2.1,b.1,a.1.2.2.2.2.2),())) λc=>ab (c.1,((0:Int),d.1,(0:Int),([]:ay),()),())))))))
def pE(x:(List K3)×al)(a:(Int×al)×(al×al×al)×(List<|Int)×al):Option (aax⊕aax) :=
 dq (ao (ba a.1.1<|len x.1)
 (ag (idx x.1 a.1.1) λb=>ao (fits<|plus (len ([b.1]:List Sb))<|len b.2.1)
 (ag (lf (app ([b.1]:List Sb) b.2.1,([32]:ay),())) λc=>ao (fits<|plus (len c.1)<|len ([10]:ay))
 (ao (fits<|plus (len a.2.2.1)<|len<|aC<|app c.1 ([10]:ay))
 (ab<|Sum.inl ((aH i64 a.1.1 1,()),((),(),a.2.1.2.2),app a.2.2.1<|aC<|app c.1 ([10]:ay),()))
 ah)
 ah)
 ah)
 (ab<|Sum.inr (0,(a.1.1,()),((),(),a.2.1.2.2),a.2.2.1,())))
def yT(x:(List K3)×al):Option (Sb×al) :=
 ag (Loop (pE x) (((0:Int),()),((),(),()),([]:List (Int)),())) (λa=>ab (bu a.2.2.1,()))
def mx(x:dK×Int×Sb×(List Sb)×al)(a:qS×Sb×al):Option (K5⊕K4) :=
 ao (ba a.1.2.1<|len x.1.2.2.1)
 (ao (within a.1.2.1<|len x.1.2.2.1)
 (ag (idx x.1.2.2.1 a.1.2.1) λb=>ao (bH b.1 a.2.1)
 (ab<|Sum.inr (1,(a.1.2.1,a.1.2.1,()),a.2.1,()))
 (ab<|Sum.inl ((a.1.1,aH i64 a.1.2.1 1,()),a.2.1,())))
 ah)
 (ab<|Sum.inr (0,(a.1.1,a.1.2.1,()),a.2.1,()))
def hM(x:dK×Int×Sb×(List Sb)×al):Option (dK×al) :=
 ao (aS x.2.1 1)
 (ag (rq (x.1,x.2.2.1,())) λa=>ag (kf (x.1,(a.1.1,x.2.2.2.1,a.1.2.2),())) λb=>ab (b.1,()))
 (ao (aS x.2.1 2)
 (ag (mf (x.1,x.2.2.1,())) λa=>ag (ix (x.1,(a.1.1,x.2.2.2.1,a.1.2.2),())) λb=>ab (b.1,()))
 (ao (fits<|len x.1.2.2.1)
 (ag (ag (Loop (mx x) (((0:Int),(0:Int),()),x.2.2.1,())) λa=>ao (de a.1 0)
 (ab (((-1:Int),()),a.2.2.1,()))
 (ab ((a.2.1.1,()),a.2.2.1,()))) λa=>ag (bc (x.2.2.2.1,())) λb=>ao (within a.1.1<|len x.1.2.2.1)
 (ag (idx x.1.2.2.1 a.1.1) λd=>ag (idx x.1.2.2.1 a.1.1) λe=>ag (idx x.1.2.2.1 a.1.1) λc=>ab ((x.1.1,x.1.2.1,lP x.1.2.2.1 a.1.1 (c.1,c.2.1,b.1,c.2.2.2),x.1.2.2.2.1,x.1.2.2.2.2.1,x.1.2.2.2.2.2),()))
 ah)
 ah))
def sx(x:dK×oE×al):Option (dK×mw×al) :=
 ag (qb (x.1,x.2.1.2.1,())) (λe=>ag (iJ (x.2.1,())) λf=>ag (dc (f.1,x.2.1.2.1,())) λg=>ao (nt g.1)
 (ag (fa ((1:Int),())) λa=>ab (x.1,a.1,()))
 (ao (aS x.2.1.1 15)
 (ag (yT (e.1,())) λa=>ab (x.1,((0:Int),([]:ay),(0:Int),a.1,()),()))
 (ag (ao (aS x.2.1.1 13)
 (ag (fD (x.2.1.2.2.2.2.1,())) λa=>ab (nt<|aS a.1 0))
 (ab false)) λa=>ao a
 (ag (fa ((1:Int),())) λb=>ab (x.1,b.1,()))
 (ag (iG (e.1,x.2.1.2.2.1,())) λb=>ag (ao (ao (aS b.2.1 0)
 (aS x.2.1.1 13)
 false)
 (ag (gu (e.1,b.1,x.2.1.2.2.2.2.1,())) λd=>ab ((d.1,()),()))
 (ab ((b.2.1,()),()))) λd=>ao (nt<|aS d.1.1 0)
 (ag (fa (d.1.1,())) λc=>ab (x.1,c.1,()))
 (ag (ao (aS x.2.1.1 13)
 (ag (hM (x.1,x.2.1.2.1,b.1,x.2.1.2.2.2.2.1,())) λc=>ab ((),c.1,()))
 (ab ((),x.1,()))) λc=>ab (c.2.1,((0:Int),b.1,(0:Int),([]:ay),()),()))))))
def dQ(x:dK×oE×al):Option (dK×mw×al) :=
 ao (aS x.2.1.1 1)
 (ag (hL (x.1,x.2.1.2.2.2.1,x.2.1.2.2.2.2.1,x.2.1.2.2.2.2.2.1,x.2.1.2.2.2.2.2.2.2.1,())) λa=>ab (a.1,a.2.1,()))
 (ao (aS x.2.1.1 2)
 (ag (qG (x.1,x.2.1.2.2.1,())) λa=>ab (a.1,a.2.1,()))
 (ao (aS x.2.1.1 3)
 (ag (ug (x.1,x.2.1.2.2.1,())) λa=>ab (x.1,a.1,()))
 (ao (aS x.2.1.1 4)
 (ag (pD (x.1,x.2.1.2.2.1,())) λa=>ab (x.1,a.1,()))
 (ao (aS x.2.1.1 5)
 (ag (xn (x.1,x.2.1.2.2.1,())) λa=>ab (a.1,a.2.1,()))
 (ao (aS x.2.1.1 6)
 (ag (ti (x.1,x.2.1.2.2.1,())) λa=>ab (a.1,a.2.1,()))
 (ao (aS x.2.1.1 7)
 (ag (qv (x.1,x.2.1.2.2.2.1,x.2.1.2.2.2.2.1,x.2.1.2.2.2.2.2.1,x.2.1.2.2.2.2.2.2.2.1,())) λa=>ab (a.1,a.2.1,()))
 (ao (aS x.2.1.1 8)
 (ag (qw (x.1,x.2.1.2.2.1,())) λa=>ab (a.1,a.2.1,()))
 (ao (aS x.2.1.1 11)
 (ag (lL (x.1,x.2.1.2.2.2.1,x.2.1.2.2.2.2.1,x.2.1.2.2.2.2.2.1,x.2.1.2.2.2.2.2.2.2.1,())) λa=>ab (a.1,a.2.1,()))
 (ao (aS x.2.1.1 12)
 (ag (sw (x.1,x.2.1.2.2.1,())) λa=>ab (a.1,a.2.1,()))
 (ao (((ao (aS x.2.1.1 9)
 ((aS x.2.1.1 9,()),())
 ((aS x.2.1.1 10,()),())).1).1)
 (ag (wo (x.1,x.2.1,())) λa=>ab (a.1,a.2.1,()))
 (ao (((ao (aS x.2.1.1 13)
 ((aS x.2.1.1 13,()),())
 ((((ao (aS x.2.1.1 14)
 ((aS x.2.1.1 14,()),())
 ((aS x.2.1.1 15,()),())).1).1,()),())).1).1)
 (ag (sx (x.1,x.2.1,())) λa=>ab (a.1,a.2.1,()))
 (ag (fa ((1:Int),())) λa=>ab (x.1,a.1,())))))))))))))
def gK(x:dK×(List oE)×al)(a:(al×Int×al)×(List mw)×dK×al):Option (aay⊕aay) :=
 dq (ao (ba a.1.2.1<|len x.2.1)
 (ag (idx x.2.1 a.1.2.1) λc=>ag (dQ (a.2.2.1,c,())) λb=>ao (fits<|plus (len a.2.1)<|len ([b.2.1]:List mw))
 (ab<|Sum.inl (((),aH i64 a.1.2.1 1,()),app a.2.1 ([b.2.1]:List mw),b.1,()))
 ah)
 (ab<|Sum.inr (0,((),a.1.2.1,()),a.2.1,a.2.2.1,())))
def ym(x:dK×(List oE)×al):Option (dK×(List mw)×al) :=
 ag (Loop (gK x) (((),(0:Int),()),([]:List mw),x.1,())) (λa=>ab (a.2.2.1,a.2.1,()))
def AD(x:(List mw)×(List mw)×al)(a:GR×al):Option ((GR×al)⊕aaw) :=
 ao (ao (ba a.1.2.1<|len x.1)
 (ba a.1.2.1<|len x.2.1)
 false)
 (ag (idx x.1 a.1.2.1) λb=>ag (idx x.2.1 a.1.2.1) λc=>ao (nt<|an (aS b.1 c.1)<|an (bH b.2.1 c.2.1)<|an (aS b.2.2.1 c.2.2.1)<|an (bH b.2.2.2.1 c.2.2.2.1) true)
 (ab<|Sum.inr (1,(false,a.1.2.1,()),()))
 (ab<|Sum.inl ((a.1.1,aH i64 a.1.2.1 1,()),())))
 (ab<|Sum.inr (0,(a.1.1,a.1.2.1,()),()))
def kY(x:(List mw)×(List mw)×al):Option (Bool×al) :=
 ao (nt<|aS (len x.1)<|len x.2.1)
 (ab (false,()))
 (ag (Loop (AD x) ((false,(0:Int),()),())) λa=>ao (de a.1 0)
 (ab (true,()))
 (ab (a.2.1.1,())))
def Dz(x:(List<|Int)×(List<|Int)×al)(a:GR×al):Option ((GR×al)⊕aaw) :=
 ao (ao (ba a.1.2.1<|len x.1)
 (ba a.1.2.1<|len x.2.1)
 false)
 (ag (idx x.1 a.1.2.1) λb=>ag (idx x.2.1 a.1.2.1) λc=>ao (nt<|aS b c)
 (ab<|Sum.inr (1,(false,a.1.2.1,()),()))
 (ab<|Sum.inl ((a.1.1,aH i64 a.1.2.1 1,()),())))
 (ab<|Sum.inr (0,(a.1.1,a.1.2.1,()),()))
def tr(x:(List<|Int)×(List<|Int)×al):Option (Bool×al) :=
 ao (nt<|aS (len x.1)<|len x.2.1)
 (ab (false,()))
 (ag (Loop (Dz x) ((false,(0:Int),()),())) λa=>ao (de a.1 0)
 (ab (true,()))
 (ab (a.2.1.1,())))
def kz(x:al):Option (Bool×al) :=
 ag (ym ((([]:List mv),([]:List S9),([]:List NG),([]:List Sb),([]:List (Sb×Int×al)),()),([((1:Int),(0:Int),([]:ay),([]:ay),([([98,97,115,101]:ay)]:List Sb),([]:ay),([]:ay),(1:Int),()),((7:Int),(0:Int),([]:ay),([98,97,115,101]:ay),([([119,101,98]:ay)]:List Sb),([]:ay),([]:ay),(2:Int),()),((11:Int),(0:Int),([]:ay),([119,101,98]:ay),([]:List Sb),([]:ay),([]:ay),(67108867:Int),()),((2:Int),(0:Int),([98,97,115,101]:ay),([]:ay),([]:List Sb),([]:ay),([]:ay),(0:Int),()),((9:Int),(2:Int),([119,101,98]:ay),([]:ay),([]:List Sb),([118]:ay),([107]:ay),(0:Int),()),((10:Int),(2:Int),([48]:ay),([]:ay),([]:List Sb),([]:ay),([107]:ay),(0:Int),()),((15:Int),(3:Int),([]:ay),([]:ay),([]:List Sb),([]:ay),([]:ay),(0:Int),()),((99:Int),(0:Int),([]:ay),([]:ay),([]:List Sb),([]:ay),([]:ay),(0:Int),())]:List oE),())) (λc=>ag (ka (c.1,())) λd=>ag (ao d.1
 (ag (kY (c.2.1,([((0:Int),([48,48,48,48,48,49]:ay),(0:Int),([]:ay),()),((0:Int),([48,48,48,48,48,50]:ay),(0:Int),([]:ay),()),((0:Int),([48,48,48,48,48,51]:ay),(0:Int),([48,48,48,48,48,52]:ay),()),((7:Int),([]:ay),(0:Int),([]:ay),()),((0:Int),([48,48,48,48,48,50]:ay),(0:Int),([]:ay),()),((0:Int),([48,48,48,48,48,50]:ay),(0:Int),([118]:ay),()),((0:Int),([]:ay),(0:Int),([48,48,48,48,48,49,32,98,97,115,101,10,48,48,48,48,48,52,10]:ay),()),((1:Int),([]:ay),(0:Int),([]:ay),())]:List mw),())) λa=>ab a.1)
 (ab false)) λa=>ag (ao a
 (ag (iJ (((7:Int),(0:Int),([]:ay),([]:ay),([]:List Sb),([]:ay),([]:ay),(0:Int),()),())) λb=>ag (tr (b.1,([(2:Int),3]:List (Int)),())) λe=>ab e.1)
 (ab false)) λb=>ab (b,()))
def ui(x:oE×al):Option (Bool×al) :=
 ag (ao (ao (ao (ao (cu (len x.1.2.2.1) 100)
 (cu (len x.1.2.2.2.1) 100)
 false)
 (cu (len x.1.2.2.2.2.2.1) 8704)
 false)
 (cu (len x.1.2.2.2.2.2.2.1) 100)
 false)
 (ag (oX (x.1.2.2.2.2.1,())) λa=>ab a.1)
 (ab false)) (λa=>ab (a,()))
def mS(x:oE×al):Option (Bool×al) :=
 ag (dc (([(2:Int),5,6,12]:List (Int)),x.1.1,())) (λa=>ab (a.1,()))
def zE(b:(List NG)×Int×al)(a:(al×Int×al)×(List Sb)×al):Option (aav⊕aav) :=
 dq (ao (ba a.1.2.1<|len b.1)
 (ag (idx b.1 a.1.2.1) λc=>ao (fits<|plus (len a.2.1)<|len ([c.1]:List Sb))
 (ab<|Sum.inl (((),aH i64 a.1.2.1 1,()),app a.2.1 ([c.1]:List Sb),()))
 ah)
 (ab<|Sum.inr (0,((),a.1.2.1,()),a.2.1,())))
def uj(x:dK×oE×al):Option ((List Sb)×al) :=
 ag (ao (ao (ao (aS x.2.1.1 1)
 (nt<|bH x.2.1.2.2.2.1 ([]:ay))
 false)
 (nt<|bH x.2.1.2.2.2.2.2.1 ([]:ay))
 false)
 (ab (0,(([]:List Sb),x.2.1.2.2.2.1,()),()))
 (ao (ao (nt<|aS x.2.1.1 3)
 (nt<|aS x.2.1.1 4)
 false)
 (ab (1,(([]:List Sb),x.2.1.2.2.1,()),()))
 (ab (0,(([]:List Sb),x.2.1.2.2.1,()),())))) (λa=>ao (de a.1 0)
 (ag (dF (x.1,a.2.1.2.1,())) λb=>ao (nt<|aS b.2.1 0)
 (ab (([]:List Sb),()))
 (ao (aS x.2.1.1 3)
 (ab (([b.1]:List Sb),()))
 (ag (kv (x.1.2.2.1,b.1,())) λc=>ag (Loop (zE c) (((),(0:Int),()),([]:List Sb),())) λd=>ab (d.2.1,()))))
 (ab (a.2.1.1,())))
def yn(c:(List<|Int)×al)(a:(Int×al)×(List<|Bool)×al):Option (((Int×al)×(List<|Bool)×al)⊕((Int×al)×(List<|Bool)×al)) :=
 dq (ao (ba a.1.1<|len c.1)
 (ag (idx c.1 a.1.1) λb=>ao (within b 4)
 (ag (idx a.2.1 b) λd=>ag (idx a.2.1 b) λe=>ag (idx a.2.1 b) λf=>ab (Sum.inl ((aH i64 a.1.1 1,()),lP a.2.1 b true,())))
 ah)
 (ab<|Sum.inr (0,(a.1.1,()),a.2.1,())))
def lM(x:oE×al):Option ((List<|Bool)×al) :=
 ag (iJ (x.1,())) (λa=>ag (Loop (yn a) (((0:Int),()),([false,false,false,false]:List (Bool)),())) λb=>ab (b.2.1,()))
def mT(x:dK×oE×al)(e:(List Sb)×al)(a:(Int×al)×S8×(List Sb)×al):Option (Ta⊕Ta) :=
 dq (ao (ba a.1.1<|len x.1.2.2.1)
 (ag (idx x.1.2.2.1 a.1.1) λd=>ag (ao (ba a.1.1<|len x.1.2.2.2.1)
 (ag (bB (e.1,d.1,())) λc=>ab c.1)
 (ab false)) λc=>ag (ao c
 (ag (idx x.1.2.2.2.1 a.1.1) λb=>ao (within a.1.1<|len a.2.2.1)
 (ag (idx a.2.2.1 a.1.1) λf=>ag (idx a.2.2.1 a.1.1) λg=>ag (idx a.2.2.1 a.1.1) λh=>ab ((),(a.2.1.1,a.2.1.2.1,a.2.1.2.2.1,(),a.2.1.2.2.2.2.1,a.2.1.2.2.2.2.2),lP a.2.2.1 a.1.1 b,()))
 ah)
 (ab ((),(a.2.1.1,a.2.1.2.1,a.2.1.2.2.1,(),a.2.1.2.2.2.2.1,a.2.1.2.2.2.2.2),a.2.2.1,()))) λb=>ab (Sum.inl ((aH i64 a.1.1 1,()),(b.2.1.1,b.2.1.2.1,b.2.1.2.2.1,(),b.2.1.2.2.2.2.1,b.2.1.2.2.2.2.2),b.2.2.1,())))
 (ab<|Sum.inr (0,(a.1.1,()),(a.2.1.1,a.2.1.2.1,a.2.1.2.2.1,(),a.2.1.2.2.2.2.1,a.2.1.2.2.2.2.2),a.2.2.1,())))
def pF(x:dK×oE×al):Option (dK×al) :=
 ag (lM (x.2.1,())) (λe=>ag (uj (x.1,x.2.1,())) λg=>ao (within 1 4)
 (ag (idx e.1 (1:Int)) λh=>ag (ao h
 (ag (dC (x.1.1,())) λd=>ab ((),(d.1,([]:List S9),([]:List NG),([]:List Sb),([]:List (Sb×Int×al)),()),()))
 (ab ((),(([]:List mv),([]:List S9),([]:List NG),([]:List Sb),([]:List (Sb×Int×al)),()),()))) λd=>ao (within 2 4)
 (ag (idx e.1 (2:Int)) λi=>ag (ao i
 (ag (bZ (x.1.2.1,())) λb=>ab ((),(d.2.1.1,b.1,d.2.1.2.2),()))
 (ab ((),d.2.1,()))) λb=>ag (mS (x.2.1,())) λj=>ag (ao j.1
 (ag (b4 (x.1.2.2.2.2.1,())) λc=>ab ((),(b.2.1.1,b.2.1.2.1,b.2.1.2.2.1,b.2.1.2.2.2.1,c.1,b.2.1.2.2.2.2.2),()))
 (ab ((),b.2.1,()))) λc=>ao (within 3 4)
 (ag (idx e.1 (3:Int)) λk=>ao k
 (ag (b3 (x.1.2.2.1,())) λf=>ao (inside 0 (len x.1.2.2.1)<|len x.1.2.2.1)
 (ao (fits<|len x.1.2.2.1)
 (ag (Loop (mT x g) (((0:Int),()),(c.2.1.1,c.2.1.2.1,f.1,(),c.2.1.2.2.2.2.1,c.2.1.2.2.2.2.2),kj (len x.1.2.2.1) ([]:ay),())) λa=>ab ((a.2.1.1,a.2.1.2.1,a.2.1.2.2.1,a.2.2.1,a.2.1.2.2.2.2.1,a.2.1.2.2.2.2.2),()))
 ah)
 ah)
 (ab (c.2.1,())))
 ah)
 ah)
 ah)
def mU(x:dK×oE×dK×al)(a:(Int×al)×S8×(List Sb)×al):Option (Ta⊕Ta) :=
 dq (ao (ba a.1.1<|len x.2.2.1.2.2.1)
 (ag (idx x.2.2.1.2.2.1 a.1.1) λd=>ag (iI (x.1,d.1,())) λc=>ag (ao c.2.2.1
 (ao (within a.1.1<|len a.2.2.1)
 (ag (idx a.2.2.1 a.1.1) λb=>ag (idx a.2.2.1 a.1.1) λe=>ag (idx a.2.2.1 a.1.1) λf=>ab ((),(a.2.1.1,a.2.1.2.1,a.2.1.2.2.1,(),a.2.1.2.2.2.2.1,a.2.1.2.2.2.2.2),lP a.2.2.1 a.1.1 c.2.1,()))
 ah)
 (ab ((),(a.2.1.1,a.2.1.2.1,a.2.1.2.2.1,(),a.2.1.2.2.2.2.1,a.2.1.2.2.2.2.2),a.2.2.1,()))) λb=>ab (Sum.inl ((aH i64 a.1.1 1,()),(b.2.1.1,b.2.1.2.1,b.2.1.2.2.1,(),b.2.1.2.2.2.2.1,b.2.1.2.2.2.2.2),b.2.2.1,())))
 (ab<|Sum.inr (0,(a.1.1,()),(a.2.1.1,a.2.1.2.1,a.2.1.2.2.1,(),a.2.1.2.2.2.2.1,a.2.1.2.2.2.2.2),a.2.2.1,())))
def wq(x:dK×oE×dK×al):Option (dK×al) :=
 ag (lM (x.2.1,())) (λe=>ao (within 1 4)
 (ag (idx e.1 (1:Int)) λf=>ag (ao f
 (ag (dC (x.2.2.1.1,())) λd=>ab ((),(d.1,x.1.2),()))
 (ab ((),x.1,()))) λd=>ao (within 2 4)
 (ag (idx e.1 (2:Int)) λg=>ag (ao g
 (ag (bZ (x.2.2.1.2.1,())) λb=>ab ((),(d.2.1.1,b.1,d.2.1.2.2),()))
 (ab ((),d.2.1,()))) λb=>ag (mS (x.2.1,())) λh=>ag (ao h.1
 (ag (b4 (x.2.2.1.2.2.2.2.1,())) λc=>ab ((),(b.2.1.1,b.2.1.2.1,b.2.1.2.2.1,b.2.1.2.2.2.1,c.1,b.2.1.2.2.2.2.2),()))
 (ab ((),b.2.1,()))) λc=>ao (within 3 4)
 (ag (idx e.1 (3:Int)) λi=>ao i
 (ag (b3 (x.2.2.1.2.2.1,())) λj=>ao (inside 0 (len x.2.2.1.2.2.1)<|len x.2.2.1.2.2.1)
 (ao (fits<|len x.2.2.1.2.2.1)
 (ag (Loop (mU x) (((0:Int),()),(c.2.1.1,c.2.1.2.1,j.1,(),c.2.1.2.2.2.2.1,c.2.1.2.2.2.2.2),over (kj (len x.2.2.1.2.2.1) ([]:ay)) (0:Int)<|@iW Sb x.2.2.1.2.2.2.1<|len<|kj (len x.2.2.1.2.2.1) ([]:ay),())) λa=>ab ((a.2.1.1,a.2.1.2.1,a.2.1.2.2.1,a.2.2.1,a.2.1.2.2.2.2.1,a.2.1.2.2.2.2.2),()))
 ah)
 ah)
 (ab (c.2.1,())))
 ah)
 ah)
 ah)
def ig(x:dK×dK×oE×al):Option (Bool×al) :=
 ag (uR (x.1,())) (λk=>ag (ao (nt<|nt k.1)
 (ag (uR (x.2.1,())) λd=>ab (nt d.1))
 (ab true)) λd=>ag (ao (nt d)
 (ag (ui (x.2.2.1,())) λe=>ab (nt e.1))
 (ab true)) λe=>ag (ao (nt e)
 (ag (ka (x.1,())) λf=>ab (nt f.1))
 (ab true)) λf=>ag (ao (nt f)
 (ag (ka (x.2.1,())) λg=>ab (nt g.1))
 (ab true)) λg=>ao g
 (ag (kz ()) λh=>ab (h.1,()))
 (ag (pF (x.1,x.2.2.1,())) λh=>ag (wq (x.2.1,x.2.2.1,h.1,())) λj=>ag (pF (j.1,x.2.2.1,())) λl=>ag (pF (x.1,x.2.2.1,())) λm=>ag (wi (l.1,m.1,())) λi=>ao (nt i.1)
 (ag (kz ()) λa=>ab (a.1,()))
 (ag (dQ (x.1,x.2.2.1,())) λa=>ag (dQ (j.1,x.2.2.1,())) λb=>ag (ao (an (aS a.2.1.1 b.2.1.1)<|an (bH a.2.1.2.1 b.2.1.2.1)<|an (aS a.2.1.2.2.1 b.2.1.2.2.1)<|an (bH a.2.1.2.2.2.1 b.2.1.2.2.2.1) true)
 (ag (kz ()) λc=>ab c.1)
 (ab false)) λc=>ab (c,()))))
end Go.Ge
namespace Go.Ge
variable [Lp]
def E8(l:List Tx)(h:l.length<=4294967296):eW (l,l,())=ab (true,()):=by rw[Bc l l h,dD rfl]
def NI(l:List Item)(h:BB l):gS (l,l,())=ab (true,()):=MW l (by have:=h.1;omega)
def xD(a:Tx):bH a a=true:=dD rfl
def Dj{b:Type}{f:(Bool×Int×al)×al->Option (((Bool×Int×al)×al)⊕(Nat×(Bool×Int×al)×al))}(l:List b)(e:l.length<=1000000)
  (c:∀(i:Nat) (x:b),l[i]?=ab x->x∈l->i<l.length->f ((false,(i:Int),()),())=ab (.inl ((false,aH .i64 (i:Int) 1,()),()))) (d:f ((false,(l.length:Int),()),())=ab (.inr (0,(false,(l.length:Int),()),()))) :
  Loop f ((false,(0:Int),()),())=ab (0,(false,(l.length:Int),()),()) :=
 dh l.length (λj:Nat=>((false,(j:Int),()),())) (λj a=>by
  have hx:l[j]?=ab l[j]:=ik a;rw[c j l[j] hx (adt a) a,aL ai]) d
def YV(l:List eP)(b:l.length<=1000000)(h:∀x∈l,sa x.2.1/\BB x.2.2.2.2.2.1):nM (l,l,())=ab (true,()):=by
 unfold nM;dsimp only;rw[n7,aG,af,Dj (f:=kb (l,l,())) l b (λi x c a d=>by
  unfold kb;dsimp only;rw[aq d,ae,au c,aa,aa];simp only[xD,ae,af,aG,aA,aa,E8 _ (h x a).1.small,NI _ (h x a).2]) (by unfold kb;dsimp only;rw[aw,af];rfl),aa]
 rfl
def V9(l:List bN)(b:l.length<=1000000)(h:∀x∈l,sa x.2.1/\BB x.2.2.2.2.1):mm (l,l,())=ab (true,()):=by
 unfold mm;dsimp only;rw[n7,aG,af,Dj (f:=jx (l,l,())) l b (λi x c a d=>by
  unfold jx;dsimp only;rw[aq d,ae,au c,aa,aa];simp only[xD,ae,af,aG,aA,aa,E8 _ (h x a).1.small,NI _ (h x a).2]) (by unfold jx;dsimp only;rw[aw,af];rfl),aa]
 rfl
def Wa(l:List aD)(a:l.length<=1000000)(h:∀x∈l,x.2.2.1.length<=4294967296):mn (l,l,())=ab (true,()):=by
 unfold mn;dsimp only;rw[n7,aG,af,Dj (f:=jy (l,l,())) l a (λi x b c d=>by
  unfold jy;dsimp only;rw[aq d,ae,au b,aa,aa];have eb:eqB x.2.2.2.2.2.2.1 x.2.2.2.2.2.2.1=true:=by unfold eqB;simp
  simp only[xD,n7,eb,ae,af,aG,aA,aa,E8 _ (h x c)]) (by unfold jy;dsimp only;rw[aw,af];rfl),aa]
 rfl
def Wb(l:List fX)(a:l.length<=1000000):mo (l,l,())=ab (true,()):=by
 unfold mo;dsimp only;rw[n7,aG,af,Dj (f:=jz (l,l,())) l a (λi x b d c=>by
  unfold jz;dsimp only;rw[aq c,ae,au b,aa,aa];simp only[xD,n7,ae,af,aG,aA];rfl) (by unfold jz;dsimp only;rw[aw,af];rfl),aa]
 rfl
def Pr{b:Tx}{f:List Tx}(h:(wH b f).2.1=0):(wH b f).1∈f:=by
 unfold wH at h⊢;split at h
 .cases h
 .rename_i c;rw[aR c]
  match f,h with
  | [a],_=>simp
def zF{l:List Nm}{a:Tx}(h:(aW l a).2.1=0):∃x∈l,x.1=(aW l a).1:=by
 unfold aW at h⊢;by_cases c:∃x∈l,x.1=a
 .rw[aX c];exact c
 .rw[aR c] at h⊢;cases d:l.find? (λx=>decide (a∈x.2.1)) with
  | some x=>exact⟨x,aaQ d,rfl⟩
  | none =>
    rw[d] at h;have:=Pr h;unfold Ys at this⊢;rw[Lh] at this;obtain⟨x,e,b⟩:=this;refine⟨x,e,?_⟩;unfold SK at b;split at b
    .rw[zO] at b;exact b.symm
    .cases b
open Classical in
def dlI(s:az)(a:Tx):az×tp×al :=
 if(aW (xK s) a).2.1≠0 then(s,iS (aW (xK s) a).2.1,()) else
 if ∃x∈s.1,x.2.2.1=(aW (xK s) a).1 then(s,iS 7,()) else
 ((s.1,(u7 (·.1) s.2.1 (aW (xK s) a).1,s.2.2)),xA (aW (xK s) a).1,())
def K6{b:Type}(a:b->Tx)(l:List b)(p:Tx)(d:vm a l)(i:Nat)(x:b)(c:l[i]?=ab x)(e:a x=p)(g:l.length<=1000000):HI l (i:Int) (aH .i64 (i:Int) 1)=ab (u7 a l p):=by
 have f:=aF c;unfold HI;rw[aL ai,aV ai ai fi,zS,qJ,qJ,ahD a d c,e]
def GS(s:az)(a:Tx)(h:AB s)(m:vm (·.1) s.2.1):qw (s,a,())=ab (dlI s a):=by
 have n:=h.il;have o:=h.bl;unfold qw dlI;dsimp only;rw[Bi s a h,aa];by_cases c1:(aW (xK s) a).2.1=0
 rotate_left
 .rw[aX c1,ax c1];rfl
 rw[aR<|λq=>q c1,aE c1,aG,af];generalize (aW (xK s) a).1=id;rcases iK (f:=ma (s,a,())) s.1 (λi=>(((0:Int),i,()),id,())) (λ_ y=>decide (y.2.2.1=id)) (λi _=>(1,((i:Int),(i:Int),()),id,())) (0,((0:Int),len s.1,()),id,()) ai (λi y b c e=>by
  unfold ma;dsimp only;rw[aq c,ae,au b,aa,cZ,ew,e];by_cases q:y.2.2.1=id<;>simp[q]) (by unfold ma;dsimp only;rw[aw,af];rfl) with ⟨i,y,b,g,_,d⟩|⟨j,d⟩
 .rw[d,aa,aX ⟨y,eQ b,iq g⟩];dsimp only;rw[show de 1 0=false from rfl,af,bO ai,ae];rfl
 .rw[d,aa,aR (by
   rintro⟨y,b,k⟩;obtain⟨i,c⟩:=bz.1 b;have:=j i y c;simp[k] at this)]
  dsimp only;rw[b9,ae,show cu (0:Int) (-1)=false from rfl,af,cN ai,ae];rcases iK (f:=mb (s,a,())) s.2.1 (λi=>(((0:Int),i,()),(),id,())) (λ_ y=>decide (y.1=id)) (λi _=>(1,((i:Int),(i:Int),()),(),id,())) (0,((0:Int),len s.2.1,()),(),id,()) ai (λi y b c e=>by
   unfold mb ef;dsimp only;rw[aq c,ae,au b,aa,aa,cZ,ew,e];by_cases q:y.1=id<;>simp[q]) (by unfold mb;dsimp only;rw[aw,af];rfl) with ⟨i,y,b,g,_,d⟩|⟨j,d⟩
  .rw[d,aa];dsimp only;rw[show de 1 0=false from rfl,af,bO ai,ae];unfold bk;dsimp only;rw[K6 (λx:bN=>x.1) s.2.1 id m i y b (iq g) ai,aa,aa];rfl
  .rw[d,aa];dsimp only;rw[b9,ae,af,aa,V8 (λx:bN=>x.1) (l:=s.2.1) (p:=id) λx r k=>by
    obtain⟨i,c⟩:=bz.1 r;have:=j i x c;simp[k] at this]
   rfl
def NC.WW{s:az}(h:NC s):vm (·.1) s.2.1:=by
 have:=h.i.ids;unfold SZ at this;simpa [vm] using this
def NC.Tb{s:az}(h:NC s):vm (·.1) s.2.2.1:=by
 have:=h.l.ids;unfold SZ at this;simpa [vm] using this
def NC.Wc{s:az}(h:NC s):vm (·.1) s.1:=by
 have:=h.b.ids;unfold SZ at this;simpa [vm] using this
def NC.ahE{s:az}(h:NC s):s.2.1.length<=32:=h.i.few
def K7{s:az}{y:Nm}(h:y∈xK s):∃x∈s.2.1,y=(x.1,x.2.1,()):=by
 unfold xK at h;rw[Lh] at h;obtain⟨x,b,a⟩:=h;unfold ofI at a;rw[zO] at a;exact⟨x,b,a⟩
def Tc{s:az}{y:Nm}(h:y∈eN s):∃x∈s.2.2.1,y=(x.1,x.2.2.1,()):=by
 unfold eN at h;rw[Lh] at h;obtain⟨x,b,a⟩:=h;unfold ofL at a;split at a
 .rw[zO] at a;exact⟨x,b,a⟩
 .cases a
def NJ:¬H6 []:=λh=>by have:=h.2;cases this
structure BkS (s:az):Prop where
 il:∀x∈s.2.1,x.1.length<=1048576/\x.2.2.1.length<=1048576
 bl:∀x∈s.1,x.1.length<=1048576/\x.2.2.1.length<=1048576/\x.2.2.2.1.length<=1048576
 dg:∀x∈s.2.2.1,x.2.2.2.1.length<=1048576
def MZ.bd{s:az}(h:MZ s)(k:BkS s):BdS s where
 ll:=h.base.ll
 il:=h.base.il
 bl:=h.base.bl
 xl:=λx a=>⟨by have:=h.ids x a;omega,by have:=h.ids x a;omega,h.base.ln x a,k.dg x a⟩
 xi:=λx a=>⟨(k.il x a).1,h.base.pJ x a,(k.il x a).2,(h.base.im x a).2⟩
 xb:=λx a=>⟨(k.bl x a).1,h.base.bn x a,(k.bl x a).2.1,(k.bl x a).2.2,(h.base.bm x a).2⟩
 dl:=h.amJ
 ml:=by have:=h.Yv;omega
end Go.Ge
namespace Go.Ge
abbrev Td:Ty:=.pair .str (.pair .str<|.pair .str .unit)
abbrev Q8:Ty:=.pair .str (.pair (.slice .str)<|.pair .str<|.pair .str<|.pair .str<|.pair (.slice Td) .unit)
abbrev Dk:Ty:=.pair .str (.pair (.slice .str)<|.pair .str<|.pair .str<|.pair (.slice Td) .unit)
abbrev Dm:Ty:=.pair .str (.pair .str<|.pair (.slice .str)<|.pair .str<|.pair (.int .i64)<|.pair (.int .i64)<|.pair .bool .unit)
abbrev aaz:Ty:=.pair .str (.pair (.int .i64) .unit)
abbrev ahI:Ty:=.pair (.slice Q8) (.pair (.slice Dk)<|.pair (.slice Dm)<|.pair (.slice .str)<|.pair (.slice aaz) .unit)
def NK{b:Type}{f:b->Nat}{l:List b}{x:b}(h:x∈l):f x<=ve f l:=by
 induction l with
 | nil=>cases h
 | cons a r c =>
   unfold ve;rcases lW.1 h with rfl|h
   .omega
   .have:=c h;omega
def afz{s:az}(h:ahI.bulk s<=1048576):BkS s:=by
 obtain⟨b,c,d,i,j,u⟩:=s;have k:(ve Q8.bulk b+1)+((ve Dk.bulk c+1)+((ve Dm.bulk d+1)+((ve Ty.str.bulk i+1)+((ve aaz.bulk j+1)+0))))<=1048576:=h;refine⟨λx a=>?_,λx a=>?_,λx a=>?_⟩
 .have e:Dk.bulk x<=ve Dk.bulk c:=NK (f:=Dk.bulk) a;have g:Dk.bulk x=(x.1.length+1)+((ve Ty.str.bulk x.2.1+1)+((x.2.2.1.length+1)+((x.2.2.2.1.length+1)+((ve Td.bulk x.2.2.2.2.1+1)+0)))):=rfl;omega
 .have e:Q8.bulk x<=ve Q8.bulk b:=NK (f:=Q8.bulk) a;have g:Q8.bulk x=(x.1.length+1)+((ve Ty.str.bulk x.2.1+1)+((x.2.2.1.length+1)+((x.2.2.2.1.length+1)+((x.2.2.2.2.1.length+1)+((ve Td.bulk x.2.2.2.2.2.1+1)+0))))):=rfl;omega
 .have e:Dm.bulk x<=ve Dm.bulk d:=NK (f:=Dm.bulk) a;have g:Dm.bulk x=(x.1.length+1)+((x.2.1.length+1)+((ve Ty.str.bulk x.2.2.1+1)+((x.2.2.2.1.length+1)+(1+(1+(1+0)))))):=rfl;omega
variable [Lp]
def vm.idx{α:Type}{a:α->Tx}{l:List α}(h:vm a l){i j:Nat}{x y:α}(f:l[i]?=ab x)(g:l[j]?=ab y)(e:a x=a y):i=j:=by
 unfold vm at h;rw[TX] at h;obtain⟨b,rfl⟩:=hR.1 f;obtain⟨c,rfl⟩:=hR.1 g;have d:=Dr.1 h;rcases P5 i j with q|q|q
 .have:=d i j b c q;rw[e,kq] at this;cases this
 .exact q
 .have:=d j i c b q;rw[e,kq] at this;cases this
def Dn{a:List aD}(d:vm (·.1) a){i:Nat}{x:aD}(b:a[i]?=ab x):E5 a x.1=ab i:=by
 obtain⟨j,c⟩:=K1.2 ⟨x,eQ b,rfl⟩;obtain⟨y,e,f⟩:=yS c;rw[c,d.idx e b f]
def afA{a:List aD}{id:Tx}(h:∀x∈a,x.1≠id):E5 a id=none:=GO λi x b=>cL (h x<|eQ b)
def Cz{ls:List aD}{id:Tx}(h:∀x∈ls,x.1≠id)(n:Nat)(a:List aD):BD ls n id a=([],3):=by
 unfold BD;rw[afA h]
def NL{a:List aD}(c:vm (·.1) a){x:aD}(d:x∈a)(b:List aD):BD a 0 x.1 b=([],5):=by
 obtain⟨i,e⟩:=bz.1 d;unfold BD;rw[Dn c e]
def qc{ls:List aD}(c:vm (·.1) ls){x:aD}(d:x∈ls)(n:Nat)(a:List aD):BD ls (n+1) x.1 a=if x.2.1=[] then(a++[x],0) else BD ls n x.2.1 (a++[x]):=by
 obtain⟨i,b⟩:=bz.1 d
 conv=>lhs;unfold BD
 rw[Dn c b];dsimp only;rw[b]
def ahJ{ls c:List aD}(g:vm (·.1) ls)(d:vm (·.1) c){q:Tx}(h:∀x:aD,x.1≠q->(x∈c↔x∈ls))(i:∀x∈ls,x.2.1=[]\/x.2.1≠q) :
  ∀(n:Nat) (id:Tx) (acc:List aD),id≠q->BD c n id acc=BD ls n id acc:=by
 intro n;induction n with
 | zero =>
   intro id acc b;by_cases hx:∃x∈ls,x.1=id
   .obtain⟨x,hx,rfl⟩:=hx;rw[NL g hx,NL d ((h x b).2 hx)]
   .rw[Cz<|λx a e=>hx ⟨x,a,e⟩,Cz λx a e=>hx ⟨x,(h x<|by rw[e];exact b).1 a,e⟩]
 | succ n j =>
   intro id acc b;by_cases hx:∃x∈ls,x.1=id
   .obtain⟨x,hx,rfl⟩:=hx;rw[qc g hx,qc d ((h x b).2 hx)];by_cases f:x.2.1=[]
    .rw[aX f,aX f]
    .rw[aR f,aR f,j _ _ ((i x hx).resolve_left f)]
   .rw[Cz<|λx a e=>hx ⟨x,a,e⟩,Cz λx a e=>hx ⟨x,(h x<|by rw[e];exact b).1 a,e⟩]
def Q9{ls:List aD}(d:vm (·.1) ls):∀(n:Nat) (id:Tx) (acc:List aD),(BD ls n id acc).2=0 ->
  ∃c,(BD ls n id acc).1=acc++c/\∀(m:Nat) (a:List aD),c.length<=m->BD ls m id a=(a++c,0):=by
 intro n;induction n with
 | zero =>
   intro id acc h;by_cases hx:∃x∈ls,x.1=id
   .obtain⟨x,hx,rfl⟩:=hx;rw[NL d hx] at h;cases h
   .rw[Cz λx b e=>hx ⟨x,b,e⟩] at h;cases h
 | succ n i =>
   intro id acc h;by_cases hx:∃x∈ls,x.1=id
   .obtain⟨x,hx,rfl⟩:=hx;rw[qc d hx] at h⊢;by_cases f:x.2.1=[]
    .rw[aX f] at h⊢;refine⟨[x],rfl,λm a g=>?_⟩;cases m with
     | zero=>cases g
     | succ m=>rw[qc d hx,aX f]
    .rw[aR f] at h⊢;obtain⟨c,j,k⟩:=i _ _ h;refine⟨x::c,by rw[j];simp,λm a g=>?_⟩;cases m with
     | zero=>cases g
     | succ m =>
       rw[qc d hx,aR f,k m _ (by simpa using g)];simp
   .rw[Cz λx b e=>hx ⟨x,b,e⟩] at h;cases h
def acD{a:List aD}(c:vm (·.1) a){x:aD}(d:x∈a)(h:(bj a x.1).2=0):x.2.1=[]\/∃y∈a,y.1=x.2.1:=by
 unfold bj at h;rw[qc c d] at h;by_cases b:x.2.1=[]
 .exact .inl b
 .rw[aR b] at h;right;apply K9;intro q;rw[Cz λy f e=>q ⟨y,f,e⟩] at h;cases h
def AtD(ls:List aD)(a:List Tx)(x:aD)(d:Tx):Prop:=∃i:Nat,ls[i]?=ab x/\a[i]?=ab d
def aaA{a:List aD}{b:List Tx}{x:aD}{d:Tx}:AtD a b x d↔(x,d)∈a.zip b:=by
 unfold AtD;rw[bz];constructor
 .rintro⟨i,c,e⟩;exact⟨i,by rw[ada];exact⟨c,e⟩⟩
 .rintro⟨i,h⟩;rw[ada] at h;exact⟨i,h.1,h.2⟩
def Te{a c:List aD}{b f:List Tx}{x y:aD}{d e:Tx}(h:a.length=b.length):AtD (a++[x]++c) (b++[d]++f) y e↔(y=x/\e=d)\/AtD (a++c) (b++f) y e:=by
 rw[aaA,aaA,uw,uw,List.zip_append h,List.zip_append h];simp only[Zo,List.zip_cons_cons,Rr,lW,Prod.mk.injEq];constructor
 .rintro(q|q|q)
  .exact .inr (.inl q)
  .exact .inl q
  .exact .inr (.inr q)
 .rintro(q|q|q)
  .exact .inr (.inl q)
  .exact .inl q
  .exact .inr (.inr q)
def GU{ls:List aD}{a:List Tx}(e:a.length=ls.length){x:aD}(c:x∈ls):∃d,AtD ls a x d:=by
 obtain⟨i,b⟩:=bz.1 c;have:=aF b;exact⟨a[i],i,b,ik ai⟩
def AtD.mem{ls:List aD}{a:List Tx}{x:aD}{d:Tx}(h:AtD ls a x d):x∈ls:=by
 obtain⟨i,b,_⟩:=h;exact eQ b
def GV{a:List aD}{b:List Tx}(c:vm (·.1) a){x:aD}{d:Tx}(h:AtD a b x d):sK a b x.1=d:=by
 obtain⟨i,e,f⟩:=h;unfold sK;rw[Dn c e];dsimp only;rw[f];rfl
def acF{ls a:List aD}{i b:List Tx}(o:vm (·.1) ls)(f:vm (·.1) a)(p:i.length=ls.length)(j:b.length=a.length){q:Tx}
  (h:∀(x:aD) (d:Tx),x.1≠q->(AtD a b x d↔AtD ls i x d)) (s:∀x∈ls,x.2.1=[]\/x.2.1≠q) (t:(∀x∈ls,x.1≠q)\/(∀x∈a,x.1≠q)) {id:Tx} (l:id≠q) :
  bj a id=bj ls id/\eg a b id=eg ls i id:=by
 have u:∀x:aD,x.1≠q->(x∈a↔x∈ls):=λx c=>by
  constructor
  .intro k;obtain⟨d,e⟩:=GU j k;exact((h x d c).1 e).mem
  .intro k;obtain⟨d,e⟩:=GU p k;exact((h x d c).2 e).mem
 have m:bj a id=bj ls id:=ahJ o f u s 16 id [] l;refine⟨m,?_⟩;unfold eg;rw[m];have:((bj ls id).1.reverse.map λx=>sK a b x.1)=((bj ls id).1.reverse.map λx=>sK ls i x.1):=by
  apply W0;intro x c;rw[TY] at c;have r:=(pB (ls:=ls) (id:=id)).1 x c;have v:=(pB (ls:=a) (id:=id)).1 x (by rw[m];exact c);have n:x.1≠q:=t.elim (λg=>g x r) (λg=>g x v);obtain⟨d,e⟩:=GU p r;rw[GV o e,GV f ((h x d n).2 e)]
 rw[this]
end Go.Ge
