import Derived.Test.YtcebnmppipejfaaGreatDoorPlD
set_option linter.unusedSectionVars false
set_option linter.unusedVariables false
set_option linter.unusedSimpArgs false
set_option linter.defProp false
open Option renaming some->ab,none->ah
namespace Go.Ge
variable [Lp]
abbrev fT:=Tx×Int×al
abbrev aA:=List ep×List bI×List aD×List Tx×List fT×al
def tw(l:List Item):Prop:=l.length<=8/\∀x∈l,x.1.length<=100/\x.2.2.1.length<=200
structure ak7 (b:yd):Prop extends FewB b where
 im:∀x∈b.2.2.1,x.2.2.2.1.length<=200/\tw x.2.2.2.2.1
 bm:∀x∈b.2.2.2.1,x.2.2.2.2.1.length<=200/\tw x.2.2.2.2.2.1
def ab9(b:yd):∃c,rl (b,())=ab (c,())/\(c=true->ak7 b):=by
 obtain⟨a,k⟩:∃a:List Tx->Bool,∀l,lV (l,())=ab (a l,())/\(a l=true->nZ l):=⟨λl=>Classical.choose (Dk l),λl=>T5 (Dk l)⟩;obtain⟨e,o⟩:∃a:List Item->Bool,∀l,eL (l,())=ab (a l,())/\(a l=true->tw l):=⟨λl=>Classical.choose (GM l),λl=>T5 (GM l)⟩;obtain⟨G,d,C⟩:=ae8 b;refine⟨G,d,λD=>?_⟩;have E:=C D
 suffices q:(∀x∈b.2.2.1,x.2.2.2.1.length<=200/\tw x.2.2.2.2.1)/\(∀x∈b.2.2.2.1,x.2.2.2.2.1.length<=200/\tw x.2.2.2.2.2.1) from⟨E,q.1,q.2⟩
 subst D;obtain⟨n,y,A,B,u⟩:=b;obtain⟨N,_,s,_,O,_⟩:=E;unfold rl at d;have p:∀{q:Nat×(Bool×Int×al)×al} {g:Option (Bool×al)},q.1=1->q.2.1.1=false->ao (da q.1 0) g (ab (q.2.1.1,()))≠ab (true,()):=λ{q g} H I h=>by
  rw[H,I] at h;cases h
 rcases rX (f:=jh ((n,y,A,B,u),())) y 40 (λi=>((false,i,()),())) (λ_ x=>!a x.2.2.1) (λi x=>(1,(false,(i:Int),()),())) (λn=>(0,(false,(n:Int),()),())) ai (λi x j r v w=>by
  unfold jh;rw[aq r,ae,aP (show(i:Int)<40 by omega),ae,au j,aa,(k _).1,aa,Vu,w];cases a x.2.2.1<;>rfl) (by unfold jh;dsimp only;rw[sf (c:=40) rfl,af]) with ⟨i,x,r,j,F,_,h⟩|⟨J,h⟩
 .rw[h,aa] at d;exact absurd d (p rfl rfl)
 rw[h,aa] at d;rw[bW,ae] at d;rcases rX (f:=ji ((n,y,A,B,u),())) A 40 (λi=>((false,i,()),())) (λ_ x=>!a x.2.1||decide (200<x.2.2.2.1.length)||!e x.2.2.2.2.1) (λi x=>(1,(false,(i:Int),()),())) (λn=>(0,(false,(n:Int),()),())) ai (λi x j r v w=>by
  unfold ji;rw[aq r,ae,aP (show(i:Int)<40 by omega),ae,au j,aa,(k _).1,aa,aa,aa,gI (n:=200) (c:=200) rfl,(o _).1,aa,w];cases a x.2.1 with
  | false=>rfl
  | true =>
    by_cases s:200<x.2.2.2.1.length
    .simp[s,ao,nt,ag]
    .cases K:e x.2.2.2.2.1<;>simp[s,ao,nt,ag]) (by unfold ji;dsimp only;rw[sf (c:=40) rfl,af]) with ⟨i,x,r,j,F,_,h⟩|⟨L,h⟩
 .rw[h,aa] at d;exact absurd d (p rfl rfl)
 rw[h,aa] at d;rw[bW,ae] at d;rcases rX (f:=jj ((n,y,A,B,u),())) B 40 (λi=>((false,i,()),())) (λ_ x=>!a x.2.1||decide (200<x.2.2.2.2.1.length)||!e x.2.2.2.2.2.1) (λi x=>(1,(false,(i:Int),()),())) (λn=>(0,(false,(n:Int),()),())) ai (λi x j r v w=>by
  unfold jj;rw[aq r,ae,aP (show(i:Int)<40 by omega),ae,au j,aa,(k _).1,aa,aa,aa,gI (n:=200) (c:=200) rfl,(o _).1,aa,w];cases a x.2.1 with
  | false=>rfl
  | true =>
    by_cases s:200<x.2.2.2.2.1.length
    .simp[s,ao,nt,ag]
    .cases K:e x.2.2.2.2.2.1<;>simp[s,ao,nt,ag]) (by unfold jj;dsimp only;rw[sf (c:=40) rfl,af]) with ⟨i,x,r,j,F,_,h⟩|⟨M,h⟩
 .rw[h,aa] at d;exact absurd d (p rfl rfl)
 refine⟨λx j=>?_,λx j=>?_⟩
 .dsimp only at j;obtain⟨i,r⟩:=bz.1 j
  grind
 .dsimp only at j;obtain⟨i,r⟩:=bz.1 j
  grind
def aca(l:List aD):∃b,yl (l,())=ab (b,())/\(b=true->l.length<=40/\∀x∈l,x.1.length<=100/\x.2.1.length<=100):=by
 unfold yl;rcases rX (f:=sr (l,())) l 40 (λi=>((false,i,()),())) (λ_ x=>decide (100<x.1.length)||decide (100<x.2.1.length)) (λi x=>(1,(false,(i:Int),()),())) (λn=>(0,(false,(n:Int),()),())) ai (λi x a d k o=>by
  unfold sr;rw[aq d,ae,aP (show(i:Int)<40 by omega),ae,au a,aa,gI (n:=100) (c:=100) rfl,aa,gI (n:=100) (c:=100) rfl,o];by_cases h:100<x.1.length
  .simp[h,ao,nt,ag]
  .by_cases p:100<x.2.1.length<;>simp[h,p,ao,nt,ag]) (by unfold sr;dsimp only;rw[sf (c:=40) rfl,af]) with ⟨i,x,d,a,q,_,h⟩|⟨r,h⟩
 .rw[h];exact⟨false,rfl,λh=>(by cases h)⟩
 .rw[h];refine⟨_,rfl,λj=>?_⟩;rw[gH (n:=40) (c:=40) rfl] at j;have e:=iy j;refine⟨e,λx a=>?_⟩;obtain⟨i,d⟩:=bz.1 a
  grind
structure Nl (s:aA):Prop where
 base:ak7 (0,s.2.2.1,s.2.1,s.1,())
 ids:∀x∈s.2.2.1,x.1.length<=100/\x.2.1.length<=100
 lays:s.2.2.1.length<=12
 aau:s.2.2.2.1.length<=12
 am6:∀d∈s.2.2.2.1,d.length<=8192
 mts:s.2.2.2.2.1.length<=40
def acd(s:aA):∃b,ym (s,())=ab (b,())/\(b=true->Nl s):=by
 obtain⟨p,q,e,k,r,u⟩:=s;obtain⟨y,A,B⟩:=ab9 (0,e,q,p,());obtain⟨C,D,E⟩:=aca e;unfold ym;rcases rX (f:=ss ((p,q,e,k,r,u),())) k 12 (λi=>((false,i,()),())) (λ_ x=>decide (8192<x.length)) (λi x=>(1,(false,(i:Int),()),())) (λn=>(0,(false,(n:Int),()),())) ai (λi x v l F G=>by
  unfold ss;rw[aq l,ae,aP (show(i:Int)<12 by omega),ae,au v,aa,gI (n:=8192) (c:=8192) rfl,eA,G];by_cases h:8192<x.length<;>simp[h]) (by unfold ss;dsimp only;rw[sf (c:=12) rfl,af]) with ⟨i,x,l,v,I,_,h⟩|⟨J,h⟩
 .rw[h];exact⟨false,rfl,λh=>(by cases h)⟩
 .rw[h,aa];rw[bW,ae,A,aa,D];rw[gH (n:=12) (c:=12) rfl,gH (n:=12) (c:=12) rfl,gH (n:=40) (c:=40) rfl];cases y with
  | false=>exact⟨false,rfl,λh=>(by cases h)⟩
  | true =>
    cases C with
    | false=>exact⟨false,rfl,λh=>(by cases h)⟩
    | true =>
      refine⟨_,rfl,λa=>?_⟩;by_cases j:e.length<=12
      .by_cases o:k.length<=12
       .by_cases w:r.length<=40
        .refine⟨B rfl,(E rfl).2,j,o,λd H=>?_,w⟩;obtain⟨i,l⟩:=bz.1 H
         grind
        .rw[dE j,dE o,cL w] at a;cases a
       .rw[dE j,cL o] at a;cases a
      .rw[cL j] at a;cases a
def yW{a:Type}{c b:Bool}{o:Option Bool}{k:Bool->Option a}(h:o=ab b):ag (ao c o<|some false) k=k (c&&b):=by subst h;cases c<;>rfl
def E9{a:Type}{c b:Bool}{o:Option Bool}{k:Bool->Option a}(h:o=ab b):ag (ao c o<|some true) k=k (!c||b):=by subst h;cases c<;>rfl
def cZ(a b:aw):bG a b=decide (a=b):=rfl
def YH(b:Bool):nt b=!b:=rfl
def Q0(a b:Int):cj a b=decide (a<=b):=rfl
def GO(a b:Int):aS a b=decide (a=b):=rfl
def Tg(a b:Int):aZ a b=decide (a<b):=rfl
def BdL(x:aD):Prop:=x.1.length<=1048576/\x.2.1.length<=1048576/\nZ x.2.2.1/\x.2.2.2.1.length<=1048576
def BdI(x:bI):Prop:=x.1.length<=1048576/\nZ x.2.1/\x.2.2.1.length<=1048576/\tw x.2.2.2.2.1
def BdB(x:ep):Prop:=x.1.length<=1048576/\nZ x.2.1/\x.2.2.1.length<=1048576/\x.2.2.2.1.length<=1048576/\tw x.2.2.2.2.2.1
structure OkL (x:aD):Prop where
 id:Ig x.1
 par:x.2.1=[]\/(Ig x.2.1/\x.2.1≠x.1)
 YI:se x.2.2.1=true
 dig:ahA x.2.2.2.1=0
 s0:0<=x.2.2.2.2.1
 s1:x.2.2.2.2.1<=8192
 b0:0<=x.2.2.2.2.2.1
 b1:x.2.2.2.2.2.1<=32
structure afu (x:bI):Prop where
 id:Ig x.1
 YI:se x.2.1=true
 top:x.2.2.1=[]\/Ig x.2.2.1
 ak9:x.2.2.2.1.length<=64
 items:OkI x.2.2.2.2.1
structure OkB (x:ep):Prop where
 id:Ig x.1
 YI:se x.2.1=true
 img:x.2.2.1=[]\/Ig x.2.2.1
 lay:Ig x.2.2.2.1
 ak9:x.2.2.2.2.1.length<=64
 items:OkI x.2.2.2.2.2.1
def ace(x:aD)(h:BdL x):∃b,gC (x,())=ab (b,())/\(b=true↔OkL x):=by
 obtain⟨k,l,j,n⟩:=h;obtain⟨v,o,p⟩:=oG x.1 k;obtain⟨q,r,s⟩:=oG x.2.1 l;unfold gC;dsimp only;rw[o,aa,yW (b:=(!(nt<|bG x.2.1 [])||(q&&nt (bG x.2.1 x.1)))) (by rw[E9<|by rw[r,aa,jC]]),
  yW (by rw[Ar x.2.2.1 (j.small) j.each,aa]),yW (by rw[Gw x.2.2.2.1 n,aa])]
 refine⟨_,rfl,?_⟩;simp only[jC,YH,cZ,Q0,GO,gw,BS,ad0,zh,pR,ZA,p,s];constructor
 .rintro⟨⟨⟨⟨⟨⟨⟨a,b⟩,c⟩,d⟩,e⟩,f⟩,g⟩,i⟩;exact⟨a,b,c,d,e,f,g,i⟩
 .rintro⟨a,b,c,d,e,f,g,i⟩;exact⟨⟨⟨⟨⟨⟨⟨a,b⟩,c⟩,d⟩,e⟩,f⟩,g⟩,i⟩
def Q1{l:List Item}(h:tw l):∃b,np (l,())=ab (b,())/\(b=true↔OkI l) :=
 ab8 l (by have:=h.1;omega) λx a=>by have:=h.2 x a;omega
def ala(m:aw):cj (@len UInt8 m) (64:Int)=decide (m.length<=64):=by unfold cj len;apply hH.2;omega
def acf(x:bI)(h:BdI x):∃b,qb (x,())=ab (b,())/\(b=true↔afu x):=by
 obtain⟨i,f,j,k⟩:=h;obtain⟨v,l,n⟩:=oG x.1 i;obtain⟨o,p,q⟩:=oG x.2.2.1 j;obtain⟨w,r,s⟩:=Q1 k;unfold qb;dsimp only;rw[l,aa,yW (by rw[Ar x.2.1 (f.small) f.each,aa]),yW (b:=(!(nt<|bG x.2.2.1 [])||o)) (by rw[E9<|by rw[p,aa]]),
  yW (by rw[r,aa])]
 refine⟨_,rfl,?_⟩;simp only[jC,YH,cZ,ala,gw,BS,ad0,zh,pR,ZA,n,q,s];constructor
 .rintro⟨⟨⟨⟨a,b⟩,c⟩,d⟩,e⟩;exact⟨a,b,c,d,e⟩
 .rintro⟨a,b,c,d,e⟩;exact⟨⟨⟨⟨a,b⟩,c⟩,d⟩,e⟩
def ahG(x:ep)(h:BdB x):∃b,u5 (x,())=ab (b,())/\(b=true↔OkB x):=by
 obtain⟨j,i,k,l,n⟩:=h;obtain⟨B,o,p⟩:=oG x.1 j;obtain⟨q,r,s⟩:=oG x.2.2.1 k;obtain⟨C,v,w⟩:=oG x.2.2.2.1 l;obtain⟨D,y,A⟩:=Q1 n;unfold u5;dsimp only;rw[o,aa,yW (by rw[Ar x.2.1 (i.small) i.each,aa]),yW (b:=(!(nt<|bG x.2.2.1 [])||q)) (by rw[E9<|by rw[r,aa]]),
  yW (by rw[v,aa]),yW (by rw[y,aa])]
 refine⟨_,rfl,?_⟩;simp only[jC,YH,cZ,ala,gw,BS,ad0,zh,pR,ZA,p,s,w,A];constructor
 .rintro⟨⟨⟨⟨⟨a,b⟩,c⟩,d⟩,e⟩,f⟩;exact⟨a,b,c,d,e,f⟩
 .rintro⟨a,b,c,d,e,f⟩;exact⟨⟨⟨⟨⟨a,b⟩,c⟩,d⟩,e⟩,f⟩
def Th(b:yd):List Tx:=b.2.1.map (·.1)++b.2.2.1.map (·.1)++b.2.2.2.1.map (·.1)
def YJ(b:yd):List Tx:=b.2.1.flatMap (·.2.2.1)++b.2.2.1.flatMap (·.2.1)++b.2.2.2.1.flatMap (·.2.1)
def zI{a:Type}{g:a->List Tx}:∀{l:List a},(∀x∈l,(g x).length<=8)->(l.flatMap g).length<=8*l.length:=by
 intro l;induction l with
 | nil=>intro _;simp
 | cons x r c =>
   intro h;rw[ZK,hY,eU];have:=h x (pL ..);have:=c λy d=>h y (vi _ d);omega
def Fa{d:Type}{f:(al×al×Int×al)×List Tx×List Tx×al->Option (((al×al×Int×al)×List Tx×List Tx×al)⊕((al×al×Int×al)×List Tx×List Tx×al))}
  (l:List d) (id:d->Tx) (nm:d->List Tx) (o:l.length<=40) (i:∀x∈l,(nm x).length<=8) (ns is:List Tx) (p:ns.length<=10000) (q:is.length<=10000)
  (k:∀c a b,f (((),(),c,()),a,b,())=dn (ao (aZ c<|len l) (ag (idx l c) λx=>ao (fits<|plus (@len Tx b)<|@len Tx [id x]) (ag (idx l c) λy=>ao (fits<|plus (@len Tx a)<|@len Tx<|nm y) (ab<|.inl (((),(),aH .i64 c 1,()),app a<|nm y,app b [id x],())) ah) ah)
   (ab<|.inr (0,((),(),c,()),a,b,()))) ) :
  Loop f (((),(),(0:Int),()),ns,is,())=ab (((),(),(l.length:Int),()),ns++l.flatMap nm,is++l.map id,()):=by
 have:=dh (f:=f) l.length (λj:Nat=>(((),(),(j:Int),()),ns++(l.take j).flatMap nm,is++(l.take j).map id,()))
  (r:=(((),(),(l.length:Int),()),ns++l.flatMap nm,is++l.map id,())) (λj e=>by
   have hx:l[j]?=ab l[j]:=ia e;have s:((l.take j).flatMap nm).length<=8*40:=by
    have:=zI (g:=nm) (l:=l.take j) λx hx=>i x (Hq hx);rw[km] at this;omega
   have n:=i _ (adL e);rw[k,aq e,ae,au hx,aa,
    show fits (plus (@len Tx<|is++(l.take j).map id)<|@len Tx [id l[j]])=true from bo (by rw[hY,uI,km];show _+1<=_;omega),ae,aa,
    show fits (plus (@len Tx<|ns++(l.take j).flatMap nm)<|@len Tx<|nm l[j])=true from bo (by rw[hY];omega),ae,aL ai]
   rw[ED,hx,List.flatMap_append,ZP];simp[app,dn]) (by
   rw[DG,k,ay,af];rfl)
 simpa using this
def acg(b:yd)(h:FewB b):ux (b,())=ab (Th b,YJ b,()):=by
 obtain⟨i,e,j,f,k,n⟩:=h;unfold ux;rw[Fa b.2.1 (·.1) (·.2.2.1) i (λx d=>(e x d).1) [] [] aY aY<|λc a b=>rfl,aa];dsimp only;have c1:(b.2.1.flatMap (·.2.2.1)).length<=320:=by have:=zI (g:=λx:aD=>x.2.2.1) (l:=b.2.1) λx d=>(e x d).1;omega
 have c2:(b.2.2.1.flatMap (·.2.1)).length<=320:=by have:=zI (g:=λx:bI=>x.2.1) (l:=b.2.2.1) λx d=>(f x d).1;omega
 rw[Fa b.2.2.1 (·.1) (·.2.1) j (λx d=>(f x d).1) _ _ (by rw[BG];omega) (by rw[BG,uI];omega)<|λc a b=>rfl,aa];dsimp only;rw[Fa b.2.2.2.1 (·.1) (·.2.1) k (λx d=>(n x d).1) _ _ (by rw[hY,BG];omega) (by rw[hY,BG,uI,uI];omega)<|λc a b=>rfl,aa];rfl
open Classical in
def ach{x:aD}(h:BdL x):gC (x,())=ab (decide<|OkL x,()):=by
 obtain⟨b,a,c⟩:=ace x h
 grind
open Classical in
def aci{x:bI}(h:BdI x):qb (x,())=ab (decide<|afu x,()):=by
 obtain⟨b,a,c⟩:=acf x h
 grind
open Classical in
def ahH{x:ep}(h:BdB x):u5 (x,())=ab (decide<|OkB x,()):=by
 obtain⟨b,a,c⟩:=ahG x h
 grind
abbrev Cs:=(Int×Int×al)×al
def Nn{e:Type}{f:Cs->Option (Cs⊕(Nat×Cs))}(l:List e)(o:l.length<=1000000)(p:e->Prop)[DecidablePred p](a:Int)
  (j:∀(i:Nat) (x:e),l[i]?=ab x->f ((a,(i:Int),()),())=ab (if p x then .inl ((a,aH .i64 (i:Int) 1,()),()) else .inr (1,((1:Int),(i:Int),()),())))
  (c:f ((a,(l.length:Int),()),())=ab (.inr (0,(a,(l.length:Int),()),()))) :
  ((∀x∈l,p x)/\Loop f ((a,(0:Int),()),())=ab (0,(a,(l.length:Int),()),())) \/
  (¬(∀x∈l,p x)/\∃q,Loop f ((a,(0:Int),()),())=ab (1,((1:Int),q),())):=by
 rcases iQ l (λi=>((a,i,()),())) (λ_ x=>decide (¬p x)) (λi x=>(1,((1:Int),(i:Int),()),())) _ ai (λi x d k n=>by
  rw[j i x d,n];by_cases h:p x<;>simp[h]) c with ⟨i,x,d,r,_,h⟩|⟨s,h⟩
 .grind
 .refine .inl ⟨λx d=>?_,h⟩;obtain⟨i,k⟩:=bz.1 d
  grind
def Np{l:List Tx}:l.Pairwise (λx y=>fq x y=true)↔∀(i:Nat) (x y:Tx),l[i]?=ab x->l[i+1]?=ab y->fq x y=true:=by
 have h:=Nk (l:=l.map λs=>((s,[],[],()):It));unfold VU at h;rw[Ue] at h;refine h.trans ⟨λk i x y a c=>?_,λk i x y a c=>?_⟩
 .exact k i _ _ (by rw[EC,a];rfl) (by rw[EC,c];rfl)
 .grind
def ahI(a c:List Tx)(l:a.length<=100000) :
  (a.Pairwise (λx y=>fq x y=true)/\∃q,Loop (iW (a,c,())) (((0:Int),(1:Int),()),())=ab (0,((0:Int),q),())) \/
  (¬a.Pairwise (λx y=>fq x y=true)/\∃q,Loop (iW (a,c,())) (((0:Int),(1:Int),()),())=ab (1,((1:Int),q),())):=by
 rw[Np];rcases iQ (f:=iW (a,c,())) a.tail (λi=>(((0:Int),i+1,()),())) (λi y=>match a[i]? with|some x=>!fq x y|none=>false) (λi x=>(1,((1:Int),(i:Int)+1,()),())) _ (by rw[adM];omega) (λi y d j n=>by
  rw[adM] at j;rw[List.getElem?_tail] at d;obtain⟨x,e⟩:∃x,a[i]?=ab x:=⟨_,ia (show i<a.length by omega)⟩;unfold iW;dsimp only;rw[show((i:Int)+1)=((i+1:Nat):Int) by omega,aq ai,ae,dL ai ai,show _-1=(i:Int) by omega,au e,aa,au d,aa,aL ai,e];by_cases k:fq x y=true<;>simp[k,nt,ao]) (by
  unfold iW;dsimp only;rw[adM,aI ft,af]) with ⟨i,y,d,o,_,h⟩|⟨p,h⟩
 .grind
 .grind
def YK(k a:List Tx)(I:a.length<=100000) :
  (a.Nodup/\∃q,Loop (iY (k,a,())) (((0:Int),(0:Int),()),())=ab (0,((0:Int),q),())) \/
  (¬a.Nodup/\∃q,Loop (iY (k,a,())) (((0:Int),(0:Int),()),())=ab (1,((1:Int),q),())):=by
 have inner:∀(i:Nat) (x:Tx),a[i]?=ab x->(∃j y,j<i/\a[j]?=ab y/\y=x/\∃q,Loop (iX (k,a,()) (((0:Int),(i:Int),()),())) (((0:Int),(0:Int),()),())=ab (1,((1:Int),q),())) \/
   ((∀(j:Nat) (y:Tx),j<i->a[j]?=ab y->y≠x)/\∃q,Loop (iX (k,a,()) (((0:Int),(i:Int),()),())) (((0:Int),(0:Int),()),())=ab (0,((0:Int),q),())):=by
  intro i x e;have hi:=aG e;have n:min i a.length=i:=ai;rcases rX (f:=iX (k,a,()) (((0:Int),(i:Int),()),())) a i (λj=>(((0:Int),j,()),())) (λ_ y=>decide (y=x)) (λj y=>(1,((1:Int),(j:Int),()),())) _ ai (λj y v G d A=>by
   unfold iX;rw[aP<|show(j:Int)<(i:Int) by omega,ae,au v,aa,au e,aa,eA,A];by_cases h:y=x<;>simp[bG,h]) (by
   unfold iX;rw[n,aI (sN _),af]) with ⟨j,y,d,v,F,_,h⟩|⟨w,h⟩
  .grind
  .grind
 have c:∀i x,a[i]?=ab x->(x∈a.take i↔∃j y,j<i/\a[j]?=ab y/\y=x):=by
  intro i x e;rw[bz];constructor
  .grind
  .rintro⟨j,y,d,v,rfl⟩;exact⟨j,by rw[jU,aW d];exact v⟩
 rcases iQ (f:=iY (k,a,())) a (λi=>(((0:Int),i,()),())) (λi x=>decide _) (λi x=>(1,((1:Int),_),())) _ ai (λi x l hi A=>by
  unfold iY;rw[aq hi,ae];rcases inner i x l with ⟨j,y,o,p,r,q,h⟩|⟨w,q,h⟩
  .rw[h,aa,dE ((c i x l).2 ⟨j,y,o,p,r⟩)];rfl
  .rw[h,aa,cL (λH=>by obtain⟨j,y,o,p,r⟩:=(c i x l).1 H;exact w j y o p r),A];rfl) (by unfold iY;dsimp only;rw[ay,af]) with ⟨i,x,l,F,_,h⟩|⟨w,h⟩
 .refine .inr ⟨λB=>?_,_,h⟩;obtain⟨j,y,o,p,r⟩:=(c i x l).1 (iy F);obtain⟨C,s⟩:=ib.1 l;obtain⟨D,E⟩:=ib.1 p;exact DC.1 B j i D C o (by rw[E,s,r])
 .refine .inl ⟨DC.2 λj i G hi d J=>?_,_,h⟩;have:=w i a[i] (ia hi)
  grind
structure BdX (b:yd):Prop extends FewB b where
 xl:∀x∈b.2.1,BdL x
 xi:∀x∈b.2.2.1,BdI x
 xb:∀x∈b.2.2.2.1,BdB x
def acj(a:Int)(b:yd):Nat:=if a=1 then b.2.2.2.1.length else if a=2 then b.2.2.1.length else b.2.1.length
structure AB (kind:Int) (b:yd):Prop where
 few:acj kind b<=32
 only:b.2.2.2.1.length+b.2.2.1.length+b.2.1.length=acj kind b
 ll:∀x∈b.2.1,OkL x
 il:∀x∈b.2.2.1,afu x
 bl:∀x∈b.2.2.2.1,OkB x
 ids:(Th b).Pairwise (λx y=>fq x y=true)
 YI:(YJ b).Nodup
open Classical in
def Cv(a:Int)(b:yd)(J:a=1\/a=2\/a=3)(N:b.1=0)(h:BdX b):∃e,fI (a,b,())=ab (e,())/\(e=0↔AB a b):=by
 obtain⟨n,d,j,k,u⟩:=b;subst N;have O:=acg _ h.toFewB;obtain⟨K,o,L,p,r,s⟩:=h.toFewB;obtain⟨P,Q,R⟩:=(⟨h.xl,h.xi,h.xb⟩:_/\_/\_);dsimp only at K o L p r s;have v:idx ([(0:Int),@len ep k,@len bI j,@len aD d]:List Int) a=ab ((acj a (0,d,j,k,u):Nat):Int):=by
  rcases J with rfl|rfl|rfl<;>rfl
 have M:acj a (0,d,j,k,u)<=40:=by
  rcases J with rfl|rfl|rfl
  .exact r
  .exact L
  .exact K
 unfold fI;rw[aI ai,af,aI ai,af,show aZ _ 0=false from rfl,af,show aZ _ 0=false from rfl,af,aM ai ai,ae,v,aa];by_cases w:acj a (0,d,j,k,u)<=32
 rotate_left
 .rw[aP ai,ae];exact⟨1,rfl,λq=>(by cases q),λq=>absurd q.few w⟩
 rw[aI ai,af,show within _ 4=true from rfl,ae,show idx _ 1=ab (len k) from rfl,aa,show within _ 4=true from rfl,ae,
  show idx _ 2=ab _ from rfl,aa,show within _ 4=true from rfl,ae,show idx ([(0:Int),@len ep k,@len bI j,@len aD d]:List Int) 3=ab _ from rfl,aa,ae,aa,
  ff (b:=len j) ft ft,ff ft ft]
 by_cases l:k.length+j.length+d.length=acj a (0,d,j,k,u)
 rotate_left
 .rw[ax ft,az,ae];exact⟨1,rfl,λq=>(by cases q),λq=>absurd q.only l⟩
 rw[aE ft,aF,af];rcases Nn (f:=eQ (a,(0,d,_),())) d ai OkL 0 (λi x c=>by
  unfold eQ;rw[aq<|aG c,ae,au c,aa,ach (P x<|eT c),aa];by_cases q:OkL x<;>simp[q,nt,ao]) (by unfold eQ;dsimp only;rw[ay,af]) with ⟨y,A⟩|⟨y,q,A⟩
 rotate_left
 .rw[A,aa];exact⟨1,rfl,λq=>(by cases q),λq=>absurd q.ll y⟩
 rw[A,aa];rcases Nn (f:=px (a,(0,d,j,_),())) j ai afu 0 (λi x c=>by
  unfold px;rw[aq<|aG c,ae,au c,aa,aci (Q x<|eT c),aa];by_cases q:afu x<;>simp[q,nt,ao]) (by unfold px;dsimp only;rw[ay,af]) with ⟨B,C⟩|⟨B,q,C⟩
 rotate_left
 .rw[C,aa];exact⟨1,rfl,λq=>(by cases q),λq=>absurd q.il B⟩
 rw[C,aa];rcases Nn (f:=py (a,(0,d,j,k,u),())) k ai OkB 0 (λi x c=>by
  unfold py;rw[aq<|aG c,ae,au c,aa,ahH (R x<|eT c),aa];by_cases q:OkB x<;>simp[q,nt,ao]) (by unfold py;dsimp only;rw[ay,af]) with ⟨D,E⟩|⟨D,q,E⟩
 rotate_left
 .rw[E,aa];exact⟨1,rfl,λq=>(by cases q),λq=>absurd q.bl D⟩
 rw[E,aa];rw[bW,ae,O,aa];have U:(d.flatMap (·.2.2.1)).length<=320:=by have:=zI λx c=>(o x c).1;omega
 have c1:(j.flatMap (·.2.1)).length<=320:=by have:=zI λx c=>(p x c).1;omega
 have c2:(k.flatMap (·.2.1)).length<=320:=by have:=zI λx c=>(s x c).1;omega
 rcases ahI (Th (0,d,j,k,u)) _ (by unfold Th;simp only[hY,uI];omega) with ⟨F,S,G⟩|⟨F,S,G⟩
 rotate_left
 .rw[G,aa];exact⟨1,rfl,λq=>(by cases q),λq=>absurd q.ids F⟩
 rw[G,aa];rcases YK _ (YJ (0,d,j,k,u)) (by unfold YJ;simp only[hY];omega) with ⟨H,T,I⟩|⟨H,T,I⟩
 rotate_left
 .rw[I,aa];exact⟨1,rfl,λq=>(by cases q),λq=>absurd q.YI H⟩
 rw[I,aa];exact⟨0,rfl,λ_=>⟨w,l,y,B,D,F,H⟩,λ_=>rfl⟩
def Py(s:aw)(l:s.length<=1048576)(m:Int):∀(n i:Nat),s.length-i<=n->i<=s.length->∃q,Loop (gq (s,m,())) ((false,(i:Int),()),())=ab q/\(if zE (s.drop i) then q.1=0 else q.1=1/\q.2.1.1=false):=by
 intro n;induction n with
 | zero =>
   intro i h d;have:i=s.length:=ai;subst this;rw[aT];refine⟨(0,(false,(s.length:Int),()),()),?_,?_⟩
   .unfold gq;rw[aI<|by simp only[len];omega,af];rfl
   .rw[LB,aW (by intro x hx;cases hx)]
 | succ n f =>
   intro i h d;rw[aT];by_cases c:i<s.length
   .have hd:=zg c;have e0:gq (s,m,()) ((false,(i:Int),()),())=if s[i]=0 then ab (.inr (1,(false,(i:Int),()),())) else ab (.inl ((false,((i+1:Nat):Int),()),())):=by
     unfold gq;rw[aP<|by simp only[len];omega,ae,Dp s c,aa];by_cases a:s[i]=0
     .rw[a,show aS (u8 0) 0=true from rfl,ae,aW rfl]
     .rw[show aS _ 0=false from ax (λe=>a (Yu e)),af,aQ a,aL ai]
    rw[e0];by_cases a:s[i]=0
    .rw[aW a];refine⟨_,rfl,?_⟩;rw[aQ λj=>j s[i] (by rw[hd];exact pL ..) a]
     grind
    .rw[aQ a];obtain⟨q,k,o⟩:=f (i+1) ai ai;refine⟨q,k,?_⟩;have e:zE (s.drop i)↔zE (s.drop<|i+1):=by
      rw[hd];constructor
      .intro h x hx;exact h x (vi _ hx)
      .intro h x hx;rcases ld.1 hx with rfl|hx
       .exact a
       .exact h x hx
     grind
   .have:i=s.length:=ai;subst this;refine⟨(0,(false,(s.length:Int),()),()),?_,?_⟩
    .unfold gq;rw[aI<|by simp only[len];omega,af];rfl
    .rw[LB,aW (by intro x hx;cases hx)]
def GP(s:aw)(d:s.length<=1048576)(m:Int):ni (s,m,())=ab (decide<|clr s m,()):=by
 unfold ni;dsimp only;obtain⟨q,f,a⟩:=Py s d m s.length 0 ai ai;rw[show Loop (gq _) ((false,0,()),())=ab q from f,aa];rw[zZ] at a;by_cases c:zE s
 .rw[aW c] at a;rw[a,show da 0 0=true from rfl,ae];by_cases h:s=[]
  .subst h;rw[ea aK,af,cL λe=>e.1 rfl]
  .have:=Ly.2 h;rw[bO<|by simp only[len];omega,ae];unfold cj;rw[show decide (len s<=m)=decide (clr s m) from hH.2 ⟨λe=>⟨h,e,c⟩,λe=>e.2.1⟩]
 .rw[aQ c] at a;rw[a.1,show da 1 0=false from rfl,af,a.2,cL λe=>c e.2.2]
def zJ(n b:Int):qQ (n,b,())=ab (decide<|SV n b,()):=E2 n b
def ahJ(h:Hd)(m:Int)(w:h.1.length<=1048576)(x:h.2.2.2.2.2.2.2.1.length<=1048576):uX (h,m,())=ab (decide<|Kn h m,()):=by
 unfold uX;dsimp only;have a:(ao (aS h.2.1 3) (ag (ni (h.2.2.2.2.2.2.2.1,100,())) λy=>ab ((y.1,()),()))<|some ((bG h.2.2.2.2.2.2.2.1 [],()),())) =
   ab ((decide<|(h.2.1=3/\clr h.2.2.2.2.2.2.2.1 100)\/(h.2.1≠3/\h.2.2.2.2.2.2.2.1=[]),()),()):=by
  by_cases r:h.2.1=3
  .rw[r,oe,ae,GP _ x,aa]
   grind
  .rw[ax r,af];unfold bG
   grind
 rw[a,aa,GP _ w,aa];by_cases d:clr h.1 m
 case neg=>rw[cL d,af,af,af,aa,af,aa,af,aa,af,aa,af,aa,af,af,cL λe=>d e.2.2.2.2.2.1]
 rw[dE d,ae];have c:Kn h m->1<=h.2.1/\h.2.1<=3:=λe=>by
  rcases e.2.2.2.2.2.2 with k|k|k<;>omega
 by_cases s:1<=h.2.1
 case neg=>rw[ea ai,af,af,aa,af,aa,af,aa,af,aa,af,aa,af,af,cL λe=>s (c e).1]
 rw[bO s,ae];by_cases v:h.2.1<=3
 case neg=>rw[ea ai,af,aa,af,aa,af,aa,af,aa,af,aa,af,af,cL λe=>v (c e).2]
 rw[bO v,ae,zJ,aa,aa];by_cases f:SV h.2.2.1 2097152
 case neg=>rw[cL f,af,aa,af,aa,af,aa,af,aa,af,af,cL λe=>f e.1]
 rw[dE f,ae,zJ,aa,aa];by_cases i:SV h.2.2.2.1 2097152
 case neg=>rw[cL i,af,aa,af,aa,af,aa,af,af,cL λe=>i e.2.1]
 rw[dE i,ae,zJ,aa,aa];by_cases j:SV h.2.2.2.2.1 2097152
 case neg=>rw[cL j,af,aa,af,aa,af,af,cL λe=>j e.2.2.1]
 rw[dE j,ae,zJ,aa,aa];by_cases l:SV h.2.2.2.2.2.1 8589934592
 case neg=>rw[cL l,af,aa,af,af,cL λe=>l e.2.2.2.1]
 rw[dE l,ae,zJ,aa,aa];by_cases n:SV h.2.2.2.2.2.2.1 8589934592
 case neg=>rw[cL n,af,af,cL λe=>n e.2.2.2.2.1]
 rw[dE n,ae];have A:decide (Kn h m)=decide (kindOk h):=hH.2 ⟨λe=>e.2.2.2.2.2.2,λe=>⟨f,i,j,l,n,d,e⟩⟩;rw[A];have q:h.2.1=1\/h.2.1=2\/h.2.1=3:=ai;by_cases o:h.2.2.2.2.2.1=0
 .rw[aE o,aF,af,ae];rw[show decide _=decide (kindOk h) from hH.2 (by
   unfold kindOk;rcases q with k|k|k<;>simp[k,o])]
 .rw[ax o,az,ae];by_cases p:h.2.1=1
  .rw[aE p,ae];rw[show decide _=decide (kindOk h) from hH.2 (by unfold kindOk;simp[p])]
  .rw[ax p,af];rw[show decide _=false from cL (by unfold kindOk;simp[p,o])]
def Nq(b:aw)(k:Nat):Nat:=if 148<=k/\k<156 then 32 else(b.getD k 0).toNat
def zK(b:aw):Nat->Nat
 | 0=>0
 | k+1=>zK b k+Nq b k
def Nr(b:aw)(k:Nat):Nq b k<=255:=by
 unfold Nq;have:=(b.getD k 0).toNat_lt
 grind
def VV(b:aw)(k:Nat):zK b k<=255*k:=by
 induction k with
 | zero=>exact cq _
 | succ k a=>have:=Nr b k;simp only[zK];omega
def YL:idx ([(0,100,()),(100,8,()),(108,8,()),(116,8,()),(124,12,()),(136,12,()),(148,8,()),(156,1,()),(157,100,()),(257,8,()),(345,155,())]:List (Int×Int×al)) 6=ab (148,8,()):=rfl
def Im(b:aw)(i:b.length<=1048576):vX (b,())=ab ((zK b b.length:Int),()):=by
 unfold vX mI;rw[aa];rw[YL,aa,ec (by simp only[len];omega),ae];have key:Loop (qu (b,()) (148,8,())) ((0,0,()),())=ab _ :=
  dh b.length (λk=>(((zK b k:Int),(k:Int),()),())) (λk c=>by
   unfold qu;dsimp only;have j:=VV b k;have l:=Nr b k;have a:b.getD k 0=b[k]:=by simp[Xd,c]
   rw[lA,aP ai,ae,aM ai ai,ae,zC b c,aa,dA,aL ai,show aH .i64 148 8=156 from aK];have f:(ao (ao (cj 148 (k:Int)) (aZ (k:Int) 156) false) (((32:Int),()),()) ((u8 b[k],()),())).1.1=(Nq b k:Int):=by
    unfold Nq;by_cases h:148<=k
    .by_cases d:k<156
     .rw[bO ai,ae,aP ai,ae,aW ⟨h,d⟩];rfl
     .rw[bO ai,ae,aI ai,af,aQ (λe=>d e.2),a];rfl
    .rw[ea ai,af,af,aQ (λe=>h e.1),a];rfl
   rw[f,Ao ai ai,show aH .i64 _ _=_ from xh ai];rfl) (by
   unfold qu;dsimp only;rw[lA,aI ai,af,lh])
 rw[key,aa]
def GQ(b:aw)(i:b.length<=1048576):yc (b,())=ab ((zK b b.length:Int),()):=by
 unfold yc;have key:Loop (r4 (b,())) ((0,0,()),())=ab _ :=
  dh b.length (λk=>(((zK b k:Int),(k:Int),()),())) (λk c=>by
   unfold r4;dsimp only;have j:=VV b k;have l:=Nr b k;have a:b.getD k 0=b[k]:=by simp[Xd,c]
   have n:=b[k].toNat_lt;have e:∀v:Nat,v=Nq b k->aH .i64 (zK b k:Int) _=((zK b (k+1):Nat):Int):=λv d=>by
    rw[d,xh ai];rfl
   rw[aP<|by simp only[len];omega,ae];unfold Nq at e;by_cases h:148<=k
   .by_cases f:k<156
    .rw[bO ai,ae,aP ai,ae,aa,dA,aL ai]
     grind
    .rw[bO ai,ae,aI ai,af,Dp b c,aa,aa,dA,aL ai];rw[show kF .i64 (u8 b[k])=(b[k].toNat:Int) from Ao (by unfold u8;omega) (by unfold u8;omega),e b[k].toNat (by rw[aQ<|λe=>f e.2,a])]
   .rw[ea ai,af,af,Dp b c,aa,aa,dA,aL ai];rw[show kF .i64 (u8 b[k])=(b[k].toNat:Int) from Ao (by unfold u8;omega) (by unfold u8;omega),e b[k].toNat (by rw[aQ<|λe=>h e.1,a])]) (by
   unfold r4;rw[aI<|by simp only[len];omega,af,lh])
 rw[key,aa]
def kG(n:Nat):aw:=List.replicate n 0
def tz(n:Nat):(kG n).length=n:=Qj
def nR:aw:=[117,115,116,97,114,0,48,48]
def YM(a:List aw)(k:Nat)(c:k<a.length):a.flatten=(a.take k).flatten++(a[k]++(a.drop<|k+1).flatten):=by
 conv=>lhs;rw[<-BR k a,zg c]
 rw[List.flatten_append,adI]
def afv(a:List aw)(k:Nat)(c:k<a.length)(x:aw):(a.set k x).flatten=(a.take k).flatten++(x++(a.drop<|k+1).flatten):=by
 rw[aiy,aW c,List.flatten_append,adI]
def afw(A z R s:aw)(a:Nat)(c:A.length=a)(d:s.length<=z.length):over (aC<|A++(z++R)) (a:Int) (aC s)=aC (A++((s++z.drop s.length)++R)):=by
 unfold over;rw[pS,gA];have e:(aC<|A++(z++R)).take a=aC A:=by rw[Cl,adO c]
 have f:(aC<|A++(z++R)).drop (a+s.length)=aC (z.drop s.length++R):=by
  have:(A++(z++R)).drop (a+s.length)=z.drop s.length++R:=by
   rw[<-c,<-yG,JX,Zy d]
  rw[<-this];simp[aC,List.map_drop]
 rw[e,f,<-ui,<-ui,uH,uH]
def ov(c:List aw)(k:Nat)(d:k<c.length)(s:aw)(n l a:Nat)(f:c[k]=kG n)(i:s.length=l)(j:l<=n)(o:(c.take k).flatten.length=a)(p:a+l<=512) :
  over (aC c.flatten) (a:Int) (jd (aC s)<|minus 512 (a:Int))=aC (c.set k<|s++kG (n-l)).flatten:=by
 have e:jd (aC s) (minus 512 (a:Int))=aC s:=by
  unfold jd minus;rw[Hp];rw[gA];omega
 rw[e,YM c k d,afw _ _ _ _ a o (by rw[f,tz];omega),afv c k d,f,i];simp[kG]
def afx(h:Hd)(m u g z t:Nat)(a:UInt8)(c:aw):List aw:=[h.1++kG (100-h.1.length),Yz m 7++kG 1,Yz u 7++kG 1,Yz g 7++kG 1,Yz z 11++kG 1,Yz t 11++kG 1,c,[a]++kG 0,h.2.2.2.2.2.2.2.1++kG (100-h.2.2.2.2.2.2.2.1.length),nR++kG 0,kG 80,kG 155,kG 12]
def aav:List (Int×Int×al):=[(0,100,()),(100,8,()),(108,8,()),(116,8,()),(124,12,()),(136,12,()),(148,8,()),(156,1,()),(157,100,()),(257,8,()),(345,155,())]
def YN:mI ()=ab (aav,()):=rfl
structure Fits (h:Hd) (m u g z t:Nat) (kd:UInt8):Prop where
 path:h.1.length<=100
 link:h.2.2.2.2.2.2.2.1.length<=100
 m:h.2.2.1=(m:Int)/\m<2097152
 u:h.2.2.2.1=(u:Int)/\u<2097152
 g:h.2.2.2.2.1=(g:Int)/\g<2097152
 z:h.2.2.2.2.2.1=(z:Int)/\z<8589934592
 t:h.2.2.2.2.2.2.1=(t:Int)/\t<8589934592
 kind:(h.2.1=1/\kd=48)\/(h.2.1=2/\kd=53)\/(h.2.1=3/\kd=50)
def am7(h:Hd)(m u g z t:Nat)(a:UInt8):aw:=(afx h m u g z t a<|Yz (zK (afx h m u g z t a<|kG 8).flatten 512) 6++[0,32]).flatten
def Kw(s:aw)(j:s.length<=1048576):∃n c,dN (s,())=ab (n,c,()):=by
 unfold dN;dsimp only;cases l:(ao (nt<|aZ (len s) 1) (aZ 21<|len s) true) with
 | true=>exact⟨0,false,rfl⟩
 | false =>
   rw[af,ec (by simp only[len];omega),ae];have key:∀(k i:Nat) (v:Int),s.length-i<=k->i<=s.length->∃q,Loop (bS (s,())) ((0,false,v,(i:Int),()),())=ab q:=by
    intro k;induction k with
    | zero =>
      intro i v h d;rw[aT];unfold bS;dsimp only;rw[lA,aI ai,af];exact⟨_,rfl⟩
    | succ k e =>
      intro i v h d;by_cases a:i<s.length
      .cases hd:(ao (nt<|aZ (u8 s[i]) 48) (aZ 55<|u8 s[i]) true) with
       | true =>
         have e0:bS (s,()) ((0,false,v,(i:Int),()),())=ab (.inr (1,(0,false,v,(i:Int),()),())):=by
          unfold bS;dsimp only;rw[lA,aP ai,ae,aM ai ai,ae,zC s a,aa,hd,ae]
         rw[aT,e0];exact⟨_,rfl⟩
       | false =>
         have e0:bS (s,()) ((0,false,v,(i:Int),()),())=ab (.inl ((0,false,zX .i64 (nW .i64 v 3)<|kF .i64<|db .u8 (u8 s[i]) 48,((i+1:Nat):Int),()),())):=by
          unfold bS;dsimp only;rw[lA,aP ai,ae,aM ai ai,ae,zC s a,aa,hd,af,aI aK,af,aL ai]
         rw[aT,e0];exact e (i+1) _ ai ai
      .rw[aT];unfold bS;dsimp only;rw[lA,aI ai,af];exact⟨_,rfl⟩
   obtain⟨q,f⟩:=key s.length 0 0 ai ai;rw[show Loop (bS (s,())) ((0,false,0,0,()),())=ab q from f,aa];cases da q.1 0 with
   | true=>exact⟨_,_,rfl⟩
   | false=>exact⟨_,_,rfl⟩
def pE(p:UInt8->Bool)(s:aw):(cX p s).length<=s.length:=by
 unfold cX;rw[Ql];have:=BP (p:=p) (l:=s.reverse);have:=congrArg List.length this;rw[hY,Ql] at this;omega
def fm(s:aw)(a:s.length<=1048576):∃n,dy (s,())=ab (n,()):=by
 unfold dy;dsimp only;have d:=pE Ax s;rw[Gx s a,aa];obtain⟨n,c,h⟩:=Kw (cX Ax s) ai;dsimp only;rw[h,aa];cases (ao (nt<|nt c) (aS (len<|cX Ax s)<|len s) true) with
 | true=>exact⟨_,rfl⟩
 | false=>exact⟨_,rfl⟩
def gD(b:aw)(a n:Nat):aw:=(b.drop a).take n
def cu(b:aw)(a n:Nat):(gD b a n).length<=n:=by simp[gD];omega
def oH(b:aw)(d:b.length=512)(k:Int)(a n:Nat)(c:idx aav k=ab ((a:Int),(n:Int),()))(h:a+n<=512):cd (b,k,())=ab (gD b a n,()):=by
 unfold cd;rw[YN,aa];dsimp only;rw[c,aa];dsimp only;rw[show aH .i64 (a:Int) (n:Int)=((a+n:Nat):Int) from xh ai,aU ai ai (by simp only[len];omega),ae];unfold sub minus gD;rw[pS,show(((a+n:Nat):Int)-(a:Int)).toNat=n by omega]
section
variable (b:aw)
def o0(a:b.length=512):cd (b,0,())=ab (gD b 0 100,()):=oH b a 0 0 100 rfl ai
def o1(a:b.length=512):cd (b,1,())=ab (gD b 100 8,()):=oH b a 1 100 8 rfl ai
def o2(a:b.length=512):cd (b,2,())=ab (gD b 108 8,()):=oH b a 2 108 8 rfl ai
def o3(a:b.length=512):cd (b,3,())=ab (gD b 116 8,()):=oH b a 3 116 8 rfl ai
def o4(a:b.length=512):cd (b,4,())=ab (gD b 124 12,()):=oH b a 4 124 12 rfl ai
def o5(a:b.length=512):cd (b,5,())=ab (gD b 136 12,()):=oH b a 5 136 12 rfl ai
def o6(a:b.length=512):cd (b,6,())=ab (gD b 148 8,()):=oH b a 6 148 8 rfl ai
def o7(a:b.length=512):cd (b,7,())=ab (gD b 156 1,()):=oH b a 7 156 1 rfl ai
def o8(a:b.length=512):cd (b,8,())=ab (gD b 157 100,()):=oH b a 8 157 100 rfl ai
def o9(a:b.length=512):cd (b,9,())=ab (gD b 257 8,()):=oH b a 9 257 8 rfl ai
def o10(a:b.length=512):cd (b,10,())=ab (gD b 345 155,()):=oH b a 10 345 155 rfl ai
end
def acm:Hd:=([],0,0,0,0,0,0,[],())
def Fb(b:aw)(a:b.length=512)(c:gD b 257 8≠nR):fF (b,())=ab (acm,2,()):=by
 unfold fF;dsimp only;rw[aE<|by simp only[len];omega,aF,az,ae,o9 b a,aa,aa,show([117,115,116,97,114,0,48,48]:aw)=nR from rfl];dsimp only;rw[show bG (gD b 257 8) nR=false from cL c,az,aF,af,aa,ae];rfl
def VW(b:aw)(a:b.length=512){n:Int}(e:dy (gD b 148 8,())=ab (n,()))(c:n≠(zK b 512:Int)):fF (b,())=ab (acm,2,()):=by
 by_cases d:gD b 257 8=nR
 .unfold fF;dsimp only;rw[aE<|by simp only[len];omega,aF,az,ae,o9 b a,aa,aa,show([117,115,116,97,114,0,48,48]:aw)=nR from rfl];dsimp only;rw[d,show bG nR nR=true from rW _,aF,az,ae,o6 b a,aa];dsimp only;rw[e,aa,Im b ai,aa];dsimp only;rw[a,ax c,az,aa,ae];rfl
 .exact Fb b a d
section
variable {h:Hd} {m u g z t:Nat} {kd:UInt8}
def ahK(n:Nat):∀x∈kG n,x=0:=λx a=>List.eq_of_mem_replicate a
end
def hA:Hd:=([100,47],2,493,0,0,0,1,[],())
def hC:Hd:=([100],2,0,0,0,1,0,[],())
abbrev Pt:=Hd×aw×al
def aiT(h:Hd):Int:=h.2.2.2.2.2.1
def am8(h:Hd):UInt8:=if h.2.1=1 then 48 else if h.2.1=2 then 53 else 50
def am9(h:Hd):aw:=am7 h h.2.2.1.toNat h.2.2.2.1.toNat h.2.2.2.2.1.toNat h.2.2.2.2.2.1.toNat h.2.2.2.2.2.2.1.toNat (am8 h)
def ana(p:Pt):Prop:=Kn p.1 100/\aiT p.1=(p.2.1.length:Int)
instance (p:Pt):Decidable (ana p):=inferInstanceAs (Decidable<|_/\_)
def vL(n:Nat):Nat:=(512-n % 512) % 512
def body(p:Pt):aw:=am9 p.1++p.2.1++kG (vL p.2.1.length)
def VX(n:Nat):vL n<512:=Bc _ aK
def VY(n:Nat)(c:n<=1048576):xc ((n:Int),())=ab ((vL n:Int),()):=by
 unfold xc;dsimp only;rw[show aS 512 0=false from rfl,af,af];have a:jK (n:Int) 512=((n % 512:Nat):Int):=rfl;rw[a,dL ai ai,show(512:Int)-((n % 512:Nat):Int)=((512-n % 512:Nat):Int) by omega];rfl
def VZ(n:Nat):Lib.repeatL [0] n=kG n:=by
 induction n with
 | zero=>rfl
 | succ n a =>
   show [0]++Lib.repeatL [0] n=kG (n+1)
   rw[a];rfl
def V0(n:Nat)(a:n<=1048576):D7 ((n:Int),())=ab (kG n,()):=by
 unfold D7;dsimp only;have:oT ([0],(n:Int),())=ab (kG n,()):=by
  show(gn [0] (n:Int)).map (λy=>(y,()))=_
  unfold gn;rw[aQ<|by rw[pS];simp only[eU,gj];omega,pS,VZ];rfl
 rw[this,aa]
def V1(n:Nat)(d:n<=1048576):nj ((n:Int),())=ab (((n+vL n:Nat):Int),()):=by
 unfold nj;dsimp only;have key:=dh (f:=lu) (r:=((((n+vL n:Nat):Int),()),())) (vL n) (λi=>((((n+i:Nat):Int),()),())) (λi a=>by
  have c:=a;unfold vL at c;unfold lu;dsimp only;rw[show aS 512 0=false from rfl,af,show jK ((n+i:Nat):Int) 512=(((n+i) % 512:Nat):Int) from rfl,ax ai,az,ae,aL ai];rfl) (by
  unfold lu;dsimp only;rw[show aS 512 0=false from rfl,af,show jK ((n+vL n:Nat):Int) 512=(((n+vL n) % 512:Nat):Int) from rfl,aE (by unfold vL;omega),aF,af];rfl)
 rw[show Loop lu (((n:Int),()),())=_ from key,aa]
def Ti(a:aw):(aC a).length=a.length:=uI ..
structure ap5 (l:List Pt) (n:Nat):Prop where
 many:l.length<=n
 path:∀p∈l,p.1.1.length<=300
 link:∀p∈l,p.1.2.2.2.2.2.2.2.1.length<=300
 data:∀p∈l,p.2.1.length<=8192
abbrev Rd:=Bool×aw×Int×Bool×Bool×al
def Tj:Pt:=(acm,[],())
def rd(r:aw)(n:Int):Rd:=(true,r,n,false,false,())
def Eb(n:Int)(b:Bool):Rd:=(true,[],n,true,b,())
def acn(r:aw)(n:Int)(b:Bool):bP ((),(true,r,n,true,b,()),())=ab ((Tj,false,()),(true,r,n,true,b,()),()):=by
 unfold bP;dsimp only;rfl
def GR(r:aw)(n:Int)(b:Bool):e7 ((b,()),rd r n,())=ab ((Tj,false,()),Eb n b,()):=rfl
def Nt(r:aw)(n:Int)(h:r.length<512):bP ((),rd r n,())=ab ((Tj,false,()),Eb n true,()):=by
 have e:=GR r n true;unfold bP;dsimp only[rd] at e⊢;rw[aF,az,ae,af,aP (by rw[bE];omega),ae,e,aa]
def Io(r:aw)(n:Int)(h:512<=r.length)(f:r.length<=1048576)(i:∀x∈r.take 512,x=0) :
  bP ((),rd r n,())=ab ((Tj,false,()),Eb n<|!decide (1024<=r.length/\r.length % 512=0/\∀x∈r,x=0),()):=by
 have e:=λb=>GR r n b;unfold bP;dsimp only[rd] at e⊢;have j:(r.take 512).length=512:=by rw[km];omega
 rw[aF,az,ae,af,aI (by rw[bE];omega),af,aU aK aK (by rw[bE];omega),ae,show sub r 0 (minus 512 0)=r.take 512 from ij r 512,M7 _ ai,dE ⟨j,i⟩,aa,ae];rw[show aS 512 0=false from rfl,af,show jK (len r) 512=((r.length % 512:Nat):Int) from rfl,show cj 1024 (len r)=decide (1024<=r.length) from by unfold cj len;apply hH.2;omega,show aS ((r.length % 512:Nat):Int) 0=decide (r.length % 512=0) from by unfold aS;apply hH.2;omega,VO r f];have k:decide ((cX cU r).dropWhile cU=[])=decide (∀x∈r,x=0):=hH.2 (xn r);by_cases a:1024<=r.length
 .by_cases b:r.length % 512=0
  .by_cases c:∀x∈r,x=0
   .have d:=(xn r).2 c;rw[dE a,ae,dE b,aa,aF,az,ae,aa,aa];dsimp only;rw[cN d,aF,e,aa,dE ⟨a,b,c⟩];rfl
   .have d:¬(cX cU r).dropWhile cU=[]:=λq=>c ((xn r).1 q);rw[dE a,ae,dE b,aa,aF,az,ae,aa,aa];dsimp only;rw[bw d,az,e,aa,cL λq=>c q.2.2];rfl
  .rw[dE a,ae,cL b,aa,az,aF,af,aa,e,aa,cL λq=>b q.2.1];rfl
 .rw[cL a,af,aa,az,aF,af,aa,e,aa,cL λq=>a q.1];rfl
def Q2(p:Pt)(a:List Pt)(e:Rd)(i:a.length<=1000){f:Pt}{c:Bool}{d:Rd}(h:bP ((),e,())=ab ((f,c,()),d,())) :
  iL (((),(),true,()),p,a,e,())=ab (.inl (((),(),c,()),f,a++[p],d,())):=by
 unfold iL;dsimp only;rw[ae,bo (by simp only[eU,gj];omega),ae,h,aa];rfl
def wP(p:Pt)(a:List Pt)(c:Rd):iL (((),(),false,()),p,a,c,())=ab (.inr (((),(),false,()),p,a,c,())):=rfl
def Q3(s:aw)(h:8192<s.length):fo (s,())=ab ([],10,()):=by
 unfold fo;dsimp only;rw[aP<|by rw[bE];omega,acn,aa];dsimp only;rw[aT,wP];rfl
def ajC(c:Bool)(h:Hd):∃x e,ag (ao c (ag (rk (h,(256:Int),())) λ(a:Bool×al)=>ab (nt a.1))<|some true) (λy=>ao y (ab (acm,(2:Int),())) (ab (h,(0:Int),())))=ab (x,e,())/\(e=0->Kn x 256):=by
 rw[VP,aa];cases c with
 | false=>exact⟨_,_,rfl,λq=>absurd q aK⟩
 | true =>
   by_cases d:Kn h 256
   .rw[dE d];exact⟨h,0,rfl,λ_=>d⟩
   .rw[cL d];exact⟨_,_,rfl,λq=>absurd q aK⟩
def aaw(b:aw)(a:b.length=512):∃x e,fF (b,())=ab (x,e,())/\(e=0->Kn x 256):=by
 by_cases d:gD b 257 8=nR
 case neg=>exact⟨_,_,Fb b a d,λe=>absurd e aK⟩
 obtain⟨j,f⟩:=fm (gD b 148 8) (by have:=cu b 148 8;omega);by_cases i:j=(zK b 512:Int)
 case neg=>exact⟨_,_,VW b a f i,λe=>absurd e aK⟩
 obtain⟨v,k⟩:=fm (gD b 100 8) (by have:=cu b 100 8;omega);obtain⟨w,l⟩:=fm (gD b 108 8) (by have:=cu b 108 8;omega);obtain⟨y,n⟩:=fm (gD b 116 8) (by have:=cu b 116 8;omega);obtain⟨A,o⟩:=fm (gD b 124 12) (by have:=cu b 124 12;omega);obtain⟨B,q⟩:=fm (gD b 136 12) (by have:=cu b 136 12;omega);have t0:=Gz (gD b 0 100) (by have:=cu b 0 100;omega);have r:=Gz (gD b 157 100) (by have:=cu b 157 100;omega);have t10:=Gz (gD b 345 155) (by have:=cu b 345 155;omega);have C:=pE cU (gD b 0 100);have l10:=pE cU (gD b 345 155);have m0:=cu b 0 100;have m10:=cu b 345 155;unfold fF;rw[aE<|by simp only[len];omega,aF,az,ae,o9 b a,aa,aa,show([117,115,116,97,114,0,48,48]:aw)=nR from rfl];rw[d,show bG nR nR=true from rW _,aF,az,ae,o6 b a,aa];rw[f,aa,Im b ai,aa];rw[a,aE i,aF,aa,af,o0 b a,aa];rw[t0,aa,o8 b a,aa];rw[r,aa,o10 b a,aa];rw[t10,aa];have c:∃p:aw,(ao (nt<|bG (cX cU<|gD b 345 155) []) (ao (fits<|plus (len<|cX cU<|gD b 345 155)<|len ([47]:aw)) (ao (fits<|plus (len<|app (cX cU<|gD b 345 155) [47])<|len<|cX cU<|gD b 0 100)
   (ab ((app (app (cX cU<|gD b 345 155) [47])<|cX cU<|gD b 0 100,()),())) ah) ah)<|some ((cX cU<|gD b 0 100,()),()))=ab ((p,()),()):=by
  cases (nt<|bG (cX cU<|gD b 345 155) []) with
  | true =>
    rw[ae,ec (by simp only[plus,len,eU,gj];omega),ae,ec (by simp only[plus,len,app,hY,eU,gj];omega),ae]
    grind
  | false=>exact⟨_,rfl⟩
 obtain⟨p,s⟩:=c;rw[s,aa,o1 b a,aa];rw[k,aa,o2 b a,aa];rw[l,aa,o3 b a,aa];rw[n,aa,o4 b a,aa];rw[o,aa,o5 b a,aa];rw[q,aa,o7 b a,aa];exact ajC _ _
def V2(r:aw)(n:Nat)(C:r.length<=10000):∃p c d,bP ((),rd r (n:Int),())=ab ((p,c,()),d,()) /\
  ((c=false/\∃b,d=Eb (n:Int) b)\/(c=true/\Kn p.1 256/\p.2.1.length<=r.length/\n<64/\∃j,d=rd j ((n+1:Nat):Int)/\j.length+512<=r.length)):=by
 by_cases a:r.length<512
 .exact⟨_,_,_,Nt r n a,.inl ⟨rfl,_,rfl⟩⟩
 by_cases l:∀x∈r.take 512,x=0
 .exact⟨_,_,_,Io r n ai ai l,.inl ⟨rfl,_,rfl⟩⟩
 have e:=λb=>GR r (n:Int) b;have o:(r.take 512).length=512:=by rw[km];omega
 obtain⟨x,s,v,w⟩:=aaw (r.take 512) o;have y:(r.drop 512).length=r.length-512:=nV;unfold bP;dsimp only[rd] at e⊢;rw[aF,az,ae,af,aI (by rw[bE];omega),af,aU aK aK (by rw[bE];omega),ae,show sub r 0 (minus 512 0)=r.take 512 from ij r 512];rw[M7 (r.take 512) ai,aa];rw[cL<|λq=>l q.2,af,ae,v,aa,aU aK (by rw[bE];omega) (sN _),ae,show sub r 512 (minus (len r) 512)=r.drop 512 from mG r 512 ai];by_cases f:s=0
 case neg =>
  rw[ax f,az,ae,e,aa]
  grind
 rw[aE f,aF,af];have i:=w f;obtain⟨A,D⟩:=i.2.2.2.1;obtain⟨k,B⟩:=adx A;rw[B];by_cases E:(r.drop 512).length<k
 .rw[aP<|by rw[bE];omega,ae,e,aa]
  grind
 .have F:=VX k;rw[aI<|by rw[bE];omega,af,VY k ai,aa,ff ai ai];by_cases G:(r.drop 512).length<k+vL k
  .rw[aP<|by rw[bE];omega,ae,e,aa]
   grind
  .rw[aI<|by rw[bE];omega,af];by_cases H:64<=n
   .rw[bO ai,ae,e,aa]
    grind
   .rw[ea ai,af,aa,ff ai ai,aU ai (by rw[bE];omega) (sN _),ae,aU ai ai (by rw[bE];omega),ae];rw[show sub (r.drop 512) 0 (minus (k:Int) 0)=(r.drop 512).take k from ij _ k,show(k:Int)+(vL k:Int)=((k+vL k:Nat):Int) by omega,mG _ (k+vL k) ai,aL ai]
    grind
def Nu{h:Hd}(k:Kn h 256):h.1.length<=300/\h.2.2.2.2.2.2.2.1.length<=300:=by
 obtain⟨_,_,_,_,_,⟨_,c,_⟩,a⟩:=k;refine⟨ai,?_⟩;rcases a with ⟨_,e⟩|⟨_,e,_⟩|⟨_,⟨_,e,_⟩,_⟩
 .grind
 .grind
 .omega
def RdP(p:Pt):Prop:=p.1.1.length<=300/\p.1.2.2.2.2.2.2.2.1.length<=300/\p.2.1.length<=8192
def aco:∀(m n:Nat) (r:aw) (out:List Pt) (p:Pt),r.length<=m->r.length<=8192->out.length+1=n->n<=64->(∀q∈out++[p],RdP q) ->
  ∃(a:List Pt) (e:Pt) (b:Int×Bool),Loop iL (((),(),true,()),p,out,rd r (n:Int),())=ab (((),(),false,()),e,a,Eb b.1 b.2,())/\a.length<=64/\∀q∈a,RdP q:=by
 intro m;induction m using Nat.strongRecOn with
 | _ m k =>
   intro n r out p E F G l s;obtain⟨f,v,w,x,y⟩:=V2 r n ai;have c:=Q2 p out (rd r (n:Int)) ai x;rcases y with ⟨rfl,b,rfl⟩|⟨rfl,A,H,I,i,rfl,J⟩
   .refine⟨out++[p],f,((n:Int),b),?_,by rw[hY];simp;omega,s⟩;rw[aT,c];show Loop _ _=_
    rw[aT,wP];rfl
   .have j:=Nu A;obtain⟨o,e,b,B,C,D⟩:=k i.length ai (n+1) i (out++[p]) f (cq _) ai (by rw[hY];simp;omega) ai (λq d=>by
     rcases Ht.1 d with d|d
     .grind
     .rw[yE] at d;subst d;exact⟨j.1,j.2,ai⟩)
    exact⟨o,e,b,by rw[aT,c];exact B,C,D⟩
def afy(s:aw):∃l e,fo (s,())=ab (l,e,())/\l.length<=64/\(∀q∈l,RdP q)/\(e=0\/(e=10/\l=[])):=by
 by_cases i:8192<s.length
 .exact⟨_,_,Q3 s i,aY,λq a=>(by cases a),.inr ⟨rfl,rfl⟩⟩
 obtain⟨p,w,x,j,k⟩:=V2 s 0 ai;have fin:∀(b:Int×Bool) (o:List Pt),(ag (iS ((),Eb b.1 b.2,())) λc=>ao c.1.1 (ab (([]:List Pt),(10:Int),())) (ab (o,(0:Int),())))=ab (if b.2=true then(([]:List Pt),(10:Int),()) else(o,(0:Int),())):=λb o=>by
  obtain⟨y,n⟩:=b;cases n<;>rfl
 unfold fo;dsimp only;rw[aI<|by rw[bE];omega,show bP ((),(true,s,(0:Int),false,false,()),())=_ from j,aa];rcases k with ⟨rfl,b,rfl⟩|⟨rfl,r,A,B,d,rfl,C⟩
 .rw[aT,wP];show ∃l e,(ag (iS ((),Eb _ _,())) λc=>ao c.1.1 (ab (([]:List Pt),(10:Int),())) (ab (([]:List Pt),(0:Int),())))=_/\_
  rw[fin (_,_)]
  grind
 .have f:=Nu r;obtain⟨o,D,b,v,E,F⟩:=aco d.length 1 d [] p (cq _) ai rfl ai (λq a=>by
   rw[BG,yE] at a;subst a;exact⟨f.1,f.2,ai⟩)
  rw[show Loop iL (((),(),true,()),p,([]:List Pt),rd d ((0+1:Nat):Int),())=_ from v,aa]
  grind
set_option maxRecDepth 100000
end Go.Ge
namespace Go.Ge
variable [Lp]
abbrev Nd:=aw×Int×Int×aw×aw×al
def La{a b:Int}:(cj a b=true)↔a<=b:=by
 constructor
 .intro h;rcases Int.lt_or_le b a with g|g
  .rw[ea g] at h;cases h
  .exact g
 .exact bO
def wv{a b:Int}:cj a b=decide (a<=b):=by
 rw[RH,La,pR]
def YO{p:aw}(k:p≠[]):((lB p).2=0/\(lB p).1=p)↔((parts p).all sQ=true/\(parts p).length<=8/\p.length<=96):=by
 constructor
 .rintro⟨c,e⟩;obtain⟨d,l⟩:=ab1 c;obtain⟨n,o,q⟩:=rr d;have r:parts p=names p:=by
   have:=Jt p
   grind
  grind
 .rintro⟨c,e,d⟩;have f:∀x∈parts p,nK x=true:=λx a=>by
   have:=vR.1 c x a;unfold sQ at this;unfold nK
   grind
  have i:names p=parts p:=Hs.2 f;have j:aN (names p)=p:=by rw[i,ga]
  have s:p.head?≠ab 47:=by
   rw[<-j];exact YD λx a=>⟨(wN p x a).1,(wN p x a).2.1⟩
  have v:nL p=true:=by
   unfold nL
   grind
  unfold lB
  grind
def xw(p:aw):Bool:=decide (p≠[])&&(parts p).all sQ&&decide ((parts p).length<=8)&&decide (p.length<=92)&&decide ((bp p).2.length<=28)&&decide ((nM (bp p).2).1=0)
def YP(p:aw)(c:p.length<=4096):uj (p,())=ab (xw p,()):=by
 unfold uj;rw[QX p c,aa,qT p ai,aa];rw[VS,aa];rw[jC,jC,jC,jC,jC]
 congr 2
 rw[RH];unfold xw;by_cases a:p=[]
 .subst a;simp[bG,nt]
 .have d:=YO a;simp only[gw,pR,aS,bG,Vu,La,len,zh,ZA]
  grind
def Q4(n:Nd):Bool:=if n.2.1=1 then decide (n.2.2.2.2.1=[]/\n.2.2.2.1.length<=8192) else if n.2.1=2 then decide (n.2.2.2.2.1=[]/\n.2.2.2.1=[]) else if n.2.1=3 then decide (n.2.2.2.1=[]/\n.2.2.2.2.1≠[]/\n.2.2.2.2.1.length<=100/\0∉n.2.2.2.2.1) else false
def gd(n:Nd):Bool:=xw n.1&&decide (0<=n.2.2.1)&&decide (n.2.2.1<=4095)&&Q4 n
def Pz(s:aw)(c:UInt8):dx (s,u8 c,())=ab (Lib.indexByte s c,()):=by
 have:(show Int from u8 c).toNat.toUInt8=c:=by simp[u8]
 unfold dx fM;rw[this];rfl
def aax(n:Nd)(j:n.1.length<=4096):zG (n,())=ab (gd n,()):=by
 obtain⟨p,k,m,d,l,u⟩:=n;unfold zG gd Q4;rw[YP p j,aa];have o:aZ m 0=!decide (0<=m):=by unfold aZ;by_cases h:m<0<;>simp[h]<;>omega
 have q:aZ 4095 m=!decide (m<=4095):=by unfold aZ;by_cases h:4095<m<;>simp[h]<;>omega
 rw[o,q];cases xw p with
 | false=>rfl
 | true =>
   cases decide (0<=m) with
   | false=>rfl
   | true =>
     cases decide (m<=4095) with
     | false=>rfl
     | true =>
       simp only[aF,az,ae,af,Bool.not_true,Bool.true_and];by_cases a:k=1
       .subst a;simp only[aS,LH,ae,vD,bG,wv,len,jC]
        congr 2
        grind
       .rw[show aS k 1=false by simp[aS,a],af,aQ a];by_cases c:k=2
        .subst c;simp only[aS,LH,ae,vD,bG,wv,len,jC];simp_all
        .rw[show aS k 2=false by simp[aS,c],af,aQ c];by_cases e:k=3
         .subst e;rw[show aS 3 3=true by rfl,ae,aW rfl,jC,jC,show((l,(0:Int),()):aw×Int×al)=(l,u8 0,()) by rfl,Pz,aa];have r:aZ (Lib.indexByte l 0) 0=decide (0∉l):=Ea l;rw[r];by_cases hd:d=[]
          .by_cases f:l=[]
           .subst hd f;rfl
           .by_cases i:l.length<=100
            .simp[bG,hd,f,wv,len,nt,ao,ag,i,show(l.length:Int)<=100 by omega]
            .simp[bG,hd,f,wv,len,nt,ao,ag,i,show ¬(l.length:Int)<=100 by omega]
          .simp[bG,hd,ao,ag]
         .rw[show aS k 3=false by simp[aS,e],af,aQ e]
def YQ(s:aw)(l:s.length<=1048576):si (s,())=ab (decide<|s≠[]/\s.length<=100/\0∉s,()):=by
 unfold si;rcases iQ (f:=nN (s,())) s (λi=>((false,i,()),())) (λ_ x=>decide (x=0)) (λi x=>(1,(false,(i:Int),()),())) ((0:Nat),(false,(s.length:Int),()),()) ai (λi x a c e=>by
  unfold nN;rw[aq c,ae,au a,aa,ak5,eA,e];by_cases j:x=0<;>simp[j]) (by unfold nN;dsimp only;rw[ay,af]) with ⟨i,x,a,n,_,h⟩|⟨o,h⟩
 .rw[h,aa,eZ,af]
  grind
 .rw[h,aa,bW,ae,jC];have d:(0:UInt8)∉s:=λd=>by
   obtain⟨i,c⟩:=bz.1 d
   grind
  congr 2
  rw[RH];simp only[gw,La,len,pR];constructor
  .grind
  .rintro⟨k,p,_⟩;exact⟨by have:=Ly.2 k;omega,ai⟩
def yp(n:Nd)(i:n.1.length<=4096)(j:n.2.2.2.2.1.length<=4096):lZ (n,())=ab (gd n,()):=by
 obtain⟨p,k,m,d,l,u⟩:=n;unfold lZ gd Q4;dsimp only at i j⊢;rw[v8 p i,aa];rw[Jv,aa,QW p ai,YQ l ai];simp only[aa,jC];have e0:(ao (nt<|bG p []) (ab<|(parts p).all sQ&&decide ((parts p).length<=8)&&decide (p.length<=96)) (ab false):Option Bool)=ab (decide (p≠[])&&(parts p).all sQ&&decide ((parts p).length<=8)&&decide (p.length<=96)):=by
  by_cases h:p=[]
  .subst h;rfl
  .simp[bG,h,ao,nt]
 rw[e0,aa];have o:((((((decide (p≠[])&&(parts p).all sQ&&decide ((parts p).length<=8)&&decide (p.length<=96))&&cj (len p) 92)&&cj (len (bp p).2) 28)&&aS (nM (bp p).2).1 0)&&cj 0 m)&&cj m 4095)=(xw p&&decide (0<=m)&&decide (m<=4095)):=by
  rw[RH];unfold xw;simp only[gw,La,len,aS,pR]
  grind
 simp only[o];generalize (xw p&&decide (0<=m)&&decide (m<=4095))=c;by_cases a:k=1
 .subst a;rw[show aS 1 1=true by rfl,ae,aW rfl]
  congr 2
  rw[Bool.and_assoc]
  congr 1
  rw[RH];simp[bG,wv,len];intro _;omega
 .rw[show aS k 1=false by simp[aS,a],af,aQ a];by_cases e:k=2
  .subst e;rw[show aS 2 2=true by rfl,ae,aW rfl]
   congr 2
   rw[Bool.and_assoc]
   congr 1
   rw[RH];simp[bG]
  .rw[show aS k 2=false by simp[aS,e],af,aQ e];by_cases f:k=3
   .subst f;rw[show aS 3 3=true by rfl,ae,aW rfl];cases c with
    | false=>rfl
    | true =>
      by_cases hd:d=[]
      .simp[bG,hd,ao,ag]
      .simp[bG,hd,ao,ag]
   .rw[show aS k 3=false by simp[aS,f],af,aQ f,adR]
def Sm(n:Nd):Prop:=n.1.length<=200/\n.2.2.2.2.1.length<=300/\n.2.2.2.1.length<=8192
def wx(l:List Nd):Prop:=l.length<=4096/\∀x∈l,Sm x
def key(n:Nd):List aw:=parts n.1
def cmp(n:Nd)(p:aw):Int:=cmpL (parts n.1) (parts p)
def wx.at{l:List Nd}(h:wx l){i:Nat}{x:Nd}(a:l[i]?=ab x):Sm x:=h.2 x (eT a)
def wx.take{l:List Nd}(h:wx l)(k:Nat):wx (l.take k):=⟨by rw[km];have:=h.1;omega,λx a=>h.2 x (Hq a)⟩
def Nv(n:Nd)(p:aw)(a:n.1.length<=4096)(c:p.length<=4096):mO (n,p,())=ab (cmp n p,()):=by
 unfold mO;rw[Cp _ _ a c,aa];rfl
def ahL{a b:Nat}(c:a<=1048576)(d:b<=1048576):kF .i64 (mE .u64 (kF .u64<|aH .i64 (a:Int) (b:Int)) 1)=(((a+b) / 2:Nat):Int):=by
 rw[ff ai ai,ahm ai ai];have e:mE .u64 ((a:Int)+(b:Int)) 1=(((a+b) / 2:Nat):Int):=by
  unfold mE;have f:(2:Int) ^ min 1 IntKind.u64.bits=2:=aK
  grind
 rw[e,Ao ai ai]
def acp(l:List Nd)(p:aw)(s:wx l)(E:p.length<=4096):∀(n lo hi:Nat),hi-lo<=n->lo<=hi->hi<=l.length ->
  ∃k:Nat,lo<=k/\k<=hi/\Loop (jP (l,p,())) (((lo:Int),(hi:Int),()),())=ab (((k:Int),(k:Int),()),()) /\
   ((∀(i j:Nat) (x y:Nd),i<=j->l[i]?=ab x->l[j]?=ab y->cmp y p<0->cmp x p<0)->(∀(j:Nat) (y:Nd),j<lo->l[j]?=ab y->cmp y p<0)->(∀(j:Nat) (y:Nd),hi<=j->l[j]?=ab y->¬cmp y p<0) ->
    (∀(j:Nat) (y:Nd),j<k->l[j]?=ab y->cmp y p<0)/\(∀(j:Nat) (y:Nd),k<=j->l[j]?=ab y->¬cmp y p<0)):=by
 intro n;induction n with
 | zero =>
   intro lo hi F G v;obtain rfl:hi=lo:=ai;refine⟨hi,cq _,cq _,?_,λ_ a b=>⟨a,b⟩⟩;rw[aT];unfold jP;rw[aI<|sN _,af];rfl
 | succ n w =>
   intro lo hi F G v;by_cases h:hi=lo
   .simp_all
   .have I:=s.1;have H:(lo+hi) / 2<l.length:=ai;obtain⟨x,f⟩:∃x,l[(lo+hi) / 2]?=ab x:=⟨_,ia H⟩;have d:jP (l,p,()) (((lo:Int),(hi:Int),()),())=ab (.inl<|if cmp x p<0 then(((((lo+hi) / 2+1:Nat):Int),(hi:Int),()),()) else(((lo:Int),(((lo+hi) / 2:Nat):Int),()),())):=by
     unfold jP;dsimp only;rw[aP ai,ae,aI aK,af,ahL ai ai,au f,aa,Nv x p (by have:=(s.at f).1;omega) E,aa];rw[aL ai];by_cases e:cmp x p<0
     .rw[aP e,aW e];rfl
     .rw[aI ai,aQ e];rfl
    rw[aT,d];by_cases e:cmp x p<0
    .obtain⟨k,A,B,o,q⟩:=w ((lo+hi) / 2+1) hi ai ai v;refine⟨k,ai,B,by rw[aW e];exact o,λa b c=>q a (λj y C D=>?_) c⟩
     grind
    .obtain⟨k,A,B,o,q⟩:=w lo ((lo+hi) / 2) ai ai ai;refine⟨k,A,ai,by rw[aQ e];exact o,λa b c=>q a b λj y C D r=>e (a _ _ x y C f D r)⟩
def Ord(l:List Nd):Prop:=∀(i j:Nat) (x y:Nd),i<j->l[i]?=ab x->l[j]?=ab y->cmpL (key x) (key y)<0
def Ord.mono{l:List Nd}(h:Ord l)(p:aw):∀(i j:Nat) (x y:Nd),i<=j->l[i]?=ab x->l[j]?=ab y->cmp y p<0->cmp x p<0:=by
 intro i j x y a c d e;rcases vS i j with g|g
 .exact tm (h i j x y g c d) e
 .grind
def Ord.take{l:List Nd}(h:Ord l)(k:Nat):Ord (l.take k):=λi j x y d a c=>by
 rw[jU] at a c;split at a
 .split at c
  .exact h i j x y d a c
  .cases c
 .cases a
structure Plc (l:List Nd) (p:aw) (k:Nat) (b:Bool):Prop where
 le:k<=l.length
 lo:∀(j:Nat) (y:Nd),j<k->l[j]?=ab y->cmp y p<0
 hi:∀(j:Nat) (y:Nd),k<=j->l[j]?=ab y->¬cmp y p<0
 is:b=true->∃x,l[k]?=ab x/\x.1=p
 no:b=false->∀x∈l,x.1≠p
def V3{n:Nd}{p:aw}(h:cmp n p=0):n.1=p:=by
 have:=abI h;rw[<-ga n.1,this,ga]
def Nw{n:Nd}{p:aw}(h:n.1=p):cmp n p=0:=by subst h;exact ng _
def Du(l:List Nd)(p:aw)(r:wx l)(s:p.length<=4096):∃(k:Nat) (b:Bool),eM (l,p,())=ab ((k:Int),b,())/\k<=l.length/\(b=true->k<l.length)/\(Ord l->Plc l p k b):=by
 obtain⟨k,_,i,w,A⟩:=acp l p r s l.length 0 l.length ai ai (cq _);have c:Loop (jP (l,p,())) ((0,len l,()),())=ab (((k:Int),(k:Int),()),()):=w;have a:=λ(h:Ord l)=>A (h.mono p) (λj y n=>ai) (λj y n d=>by have:=aG d;omega);by_cases o:k<l.length
 .obtain⟨x,f⟩:∃x,l[k]?=ab x:=⟨_,ia o⟩;refine⟨k,decide (cmp x p=0),?_,i,λ_=>o,λh=>⟨i,(a h).1,(a h).2,λq=>⟨x,f,V3 (iy q)⟩,λq y d e=>?_⟩⟩
  .unfold eM;rw[c,aa];rw[aq o,ae,au f,aa,Nv x p (by have:=(r.at f).1;omega) s,aa];rfl
  .obtain⟨j,n⟩:=bz.1 d;have B:=Nw e;rcases Qm j k with g|g|g
   .grind
   .grind
   .have v:=h k j x y g f n;rw[show key y=parts p by unfold key;rw[e]] at v;exact(a h).2 k x (cq _) f v
 .obtain rfl:k=l.length:=ai;refine⟨l.length,false,?_,i,λh=>(by cases h),λh=>⟨i,(a h).1,(a h).2,λh=>(by cases h),λq y d e=>?_⟩⟩
  .unfold eM;rw[c,aa];rw[ay,af]
  .obtain⟨j,n⟩:=bz.1 d;have B:=Nw e
   grind
def Dir(l:List Nd)(d:aw)(e:Int):Prop:=(d=[]/\e=0)\/(d≠[]/\(((∀x∈l,x.1≠d)/\e=3)\/∃x∈l,x.1=d/\((x.2.1=2/\e=0)\/(x.2.1≠2/\e=12))))
def aay(l:List Nd)(d:aw)(n:wx l)(o:d.length<=4096):∃e,ow (l,d,())=ab (e,())/\(Ord l->Dir l d e):=by
 unfold ow;by_cases c:d=[]
 .subst c;exact⟨0,rfl,λ_=>.inl ⟨rfl,rfl⟩⟩
 .rw[bw c,af];obtain⟨k,b,p,s,q,i⟩:=Du l d n o;rw[p,aa];cases b with
  | false =>
    exact⟨3,rfl,λh=>.inr ⟨c,.inl ⟨(i h).no rfl,rfl⟩⟩⟩
  | true =>
    have r:=q rfl;obtain⟨x,f⟩:∃x,l[k]?=ab x:=⟨_,ia r⟩;rw[aF,af,au f,aa];have j:Ord l->x.1=d:=λh=>by
     obtain⟨y,v,e⟩:=(i h).is rfl
     grind
    by_cases a:x.2.1=2
    .refine⟨0,?_,λh=>.inr ⟨c,.inr ⟨x,eT f,j h,.inl ⟨a,rfl⟩⟩⟩⟩;rw[aE a];rfl
    .refine⟨12,?_,λh=>.inr ⟨c,.inr ⟨x,eT f,j h,.inr ⟨a,rfl⟩⟩⟩⟩;rw[show aS x.2.1 2=false by simp[aS,a]];rfl
def Cw(l:List Nd)(p:aw)(d:wx l):(∃(i:Nat) (x:Nd),l[i]?=ab x/\x.1=p/\iE (l,p,())=ab ((i:Int),()))\/((∀x∈l,x.1≠p)/\iE (l,p,())=ab (-1,())):=by
 unfold iE;rcases iQ (f:=qE (l,p,())) l (λi=>((0,i,()),())) (λ_ x=>decide (x.1=p)) (λi x=>(1,((i:Int),(i:Int),()),())) ((0:Nat),(0,(l.length:Int),()),()) (by have:=d.1;omega) (λi x a c j=>by
  unfold qE;rw[aq c,ae,au a,aa,tX,j];by_cases h:x.1=p<;>simp[h,ao]) (by unfold qE;dsimp only;rw[ay,af]) with ⟨i,x,a,k,_,h⟩|⟨n,h⟩
 .left;refine⟨i,x,a,iy k,?_⟩;rw[h];rfl
 .right;refine⟨λx a e=>?_,by rw[h];rfl⟩;obtain⟨i,c⟩:=bz.1 a
  grind
def Nx(l:List Nd)(d:aw)(p:wx l):∃b,ox (l,d,())=ab (b,())/\(b=true->d=[]\/∃x∈l,x.1=d/\x.2.1=2)/\(Ord l->b=false->d≠[]/\∀x∈l,x.1=d->x.2.1≠2):=by
 unfold ox;by_cases f:d=[]
 .subst f;rcases Cw l [] p with ⟨i,x,a,c,h⟩|⟨_,h⟩<;>rw[h,aa]<;>exact⟨true,rfl,λ_=>.inl rfl,λ_ h=>by cases h⟩
 .rcases Cw l d p with ⟨i,x,a,c,h⟩|⟨s,h⟩
  .rw[h,aa,bw f,az,ae];rw[bO ai,ae,au a,aa,aa,aa];refine⟨_,rfl,λn=>.inr ⟨x,eT a,c,iy n⟩,λq n=>⟨f,λy v o A=>?_⟩⟩;have w:=adH n;obtain⟨j,r⟩:=bz.1 v;have k:key x=key y:=by unfold key;rw[c,o]
   rcases Qm i j with g|g|g
   .have:=q i j x y g a r;rw[k,ng] at this;omega
   .grind
   .have:=q j i y x g r a;rw[k,ng] at this;omega
  .rw[h,aa,bw f,az,ae];exact⟨false,rfl,λh=>(by cases h),λ_ _=>⟨f,λx a e=>absurd e (s x a)⟩⟩
structure Valid (l:List Nd):Prop where
 few:l.length<=64
 ord:Ord l
 may:∀x∈l,gd x=true
 up:∀x∈l,(bp x.1).1=[]\/∃y∈l,y.1=(bp x.1).1/\y.2.1=2
def Ny(p:aw):(bp p).1.length<=p.length:=by
 rcases rp p with ⟨_,h⟩|⟨a,b,c,_,h⟩
 .grind
 .grind
def xy{p:aw}(h:(bp p).1≠[]):parts p=parts (bp p).1++[(bp p).2]:=by
 rcases rp p with ⟨_,e⟩|⟨a,b,c,d,e⟩
 .grind
 .rw[e] at h⊢;have f:p≠[]:=by rw[c];simp
  unfold parts;rw[aQ f,aQ h,c];exact Co a b d
def Ord.uniq{l:List Nd}(h:Ord l){x y:Nd}(f:x∈l)(k:y∈l)(e:x.1=y.1):x=y:=by
 obtain⟨i,a⟩:=bz.1 f;obtain⟨j,c⟩:=bz.1 k;have d:key x=key y:=by unfold key;rw[e]
 rcases Qm i j with g|g|g
 .have:=h i j x y g a c;rw[d,ng] at this;omega
 .grind
 .have:=h j i y x g c a;rw[d,ng] at this;omega
def Nz{l:List Nd}(h:∀(k:Nat) (x y:Nd),l[k]?=ab x->l[k+1]?=ab y->cmpL (key x) (key y)<0):Ord l:=by
 have run:∀(d i:Nat) (x y:Nd),l[i]?=ab x->l[i+1+d]?=ab y->cmpL (key x) (key y)<0:=by
  intro d;induction d with
  | zero=>intro i x y c a;exact h i x y c a
  | succ d f =>
    intro i x y c a;have o:=aG a;obtain⟨z,e⟩:∃z,l[i+1+d]?=ab z:=⟨_,ia ai⟩;exact tm (f i x z c e) (h (i+1+d) z y e a)
 intro i j x y n c a;exact run (j-i-1) i x y c (by rw[show i+1+(j-i-1)=j by omega];exact a)
def Ec(l:List Nd)(i:Nat)(x:Nd):Bool:=match i with
 | 0=>false
 | k+1=>match l[k]? with
   | some y=>decide (0<=cmpL (key y) (key x))
   | none=>false
def AD{l:List Nd}{k:Nat}{x y:Nd}(a:l[k]?=ab y):Ec l (k+1) x=decide (0<=cmpL (key y) (key x)):=by
 show(match l[k]? with|some y=>decide (0<=cmpL (key y) (key x))|none=>false)=_
 rw[a]
noncomputable def V4(l:List Nd)(d:aw):Int:=match ow (l,d,()) with
 | some y=>y.1
 | none=>0
def NA(l:List Nd)(d:aw)(a:wx l)(c:d.length<=4096):ow (l,d,())=ab (V4 l d,())/\(Ord l->Dir l d (V4 l d)):=by
 obtain⟨e,f,i⟩:=aay l d a c;have:V4 l d=e:=by unfold V4;rw[f]
 grind
noncomputable def JA(l:List Nd)(d:aw):Bool:=match ox (l,d,()) with
 | some y=>y.1
 | none=>false
def Ip(l:List Nd)(d:aw)(a:wx l):ox (l,d,())=ab (JA l d,())/\(JA l d=true->d=[]\/∃x∈l,x.1=d/\x.2.1=2)/\(Ord l->JA l d=false->d≠[]/\∀x∈l,x.1=d->x.2.1≠2):=by
 obtain⟨e,c,f,i⟩:=Nx l d a;have:JA l d=e:=by unfold JA;rw[c]
 grind
def Q5{l:List Nd}(h:∀(i:Nat) (x:Nd),l[i]?=ab x->Ec l i x=false):Ord l:=Nz λk x y a c=>by
 have:=h (k+1) y c;rw[AD a] at this
 grind
def Q6{l:List Nd}(h:Ord l){i:Nat}{x:Nd}(a:l[i]?=ab x):Ec l i x=false:=by
 cases i with
 | zero=>rfl
 | succ k =>
   have d:=aG a;obtain⟨y,c⟩:∃y,l[k]?=ab y:=⟨_,ia ai⟩;rw[AD c];have:=h k (k+1) y x ai c a
   grind
def acq{l:List Nd}(h:Ord l){i:Nat}{x y:Nd}(c:l[i]?=ab x)(f:y∈l)(k:(bp x.1).1≠[])(e:y.1=(bp x.1).1):y∈l.take i:=by
 obtain⟨j,a⟩:=bz.1 f;have n:cmpL (key y) (key x)=-1:=by
  unfold key;rw[e,xy k];exact Vw _ _ aY
 rcases vS j i with g|g
 .exact eT (i:=j) (by rw[jU,aW g];exact a)
 .exfalso;rcases vS i j with d|d
  .have:=tm (h i j x y d c a) (show cmpL (key y) (key x)<0 by omega);rw[ng] at this;omega
  .obtain rfl:i=j:=ai;rw[c] at a;obtain rfl:=aR a;rw[ng] at n;omega
def mx(l:List Nd)(d:wx l):∃e,eN (l,())=ab (e,())/\(e=0↔Valid l):=by
 unfold eN;have v:aZ 64 (len l)=decide (64<l.length):=by unfold aZ len;apply hH.2;omega
 rw[v];by_cases D:64<l.length
 .rw[dE D,ae];exact⟨1,rfl,λh=>ai,λh=>by have:=h.few;omega⟩
 .rw[cL D,af];have j:∀{i:Nat} {x:Nd},l[i]?=ab x->(bp x.1).1.length<=4096:=λ{i x} hx=>by have:=(d.at hx).1;have:=Ny x.1;omega
  rcases iQ (f:=qD (l,())) l (λi=>((0,i,()),())) (λi x=>!gd x||Ec l i x||decide (V4 (l.take i) (bp x.1).1≠0)) (λi x=>(1,(1,(i:Int),()),())) ((0:Nat),(0,(l.length:Int),()),()) (by have:=d.1;omega) (λi x hx q G=>by
   unfold qD;dsimp only;rw[aq q,ae,au hx,aa,qT _ (by have:=(d.at hx).1;omega),aa,aax _ (by have:=(d.at hx).1;omega),aa];cases L:gd x with
   | false=>rfl
   | true =>
     rw[aF,af];have w:inside 0 (i:Int) (len l)=true:=mf (a:=0) (qO _) ai;have r:=(NA (l.take i) (bp x.1).1 (d.take i)<|j hx).1;rw[w,ae,ij,r,aa,G];cases i with
     | zero =>
       rw[aI aY,af];generalize V4 (l.take 0) (bp x.1).1=e;by_cases c:e=0
       .rw[aE c,aF,af];simp[Ec,c]
       .rw[show aS e 0=false by simp[aS,c],az,ae];simp[Ec,c]
     | succ k =>
       obtain⟨y,n⟩:∃y,l[k]?=ab y:=⟨_,ia ai⟩;rw[aP ai,ae,dL ai ai,show(((k+1:Nat):Int)-1)=(k:Int) by omega,au n,aa,Cp _ _ (by have:=(d.at n).1;omega) (by have:=(d.at hx).1;omega),aa];rw[wv];rw[AD n];unfold key;generalize V4 (l.take<|k+1) (bp x.1).1=e;by_cases E:0<=cmpL (parts y.1) (parts x.1)
       .rw[dE E,ae];simp
       .rw[cL E,af];by_cases c:e=0
        .rw[aE c,aF,af];simp[c]
        .rw[show aS e 0=false by simp[aS,c],az,ae];simp[c]) (by unfold qD;dsimp only;rw[ay,af]) with ⟨i,x,hx,H,_,h⟩|⟨M,h⟩
  .rw[h,aa,eZ,af];refine⟨1,rfl,λh=>ai,λp=>?_⟩;rw[p.may x<|eT hx,Q6 p.ord hx] at H;have hd:=(NA (l.take i) (bp x.1).1 (d.take i)<|j hx).2 (p.ord.take i);rcases hd with ⟨_,e⟩|⟨A,hd⟩
   .grind
   .rcases p.up x (eT hx) with N|⟨y,n,o,B⟩
    .grind
    .have I:=acq p.ord hx n A o;rcases hd with ⟨J,_⟩|⟨z,c,C,⟨_,e⟩|⟨K,_⟩⟩
     .grind
     .grind
     .have:=p.ord.uniq (Hq c) n (by rw[C,o])
      grind
  .rw[h,aa,bW,ae];have s:∀(i:Nat) (x:Nd),l[i]?=ab x->gd x=true/\Ec l i x=false/\V4 (l.take i) (bp x.1).1=0:=λi x hx=>by
    grind
   have F:Ord l:=Q5 λi x hx=>(s i x hx).2.1;refine⟨0,rfl,λ_=>⟨ai,F,λx hx=>?_,λx hx=>?_⟩,λ_=>rfl⟩
   .obtain⟨i,q⟩:=bz.1 hx
    grind
   .obtain⟨i,q⟩:=bz.1 hx;have hd:=(NA (l.take i) (bp x.1).1 (d.take i)<|j q).2 (F.take i);rw[(s i x q).2.2] at hd;rcases hd with ⟨e,_⟩|⟨_,⟨_,e⟩|⟨y,n,o,⟨B,_⟩|⟨_,e⟩⟩⟩
    .grind
    .omega
    .grind
    .omega
def tB(l:List Nd)(c:wx l):∃b,mm (l,())=ab (b,())/\(b=true↔Valid l):=by
 unfold mm;have o:aZ 64 (len l)=decide (64<l.length):=by unfold aZ len;apply hH.2;omega
 rw[o];by_cases q:64<l.length
 .rw[dE q,ae];exact⟨false,rfl,λh=>(by cases h),λh=>by have:=h.few;omega⟩
 .rw[cL q,af];rcases iQ (f:=uk (l,())) l (λi=>((false,i,()),())) (λi x=>!gd x||!JA l (bp x.1).1||Ec l i x) (λi x=>(1,(false,(i:Int),()),())) ((0:Nat),(false,(l.length:Int),()),()) (by have:=c.1;omega) (λi x a e s=>by
   unfold uk;dsimp only;rw[aq e,ae,au a,aa,v8 _ (by have:=(c.at a).1;omega),aa,aa,yp _ (by have:=(c.at a).1;omega) (by have:=(c.at a).2.1;omega),aa];cases A:gd x with
   | false=>rfl
   | true =>
     rw[aF,af,(Ip l (bp x.1).1 c).1,aa];cases B:JA l (bp x.1).1 with
     | false=>rfl
     | true =>
       rw[aF,af,s];cases i with
       | zero=>rw[aI aY,af];simp[Ec]
       | succ k =>
         obtain⟨y,j⟩:∃y,l[k]?=ab y:=⟨_,ia ai⟩;rw[aP ai,ae,dL ai ai,show(((k+1:Nat):Int)-1)=(k:Int) by omega,au j,aa,aa,Cq _ _ (by have:=(c.at j).1;omega) (by have:=(c.at a).1;omega),aa];rw[wv];rw[AD j];unfold key;by_cases r:0<=cmpL (parts y.1) (parts x.1)
         .rw[dE r,ae];simp
         .rw[cL r,af];simp) (by unfold uk;dsimp only;rw[ay,af]) with ⟨i,x,a,p,_,h⟩|⟨C,h⟩
  .rw[h,aa,eZ,af];refine⟨false,rfl,λh=>(by cases h),λn=>?_⟩;rw[n.may x<|eT a,Q6 n.ord a] at p;simp only[Bool.not_true,LF,adS,zh] at p;obtain⟨D,E⟩:=(Ip l (bp x.1).1 c).2.2 n.ord p;rcases n.up x (eT a) with F|⟨y,j,v,w⟩
   .grind
   .grind
  .rw[h,aa,bW,ae];have d:∀(i:Nat) (x:Nd),l[i]?=ab x->gd x=true/\JA l (bp x.1).1=true/\Ec l i x=false:=λi x a=>by
    grind
   refine⟨true,rfl,λ_=>⟨ai,Q5 λi x a=>(d i x a).2.2,λx a=>?_,λx a=>?_⟩,λ_=>rfl⟩
   .obtain⟨i,e⟩:=bz.1 a
    grind
   .obtain⟨i,e⟩:=bz.1 a;exact(Ip l (bp x.1).1 c).2.1 (d i x e).2.1
def takeWhile_eq{c:Type}{P:c->Bool}:∀{l:List c} {k:Nat},k<=l.length->(∀(j:Nat) (y:c),j<k->l[j]?=ab y->P y=true)->(∀y,l[k]?=ab y->P y=false)->l.takeWhile P=l.take k/\l.dropWhile P=l.drop k:=by
 intro l;induction l with
 | nil=>intro k e _ _;simp
 | cons a r n =>
   intro k e f i;cases k with
   | zero =>
     have:=i a rfl;simp[RF,Hr,this]
   | succ k =>
     have o:=f 0 a ai rfl;obtain⟨p,q⟩:=n (k:=k) (by simpa using e) (λj y s d=>f (j+1) y ai d) (λy d=>i y d);simp[RF,Hr,o,p,q]
def GS{c S R:Type}{f:S->Option (S⊕R)}(l:List c)(a:c->Bool)(i:Int->Int->List c->S)(k:Int->List c->R)(G:l.length<=4294967296)
  (d:∀(w j:Nat) (L:List c) (x:c),l[j]?=ab x->L[j]?=ab x->w<=j->j<L.length->aH .i64 (w:Int) 1=((w+1:Nat):Int)->aH .i64 (j:Int) 1=((j+1:Nat):Int) ->
   f (i (w:Int) (j:Int) L)=ab (.inl<|if a x=true then i (w:Int) ((j+1:Nat):Int) L else i ((w+1:Nat):Int) ((j+1:Nat):Int) (L.set w x)))
  (o:∀(w:Nat) (L:List c),f (i (w:Int) (L.length:Int) L)=ab (.inr<|k (w:Int) L)) :
  ∀(n w j:Nat) (L:List c),l.length-j<=n->w<=j->j<=l.length->L.length=l.length->L.take w=(l.take j).filter (λx=>!a x)->L.drop j=l.drop j ->
   ∃(w':Nat) (L':List c),Loop f (i (w:Int) (j:Int) L)=ab (k (w':Int) L')/\L'.length=l.length/\w'<=l.length/\L'.take w'=l.filter (λx=>!a x):=by
 intro n;induction n with
 | zero =>
   intro w j L E y D e p s;obtain rfl:j=L.length:=ai;refine⟨w,L,?_,e,ai,?_⟩
   .rw[aT,o];rfl
   .rw[p,e,DG]
 | succ n A =>
   intro w j L E y D e p s;by_cases F:j=l.length
   .exact A w j L ai y D e p s
   .have B:j<L.length:=ai;have hx:l[j]?=ab l[j]:=ia ai;have C:L[j]?=ab l[j]:=by
     have:=congrArg (λz=>z[0]?) s;simpa [tf,hx] using this
    have q:L.drop (j+1)=l.drop (j+1):=by
     have:=congrArg (List.drop 1) s;simpa [yG] using this
    have r:l.take (j+1)=l.take j++[l[j]]:=by rw[ED,hx];rfl
    rw[aT,d w j L l[j] hx C y B (aL ai) (aL ai)];by_cases v:a l[j]=true
    .rw[aW v];exact A w (j+1) L ai ai ai e (by rw[p,r,LA];simp[v]) q
    .rw[aQ v];refine A (w+1) (j+1) (L.set w l[j]) ai ai ai (by simpa using e) ?_ ?_
     .rw[r,LA,<-p,ED,List.take_set_of_le (cq w)];simp[v,show w<L.length by omega]
     .rw[List.drop_set_of_lt ai];exact q
def Cx{a:Type}(L:List a)(w:Nat)(c:w<=L.length)(m:List a):sub (over L (w:Int) m) 0 (minus (w:Int) 0)=L.take w:=by
 rw[ij];unfold over;rw[pS,uH,adr (by rw[km];omega),I0,adZ]
def GU{a:Type}(L:List a)(w:Nat)(c:w<=L.length)(z:a):len (over L (w:Int)<|kn (minus (len L) (w:Int)) z)=(L.length:Int):=by
 unfold over kn minus len;simp;omega
def filter_one{c:Type}{l:List c}{P:c->Bool}{k:Nat}{x:c}(f:l[k]?=ab x)(i:P x=false)(h:∀(j:Nat) (y:c),j≠k->l[j]?=ab y->P y=true):l.filter P=l.take k++l.drop (k+1):=by
 have n:=aG f;have e:l=l.take k++x::l.drop (k+1):=by
  conv=>lhs;rw[<-BR k l,zg n]
  rw[(ib.1 f).2]
 conv=>lhs;rw[e]
 rw[LA,List.filter_cons,i];have o:(l.take k).filter P=l.take k:=Hs.2 λy d=>by
  obtain⟨j,a⟩:=bz.1 d;rw[jU] at a;split at a
  .exact h j y ai a
  .cases a
 have p:(l.drop<|k+1).filter P=l.drop (k+1):=Hs.2 λy d=>by
  obtain⟨j,a⟩:=bz.1 d;rw[tf] at a;exact h (k+1+j) y ai a
 rw[o,p];simp
def u6(l:List Nd)(n:Nd):List Nd:=l.takeWhile (λx=>decide (cmp x n.1<0))++n::l.dropWhile (λx=>decide (cmp x n.1<0))
def gone(p:aw)(x:Nd):Bool:=decide (x.1=p)||dt (parts x.1) (parts p)
def pK(l:List Nd)(p:aw):List Nd:=l.filter λx=>!gone p x
def Ord.filter{l:List Nd}(h:Ord l)(P:Nd->Bool):Ord (l.filter P):=by
 have d:l.Pairwise λx y=>cmpL (key x) (key y)<0:=by
  rw[DC];intro i j e f a;exact h i j _ _ a (ia e) (ia f)
 have c:=d.filter P;rw[DC] at c;intro i j x y a k n;obtain⟨o,p⟩:=ib.1 k;obtain⟨q,r⟩:=ib.1 n;rw[<-p,<-r];exact c i j o q a
def wx.filter{l:List Nd}(h:wx l)(P:Nd->Bool):wx (l.filter P):=⟨jb (Ua _ _) h.1,λx a=>h.2 x (zj.1 a).1⟩
def ahM{l:List Nd}{n:Nd}{k:Nat}{b:Bool}(h:Plc l n.1 k b):u6 l n=l.take k++[n]++l.drop k:=by
 obtain⟨c,d⟩:=takeWhile_eq (P:=λx=>decide (cmp x n.1<0)) h.le (λj y e a=>dE (h.lo j y e a)) (λy a=>cL (h.hi k y (cq _) a));unfold u6;rw[c,d];simp
def NB{l:List Nd}(r:Valid l){p:aw}(B:p≠[])(C:∀x∈l,x.1≠p):∀(m:Nat) (x:Nd),x∈l->(parts x.1).length<=m->dt (parts x.1) (parts p)=false:=by
 intro m;induction m with
 | zero =>
   intro x j k;unfold dt;exact cL ai
 | succ m D =>
   intro x j k;cases s:dt (parts x.1) (parts p) with
   | false=>rfl
   | true =>
     exfalso;unfold dt at s;obtain⟨v,i⟩:=iy s;have c:=r.may x j;unfold gd xw at c;simp only[gw,pR] at c;by_cases d:(bp x.1).1=[]
     .have f:=c.1.1.1.1.1.1.1.2;have w:(parts x.1).length<=1:=by
       rcases rp x.1 with ⟨a,_⟩|⟨a,b,E,H,e⟩
       .unfold parts;split
        .simp
        .rw[ph _ a];simp
       .rw[e] at d;have d:a=[]:=d;subst d;have:sQ []=true:=vR.1 f [] (by
         unfold parts;rw[E,aQ aY];show []∈cB ([]++47::b)
         rw[E3 [] aY];simp)
        exact absurd this aK
      have:parts p=[]:=zY.1 ai;have:=ga p;rw[‹parts p=[]›] at this;exact B this.symm
     .have n:=xy d;rcases r.up x j with e|⟨y,A,o,F⟩
      .exact absurd e d
      .rw[<-o] at n;rw[n] at v i;have q:(parts p).length<=(parts y.1).length:=by simp at v;omega
       rw[adr q] at i;rcases vS (parts p).length (parts y.1).length with g|g
       .have:=D y A (by rw[n] at k;simp at k;omega);unfold dt at this;exact absurd ⟨g,i⟩ (adH this)
       .have G:parts p=parts y.1:=by rw[<-i,Hp ai]
        refine C y A ?_;rw[<-ga y.1,<-G,ga]
def YR{l:List Nd}(d:Valid l){p:aw}(e:p≠[])(a:∀x∈l,x.1≠p):pK l p=l:=Hs.2 λx c=>by
 unfold gone;rw[NB d e a _ x c<|cq _,cL (a x c)];rfl
open Classical in
noncomputable def bL(l:List Nd)(n:Nd):List Nd×Int :=
 if ¬Valid l\/gd n=false then([],1) else
 if(bp n.1).1≠[]/\∀x∈l,x.1≠(bp n.1).1 then([],3) else
 if(bp n.1).1≠[]/\∀x∈l,x.1=(bp n.1).1->x.2.1≠2 then([],12) else
 let r:=if(∃x∈l,x.1=n.1/\x.2.1=2)/\n.2.1=2 then l.filter (λx=>!decide (x.1=n.1)) else pK l n.1
 if 64<=r.length then([],5) else(u6 r n,0)
def aaz{n:Nd}(h:gd n=true):n.1≠[]:=by
 unfold gd xw at h
 grind
def ahN(l:List Nd)(k:Nat)(n:Nd)(c:k<=l.length)(e:l.length<=4096):bb l ((k:Int),[n],())=ab (l.take k++[n]++l.drop k):=by
 unfold bb uU;have d:inside 0 (k:Int) (len l)=true:=mf (a:=0) (qO _) c;rw[d,bo nU];simp
def V5(r:List Nd)(n:Nd)(a:wx r)(d:Ord r)(l:n.1.length<=200)(c:Int)(e:c=r.length) :
  ao (cj 64 c) (ab (([]:List Nd),(5:Int),())) (ag (eM (r,n.1,())) λ(y:Int×Bool×al)=>ag (bb r (y.1,[n],())) λz=>ab (z,(0:Int),())) =
   ab (if 64<=r.length then([],5,()) else(u6 r n,0,())):=by
 subst e;rw[wv];by_cases h:64<=r.length
 .rw[dE ai,ae,aW h]
 .rw[cL ai,af,aQ h];obtain⟨k,b,f,i,o,j⟩:=Du r n.1 a ai;rw[f,aa];rw[ahN r k n i a.1,aa,ahM (j d)]
def V6(x:Nd)(p:aw)(a:x.1.length<=200)(c:p.length<=200):ao (nt<|bG x.1 p) (ag (dF (x.1,p,())) λ(y:Bool×al)=>ab y.1) (ab true)=ab (gone p x):=by
 rw[zF _ _ ai ai,aa,tX];unfold gone;cases decide (x.1=p)<;>rfl
def acr(l:List Nd)(n:Nd)(a:wx l)(d:n.1.length<=200):(∃i x,l[i]?=ab x/\gone n.1 x=true/\(∀(j:Nat) y,j<i->l[j]?=ab y->gone n.1 y=false)/\Loop (nq (l,n,())) ((0,0,()),(),n.1,())=ab (1,((i:Int),(i:Int),()),(),n.1,())) \/
  ((∀(i:Nat) x,l[i]?=ab x->gone n.1 x=false)/\Loop (nq (l,n,())) ((0,0,()),(),n.1,())=ab (0,(0,(l.length:Int),()),(),n.1,())) :=
 iQ (f:=nq (l,n,())) l (λi=>((0,i,()),(),n.1,())) (λ_ x=>gone n.1 x) (λi x=>(1,((i:Int),(i:Int),()),(),n.1,())) (0,(0,(l.length:Int),()),(),n.1,()) (by have:=a.1;omega) (λi x c e k=>by
  unfold nq;dsimp only;rw[aq e,ae,aM ai ft,ae,au c,aa,V6 _ _ (a.at c).1 d,aa,k];cases gone n.1 x<;>rfl) (by unfold nq;dsimp only;rw[ay,af])
def acs(l:List Nd)(n:Nd)(k:wx l)(s:n.1.length<=200)(i:Nat)(x:Nd)(a:l[i]?=ab x)(E:gone n.1 x=true)(o:∀(j:Nat) y,j<i->l[j]?=ab y->gone n.1 y=false) :
  ∃(w:Nat) (L:List Nd),Loop (p8) (((i:Int),aH IntKind.i64 (i:Int) 1,(),()),(),n.1,l,())=ab (((w:Int),(l.length:Int),(),()),(),n.1,L,())/\L.length=l.length/\w<=l.length/\L.take w=pK l n.1:=by
 have hi:=aG a;have F:=k.1;have c:l.take i=(l.take<|i+1).filter (λx=>!gone n.1 x):=by
  rw[ED,a,LA];have p:(l.take i).filter (λx=>!gone n.1 x)=l.take i:=Hs.2 λy v=>by
   obtain⟨j,q⟩:=bz.1 v
   grind
  grind
 obtain⟨w,L,p,r,A,B⟩:=GS (f:=p8) l (gone n.1) (λw j L=>((w,j,(),()),(),n.1,L,())) (λw L=>((w,(L.length:Int),(),()),(),n.1,L,())) ai (λw j L x a d G q C o=>by
  unfold p8;dsimp only;have e:w<L.length:=ai;obtain⟨z,D⟩:∃z,L[w]?=ab z:=⟨_,ia e⟩;rw[aq q,ae,aM ai ft,ae,au d,aa,V6 _ _ (k.at a).1 s,aa,o];cases gone n.1 x with
  | true=>rfl
  | false =>
    rw[az,ae,aM ai ft,ae,au D,aa,aa,aa,aa,C,ig];rfl) (λw L=>by
  unfold p8;rw[ay,af];rfl) l.length i (i+1) l ai ai ai rfl c rfl
 refine⟨w,L,?_,r,A,B⟩;rw[aL ai,p,r]
def V7{l:List Nd}(o:Ord l){n x:Nd}{k:Nat}(f:l[k]?=ab x)(e:x.1=n.1):l.filter (λx=>!decide (x.1=n.1))=l.take k++l.drop (k+1)/\u6 (l.take k++l.drop (k+1)) n=l.take k++[n]++l.drop (k+1):=by
 have w:=aG f;have c:key x=parts n.1:=by unfold key;rw[e]
 have p:∀(j:Nat) (y:Nd),j<k->l[j]?=ab y->cmp y n.1<0:=λj y d a=>by
  have:=o j k y x d a f;rw[c] at this;exact this
 have q:∀(j:Nat) (y:Nd),k<j->l[j]?=ab y->¬cmp y n.1<0:=λj y d a v=>by
  have:=o k j x y d f a;rw[c] at this;have:=tm this v;rw[ng] at this;omega
 have i:(l.take k).length=k:=by rw[km];omega
 constructor
 .refine filter_one f (by rw[dE e];rfl) λj y d a=>?_;rw[cL];rfl;intro s;have A:=Nw s;rcases vS j k with g|g
  .grind
  .have r:key x=key y:=by rw[c];unfold key;rw[s]
   have:=o k j x y ai f a;rw[r,ng] at this;omega
 .obtain⟨B,C⟩:=takeWhile_eq (l:=l.take k++l.drop (k+1)) (k:=k) (P:=λx=>decide (cmp x n.1<0)) (by rw[hY,i];omega) (λj y d a=>by
   rw[Xe ai,jU,aW d] at a;exact dE (p j y d a)) (λy a=>by
   rw[aa4 ai,i,Nat.sub_self,tf] at a;exact cL (q _ y ai a))
  unfold u6
  grind
def acu{a:Type}{l:List a}{k:Nat}(c:k<l.length)(n:a):l.set k n=l.take k++[n]++l.drop (k+1):=by
 rw[aiy,aW c];simp
def JB(l:List Nd)(n:Nd)(f:wx l)(K:Sm n):tp (l,n,())=ab ((bL l n).1,(bL l n).2,()):=by
 obtain⟨e,M,H⟩:=mx l f;have o:=K.1;unfold tp;dsimp only;rw[M,aa,aax n ai,aa];by_cases a:¬Valid l\/gd n=false
 .have q:bL l n=([],1):=by unfold bL;rw[aW a]
  rw[q];have:ao (nt<|nt<|aS e 0) (ab<|nt<|gd n) (ab true)=ab true:=by
   rcases a with h|h
   .rw[show aS e 0=false by unfold aS;exact cL λs=>h (H.1 s)];rfl
   .rw[h];cases nt (nt<|aS e 0)<;>rfl
  rw[this,aa,ae]
 .have hv:Valid l:=by
   grind
  have N:gd n=true:=by
   grind
  obtain rfl:=H.2 hv;rw[N];have:ao (nt<|nt<|aS 0 0) (ab<|nt true) (ab true)=ab false:=rfl;rw[this,aa,af,qT _ ai,aa];obtain⟨d,O,P⟩:=aay l (bp n.1).1 f (by have:=Ny n.1;omega);rw[O,aa];by_cases E:(¬((bp n.1).1≠[]/\∀x∈l,x.1≠(bp n.1).1))/\(¬((bp n.1).1≠[]/\∀x∈l,x.1=(bp n.1).1->x.2.1≠2))/\d=0
  .obtain⟨Q,R,F⟩:=E;subst F;have q:bL l n=(let r:=if(∃x∈l,x.1=n.1/\x.2.1=2)/\n.2.1=2 then l.filter (λx=>!decide (x.1=n.1)) else pK l n.1
     if 64<=r.length then([],5) else(u6 r n,0)):=by
    unfold bL;rw[aQ a,aQ Q,aQ R]
   rw[show nt (aS 0 0)=false by rfl,af];obtain⟨k,b,S,p2,p3,T⟩:=Du l n.1 f ai;have p:=T hv.ord;rw[S,aa];obtain⟨C,U,V⟩:∃C,ao b (ag (idx l (k:Int)) λ(y:Nd)=>ab (aS y.2.1 2)) (ab false)=ab C/\(ao C (aS n.2.1 2) false=true↔((∃x∈l,x.1=n.1/\x.2.1=2)/\n.2.1=2)):=by
    cases b with
    | false =>
      refine⟨false,rfl,?_⟩;exact⟨λh=>(by cases h),λ⟨⟨x,hx,e,_⟩,_⟩=>absurd e (p.no rfl x hx)⟩
    | true =>
      obtain⟨x,hx,e⟩:=p.is rfl;refine⟨aS x.2.1 2,by rw[ae,au hx,aa],?_⟩;rw[jC,gw];unfold aS;rw[pR,pR];refine⟨λh=>⟨⟨x,eT hx,e,h.1⟩,h.2⟩,λ⟨⟨y,hy,W,X⟩,h2⟩=>?_⟩;have:=hv.ord.uniq (eT hx) hy (by rw[e,W])
      grind
   rw[U,aa];by_cases c:(∃x∈l,x.1=n.1/\x.2.1=2)/\n.2.1=2
   .rw[V.2 c,ae];have D:b=true:=by
     cases b with
     | true=>rfl
     | false=>obtain⟨⟨x,hx,e,_⟩,_⟩:=c;exact absurd e (p.no rfl x hx)
    obtain⟨x,hx,e⟩:=p.is D;have Y:=aG hx;rw[cO (by have:=f.1;omega),ae,aM ai ft,ae,au hx,aa,aa,aa,ig];obtain⟨Z,s2⟩:=V7 hv.ord hx e;have I:=hv.few;rw[aW c,Z] at q;have G:¬64<=(l.take k++l.drop (k+1)).length:=nU;rw[q];simp only[G,if_false];rw[s2,acu Y]
   .have hs:ao C (aS n.2.1 2) false=false:=by
     grind
    rw[hs,af,aa];rw[show nt (aS 0 0)=false by rfl,af,cO (by have:=f.1;omega),ae];rcases acr l n f o with ⟨i,x,hx,E,D,h⟩|⟨D,h⟩
    .obtain⟨w,L,w1,w2,w3,J⟩:=acs l n f o i x hx E D;rw[h,aa];rw[eZ,af,show aS (i:Int) (-1)=false by unfold aS;exact cL ai,af,w1,aa];dsimp only;rw[aU ai ft<|sN _,ae,GU L w ai,aU (sN _) ai ai,ae,Cx L w ai,J];have hlen:(pK l n.1).length=w:=by rw[<-J,km];omega
     refine zk (V5 (pK l n.1) n (f.filter _) (hv.ord.filter _) o (minus (w:Int) 0)<|by rw[hlen];unfold minus;omega) ?_
     grind
    .have hr:pK l n.1=l:=Hs.2 λx hx=>by
      obtain⟨j,hj⟩:=bz.1 hx
      grind
     rw[h,aa];rw[bW,ae,show aS (-1) (-1)=true by rfl,ae];have tv:=V5 l n f hv.ord o (len l) rfl
     grind
  .rcases P hv.ord with ⟨s,v⟩|⟨s,⟨c,v⟩|⟨x,hx,A,⟨B,v⟩|⟨B,v⟩⟩⟩
   .grind
   .subst v;have q:bL l n=([],3):=by unfold bL;rw[aQ a,aW ⟨s,c⟩]
    rw[q];rfl
   .grind
   .subst v;have q:bL l n=([],12):=by
     unfold bL;rw[aQ a,aQ (λh=>h.2 x hx A),aW ⟨s,λy hy e=>by
      have:=hv.ord.uniq hx hy (by rw[A,e]);subst this;exact B⟩]
    rw[q];rfl
def iv(l:List Nd)(p:aw)(b:Bool):List Nd:=l.filter λx=>!dt (parts x.1) (parts p)&&(!b||!decide (x.1=p))
def Cy(l:List Nd)(p:aw)(b:Bool)(d:wx l)(j:p.length<=4096):jQ (l,p,b,())=ab (iv l p b,()):=by
 unfold jQ;have q:=d.1;have c:∀m:List Nd,m.flatMap (λx=>if(!dt (parts x.1) (parts p)&&(!b||!decide (x.1=p)))=true then [x] else [])=iv m p b:=by
  intro m;unfold iv;induction m with
  | nil=>rfl
  | cons a r s =>
    grind
 have h:=rY (f:=jn (l,p,b,())) l (λa i=>(((),i,()),a,())) (λx=>if(!dt (parts x.1) (parts p)&&(!b||!decide (x.1=p)))=true then [x] else []) (((),(l.length:Int),()),iv l p b,()) ai (λi x e k n=>by
  unfold jn;have hlen:((l.take i).flatMap λx=>if(!dt (parts x.1) (parts p)&&(!b||!decide (x.1=p)))=true then [x] else []).length<=4096:=by
   rw[c];unfold iv
   grind
  rw[aq k,ae,au e,aa,SZ _ _ (by have:=(d.at e).1;omega) j,aa,aa,aa,n,bo (by simp only[DE];omega)];rw[tX];cases dt (parts x.1) (parts p)<;>cases b<;>cases decide (x.1=p)<;>simp[ao,nt,ag,dn,app]) (by
  unfold jn;rw[ay,af,c];rfl)
 have o:Loop (jn (l,p,b,())) (((),(0:Int),()),([]:List Nd),())=ab (((),(l.length:Int),()),iv l p b,()):=h;rw[o,aa]
def PA(l:List Nd)(p:aw):iv l p true=pK l p:=by
 unfold iv pK
 congr 1
 funext x;unfold gone
 grind
def V8(l r:List Nd)(n:Nd)(e:wx r)(o:n.1.length<=200):∃k:Nat,k<=r.length/\Loop (lF (l,n,()) ((r,()),())) (((0:Int),()),())=ab (((k:Int),()),())/\u6 r n=r.take k++[n]++r.drop k:=by
 have B:=e.1;rcases iQ (f:=lF (l,n,()) ((r,()),())) r (λi=>((i,()),())) (λ_ x=>!decide (cmp x n.1<0)) (λi _=>(((i:Int),()),())) (((r.length:Int),()),()) ai (λi x c p q=>by
  unfold lF;dsimp only;rw[aq p,ae,au c,aa,Cq _ _ (by have:=(e.at c).1;omega) ai,aa,q];unfold cmp aZ;cases decide (cmpL (parts x.1) (parts n.1)<0)<;>rfl) (by
  unfold lF;rw[ay,af];rfl) with ⟨i,x,c,s,v,h⟩|⟨o,h⟩
 .refine⟨i,by have:=aG c;omega,h,?_⟩;obtain⟨w,A⟩:=takeWhile_eq (l:=r) (k:=i) (P:=λx=>decide (cmp x n.1<0)) (by have:=aG c;omega) (λj y d a=>by
   have:=v j y d a;simpa using this) (λy a=>by
   rw[c] at a;obtain rfl:=aR a;simpa using s)
  unfold u6
  grind
 .refine⟨r.length,cq _,h,?_⟩;obtain⟨w,A⟩:=takeWhile_eq (l:=r) (k:=r.length) (P:=λx=>decide (cmp x n.1<0)) (cq _) (λj y d a=>by
   have:=o j y a;simpa using this) (λy a=>by
   have:=aG a;omega)
  unfold u6
  grind
def Cz(l r:List Nd)(n:Nd)(e:wx r)(f:n.1.length<=200) :
  ao (cj 64<|len r) (ab (([]:List Nd),(5:Int),())) (ag (Loop (lF (l,n,()) ((r,()),())) (((0:Int),()),())) λ(c:(Int×al)×al)=>ao (inside 0 c.1.1<|len r)
   (ao (fits<|plus (len ([]:List Nd))<|len<|sub r 0<|minus c.1.1 0)
   (ao (fits<|plus (len<|app ([]:List Nd)<|sub r 0<|minus c.1.1 0)<|len [n])
   (ao (inside c.1.1 (len r)<|len r)
   (ao (fits<|plus (len<|app (app ([]:List Nd)<|sub r 0<|minus c.1.1 0) [n])<|len<|sub r c.1.1<|minus (len r) c.1.1)
   (ab (app (app (app ([]:List Nd)<|sub r 0<|minus c.1.1 0) [n])<|sub r c.1.1<|minus (len r) c.1.1,(0:Int),()))
   ah) ah) ah) ah) ah)=ab (if 64<=r.length then([],5,()) else(u6 r n,0,())):=by
 rw[wv];by_cases h:64<=r.length
 .rw[dE ft,ae,aW h]
 .rw[cL ft,af,aQ h];obtain⟨k,d,i,j⟩:=V8 l r n e f;rw[i,aa];have o:inside 0 (k:Int) (len r)=true:=mf (a:=0) (qO _) d;have p:inside (k:Int) (len r) (len r)=true:=aU ai ft (sN _);rw[o,ae,ij,mG r k d,p];have q:fits (plus (len ([]:List Nd))<|len<|r.take k)=true:=bo (by rw[km];simp;omega);have s:fits (plus (len<|app ([]:List Nd)<|r.take k)<|len [n])=true:=bo (by rw[vm,BG,km];simp;omega);have v:fits (plus (len<|app (app ([]:List Nd)<|r.take k) [n])<|len<|r.drop k)=true:=bo (by rw[vm,vm,BG,hY,km,nV];simp;omega);rw[q,s,v,ae,ae,ae,ae,j];rfl
def CA(l:List Nd)(n:Nd)(k:wx l)(J:Sm n):oz (l,n,())=ab ((bL l n).1,(bL l n).2,()):=by
 obtain⟨e,N,K⟩:=tB l k;have s:=J.1;have Y:=k.1;unfold oz;dsimp only;rw[N,aa,yp n ai (by have:=J.2.1;omega),aa];by_cases f:¬Valid l\/gd n=false
 .have o:bL l n=([],1):=by unfold bL;rw[aW f]
  rw[o];have:ao (nt<|nt e) (ab<|nt<|gd n) (ab true)=ab true:=by
   rcases f with h|h
   .rw[show e=false by
     cases e with
     | false=>rfl
     | true=>exact absurd (K.1 rfl) h]
    rfl
   .rw[h];cases nt (nt e)<;>rfl
  rw[this,aa,ae]
 .have hv:Valid l:=by
   grind
  have L:gd n=true:=by
   grind
  obtain rfl:=K.2 hv;rw[L];have:ao (nt<|nt true) (ab<|nt true) (ab true)=ab false:=rfl;rw[this,aa,af,v8 _ ai,aa];obtain⟨w,O,P⟩:∃w,ao (nt<|bG (bp n.1).1 []) (ag (iE (l,(bp n.1).1,())) λ(y:Int×al)=>ab (aZ y.1 0)) (ab false)=ab w/\(w=true↔((bp n.1).1≠[]/\∀x∈l,x.1≠(bp n.1).1)):=by
   by_cases A:(bp n.1).1=[]
   .refine⟨false,by rw[A];rfl,λh=>(by cases h),λh=>absurd A h.1⟩
   .rw[bw A,az,ae];rcases Cw l (bp n.1).1 k with ⟨i,x,v,j,h⟩|⟨p,h⟩
    .refine⟨false,by rw[h,aa,aI ai],λh=>(by cases h),λh=>absurd j (h.2 x<|eT v)⟩
    .exact⟨true,by rw[h,aa];rfl,λ_=>⟨A,p⟩,λ_=>rfl⟩
  rw[O,aa];by_cases B:(bp n.1).1≠[]/\∀x∈l,x.1≠(bp n.1).1
  .have o:bL l n=([],3):=by unfold bL;rw[aQ f,aW B]
   rw[P.2 B,o];rfl
  .have:w=false:=by
    grind
   rw[this,af];obtain⟨d,Q,Z,R⟩:=Nx l (bp n.1).1 k;rw[Q,aa];by_cases C:(bp n.1).1≠[]/\∀x∈l,x.1=(bp n.1).1->x.2.1≠2
   .have o:bL l n=([],12):=by unfold bL;rw[aQ f,aQ B,aW C]
    have:d=false:=by
     grind
    rw[this,o];rfl
   .have:d=true:=by
     cases d with
     | true=>rfl
     | false=>exact absurd (R hv.ord rfl) C
    rw[this,show nt true=false by rfl,af];have o:bL l n=(let r:=if(∃x∈l,x.1=n.1/\x.2.1=2)/\n.2.1=2 then l.filter (λx=>!decide (x.1=n.1)) else pK l n.1
      if 64<=r.length then([],5) else(u6 r n,0)):=by
     unfold bL;rw[aQ f,aQ B,aQ C]
    rcases Cw l n.1 k with ⟨i,x,v,j,h⟩|⟨p,h⟩
    .have hi:=aG v;have q:=eT v;rw[h,aa];rw[bO ai,ae,au v,aa,aa];by_cases c:x.2.1=2/\n.2.1=2
     .obtain⟨M,s2⟩:=V7 hv.ord v j;rw[aW<|show((∃x∈l,x.1=n.1/\x.2.1=2)/\n.2.1=2) from⟨⟨x,q,j,c.1⟩,c.2⟩,M] at o;have S:inside 0 (i:Int) (len l)=true:=mf (a:=0) (qO _) ai;have T:inside ((i+1:Nat):Int) (len l) (len l)=true:=aU ai ft (sN _);rw[aE c.1,aE c.2,ae,ae,S,ae,ij,aL ai,T,mG l (i+1) ai];have U:fits (plus (len ([]:List Nd))<|len<|l.take i)=true:=bo (by rw[km];simp;omega);have V:fits (plus (len<|app ([]:List Nd)<|l.take i)<|len<|l.drop<|i+1)=true:=bo (by rw[vm,BG,km,nV];omega);rw[U,V,ae,ae,ae,aa];have W:wx (l.take i++l.drop (i+1)):=by rw[<-M];exact k.filter _
      refine zk (Cz l (l.take i++l.drop (i+1)) n W s) ?_
      grind
     .have X:ao (aS x.2.1 2) (aS n.2.1 2) false=false:=by
       unfold aS;by_cases D:x.2.1=2
       .rw[dE D,ae];exact cL λE=>c ⟨D,E⟩
       .rw[cL D,af]
      rw[aQ (show ¬((∃x∈l,x.1=n.1/\x.2.1=2)/\n.2.1=2) from λh=>by
       obtain⟨⟨y,F,G,H⟩,E⟩:=h;have:=hv.ord.uniq q F (by rw[j,G]);subst this;exact c ⟨H,E⟩)] at o
      rw[X,af,Cy l n.1 true k ai,PA];refine zk (Cz l (pK l n.1) n (k.filter _) s) ?_
      grind
    .have I:¬((∃x∈l,x.1=n.1/\x.2.1=2)/\n.2.1=2):=λ⟨⟨y,F,G,_⟩,_⟩=>p y F G;rw[aQ I,YR hv (aaz L) p] at o;rw[h,aa];refine zk (Cz l l n k s) ?_
     grind
end Go.Ge
